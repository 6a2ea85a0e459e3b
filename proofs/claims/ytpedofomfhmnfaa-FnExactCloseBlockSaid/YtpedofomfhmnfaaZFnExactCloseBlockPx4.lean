/- Cut by wip/cut.py out of the texts of this claim (printed by the kit's printer, or this session's own): what the row's theorem does not reach is struck. Not trusted: Lean checks it. -/
import Derived.Test.YtpedofomfhmnfaaZFnExactCloseBlockPx0
import Derived.Test.YtpedofomfhmnfaaZFnExactCloseBlockPx3
namespace Go.Proofs.Ytpedofomfhmnfaa.PFnExactCloseBlock
open Go.RowKit Go.Proofs.YtpedofomfhmnfaaW.PrintWords Go.Proofs.YtpedofomfhmnfaaW.PrintLast Go.Proofs.YtpedofomfhmnfaaW.PrintMore
attribute [local go_sem] max2_int min2_int max_two min_two max_three min_three max_four min_four
set_option linter.unusedVariables false
set_option linter.unusedSimpArgs false
def spec_avClose.l0 : Nat → Int → Int → Int → List (S58) → Int → Int → Bool → Option (Int × Int × (List (S58)))
 | 0, _, _, _, _, _, _, _ => none
 | k + 1, x5, x149000, x149001, x149002, x150000, x150001, x150002 => if x5 < (x149002.length : Int) then (if 0 ≤ x5 then ((spec_avLess.f ((ql x149002 x5).f0) ((ql x149002 x5).f1) ((ql x149002 x5).f2) x150000 x150001 x150002).bind fun t152 => (if t152 = true then (spec_avClose.l0 k (wrap64 (x5 + 1)) x149000 x149001 x149002 x150000 x150001 x150002) else ((some (([] : List (S58)) : List (S58))).bind fun y153 => (if x5 ≤ (x149002.length : Int) then ((some (x149002.take (x5 : Int).toNat : List (S58))).bind fun y156 => (if y153.length + y156.length < 5864062014805 then ((some (y153 ++ y156 : List (S58))).bind fun y160 => ((some (([(⟨x150000, x150001, x150002⟩ : S58)] : List (S58)) : List (S58))).bind fun y163 => (if y160.length + y163.length < 5864062014805 then ((some (y160 ++ y163 : List (S58))).bind fun y166 => ((some (x149002.drop (x5 : Int).toNat : List (S58))).bind fun y169 => (if y166.length + y169.length < 5864062014805 then (some (x149000, x149001, (y166 ++ y169))) else (none)))) else (none)))) else (none))) else (none))))) else (none)) else ((some (([] : List (S58)) : List (S58))).bind fun y176 => (if 0 ≤ x5 then (if x5 ≤ (x149002.length : Int) then ((some (x149002.take (x5 : Int).toNat : List (S58))).bind fun y179 => (if y176.length + y179.length < 5864062014805 then ((some (y176 ++ y179 : List (S58))).bind fun y183 => ((some (([(⟨x150000, x150001, x150002⟩ : S58)] : List (S58)) : List (S58))).bind fun y186 => (if y183.length + y186.length < 5864062014805 then ((some (y183 ++ y186 : List (S58))).bind fun y189 => ((some (x149002.drop (x5 : Int).toNat : List (S58))).bind fun y192 => (if y189.length + y192.length < 5864062014805 then (some (x149000, x149001, (y189 ++ y192))) else (none)))) else (none)))) else (none))) else (none)) else (none)))
def spec_avClose.f (k : Nat) (a0_0 : Int) (a0_1 : Int) (l0_2 : List (S58)) (a1_0 : Int) (a1_1 : Int) (a1_2 : Bool) : Option (Int × Int × (List (S58))) := spec_avClose.l0 k 0 a0_0 a0_1 l0_2 a1_0 a1_1 a1_2
theorem spec_avClose.zz : ∀ k, (∀ y0 y1 y2 y3 y4 y5 y6, LeO (spec_avClose.l0 k y0 y1 y2 y3 y4 y5 y6) (spec_avClose.l0 (k + 1) y0 y1 y2 y3 y4 y5 y6))
 | 0 => fun _ _ _ _ _ _ _ r h => by simp [spec_avClose.l0] at h
 | k + 1 => by
  have ih0 := spec_avClose.zz k
  ·intro y0 y1 y2 y3 y4 y5 y6
   unfold spec_avClose.l0
   repeat' first
   | (with_reducible exact ih0 _ _ _ _ _ _ _)
   | (with_reducible exact LeO.refl _)
   | (with_reducible exact LeO.none _)
   | (with_reducible refine LeO.ite ?_ ?_)
   | (with_reducible refine LeO.bind ?_ (fun _ => ?_))
   | exact ih0 _ _ _ _ _ _ _
   | exact LeO.none _
   | refine LeO.ite ?_ ?_
   | refine LeO.bind ?_ (fun _ => ?_)
theorem spec_avClose.mono : ∀ a0 a1 a2 a3 a4 a5 k, LeO (spec_avClose.f k a0 a1 a2 a3 a4 a5) (spec_avClose.f (k + 1) a0 a1 a2 a3 a4 a5) := by
 intro a0 a1 a2 a3 a4 a5 k
 have ih0 := spec_avClose.zz k
 unfold spec_avClose.f
 repeat' first
   | (with_reducible exact ih0 _ _ _ _ _ _ _)
   | (with_reducible exact LeO.refl _)
   | (with_reducible exact LeO.none _)
   | (with_reducible refine LeO.ite ?_ ?_)
   | (with_reducible refine LeO.bind ?_ (fun _ => ?_))
   | exact ih0 _ _ _ _ _ _ _
   | exact LeO.none _
   | refine LeO.ite ?_ ?_
   | refine LeO.bind ?_ (fun _ => ?_)
def spec_avClose.T2 : Bool × List (List Nat × List Nat) := (true, [([], []), ([], []), ([1], [1]), ([2], [2]), ([0, 3], [0, 3]), ([4], [4]), ([5], [5]), ([6, 5], [5, 6]), ([5], [5]), ([7, 8, 5], [5, 7, 8]), ([9, 5], [5, 9]), ([5], [5]), ([10, 11, 5, 5], [5, 10, 11]), ([5, 12], [5, 12])])
def spec_avClose.B2 : List Nat := [0, 0, 2, 6, 15, 31, 63, 127, 63, 511, 1023, 63, 4095, 8191]
theorem spec_avClose.tab2 : rtab .any (opsOf Try.f52 2) = spec_avClose.T2 := by kernel_rfl
theorem spec_avClose.bits2 : waitsOk spec_avClose.T2.2 spec_avClose.B2 = true := by kernel_rfl
def spec_avClose.T4 : Bool × List (List Nat × List Nat) := (true, [([], []), ([], []), ([1], [1]), ([], []), ([2, 3], [2, 3]), ([0, 4], [0, 4]), ([], []), ([6], [6]), ([5, 7, 5], [5, 7]), ([8, 8, 0, 1, 2, 3, 4, 5, 6, 7, 8], [8])])
def spec_avClose.B4 : List Nat := [0, 0, 2, 0, 14, 31, 0, 64, 255, 511]
theorem spec_avClose.tab4 : rtab .any (opsOf Try.f52 4) = spec_avClose.T4 := by kernel_rfl
theorem spec_avClose.bits4 : waitsOk spec_avClose.T4.2 spec_avClose.B4 = true := by kernel_rfl
def spec_avClose.T5 : Bool × List (List Nat × List Nat) := (true, [([], []), ([0], [0]), ([], []), ([2], [2]), ([], []), ([], []), ([5], [5]), ([], []), ([6, 7], [6, 7]), ([4, 8], [4, 8]), ([1, 3, 9], [1, 3, 9]), ([10, 9, 0, 1, 2, 3, 4, 5, 6, 7, 8, 9, 10], [10])])
def spec_avClose.B5 : List Nat := [0, 1, 0, 4, 0, 0, 32, 0, 224, 496, 1023, 2047]
theorem spec_avClose.tab5 : rtab .any (opsOf Try.f52 5) = spec_avClose.T5 := by kernel_rfl
theorem spec_avClose.bits5 : waitsOk spec_avClose.T5.2 spec_avClose.B5 = true := by kernel_rfl
set_option maxHeartbeats 8000000 in
set_option maxRecDepth 100000 in
theorem spec_avClose.calls (k : Nat) (a0_0 : Int) (a0_1 : Int) (A0_2 : Option Addr) (c0_2 : Nat) (l0_2 : List (S58)) (a1_0 : Int) (a1_1 : Int) (a1_2 : Bool) (r1 : Int) (r2 : Int) (r3 : List (S58)) (w : World) (hr0_2 : Kd.C k58 w A0_2 l0_2.length l0_2) (hc0_2 : l0_2.length ≤ c0_2) (h : spec_avClose.f k a0_0 a0_1 l0_2 a1_0 a1_1 a1_2 = some (r1, r2, r3)) :
  Calls Try.prog 52 #[.agg #[.int .i64 a0_0, .int .i64 a0_1, .slice A0_2 l0_2.length c0_2], .agg #[.int .i64 a1_0, .int .i64 a1_1, .bool a1_2]] w fun e w' => ∃ v2_ : Value, e = .returned (.agg #[.int .i64 r1, .int .i64 r2, v2_]) ∧ Kd.R k58 58 w' w.heap.size (fun _ => True) v2_ r3 ∧ Below w.heap.size w w' := by
 have hu31 := Try.underlying31
 have hu58 := Try.underlying58
 have HR0_2 := qb.mk hr0_2
 have HC0_2 := qb.mk hc0_2
 clear hr0_2 hc0_2
 have HB := qb.mk (Below.refl w.heap.size w)
 have H : (spec_avClose.l0 k 0 a0_0 a0_1 l0_2 a1_0 a1_1 a1_2) = some (r1, r2, r3) := h
 clear h
 have H' := qb.mk H
 clear H
 go_enter Try.func52, Try.ntmps52
 go_wp2_with (first | ((with_reducible refine qz (N := 2) rfl ?_); refine qx ?hg (N := 2) ?hd (cs := #[.int .i64 a0_0, .int .i64 a0_1, .slice A0_2 l0_2.length c0_2]) (t := 31) ?hr ?_; (case hd => rfl); (case hg => rfl); (case hr => first | (go_simp; done) | (go_simp; rfl)); intro gb148 hg w3 hbox hb; have n0_ := qb.mk (qp (be0_ HB) hb); have n1_ := qb.mk (hbox); have n2_ := qb.mk ((by rw [hg]; exact (qm (be0_ HB)) : w.heap.size ≤ gb148)); have n3_ := qb.mk ((by rw [hg]; exact (qm (be0_ HB)) : w.heap.size ≤ gb148)); clear HB; have HB := n0_; have BK148 := n1_; have GW148 := n2_; have GE148 := n3_; clear n0_ n1_ n2_ n3_; clear hb hbox hg) | ((with_reducible refine qz (N := 3) rfl ?_); refine qx ?hg (N := 3) ?hd (cs := #[.int .i64 a1_0, .int .i64 a1_1, .bool a1_2]) (t := 58) ?hr ?_; (case hd => rfl); (case hg => rfl); (case hr => first | (go_simp; done) | (go_simp; rfl)); intro gb149 hg w4 hbox hb; have n0_ := qb.mk (qk (g := gb148) (o := .cells #[.int .i64 a0_0, .int .i64 a0_1, .slice A0_2 l0_2.length c0_2] 31 (0, 0)) (bk_ BK148) hb); have n1_ := qb.mk (qp (be1_ HB GE148) hb); have n2_ := qb.mk (hbox); have n3_ := qb.mk ((by rw [hg]; exact (qm (be1_ HB GE148)) : w.heap.size ≤ gb149)); have n4_ := qb.mk ((by rw [hg]; exact (qm (be1_ HB GE148)) : w.heap.size ≤ gb149)); have n5_ := qb.mk ((by rw [hg]; exact Nat.ne_of_lt (qw (g := gb148) (o := .cells #[.int .i64 a0_0, .int .i64 a0_1, .slice A0_2 l0_2.length c0_2] 31 (0, 0)) (bk_ BK148)) : gb148 ≠ gb149)); have n6_ := qb.mk ((by rw [hg]; exact Nat.ne_of_gt (qw (g := gb148) (o := .cells #[.int .i64 a0_0, .int .i64 a0_1, .slice A0_2 l0_2.length c0_2] 31 (0, 0)) (bk_ BK148)) : gb149 ≠ gb148)); clear BK148; clear HB; have BK148 := n0_; have HB := n1_; have BK149 := n2_; have GW149 := n3_; have GE149 := n4_; have NB148_149 := n5_; have NB149_148 := n6_; clear n0_ n1_ n2_ n3_ n4_ n5_ n6_; clear hb hbox hg) | ((with_reducible refine qz (N := 4) rfl ?_); refine qx ?hg (N := 4) ?hd (cs := #[.int .i64 0, .int .i64 0, .slice none 0 0]) (t := 31) ?hr ?_; (case hd => rfl); (case hg => rfl); (case hr => first | (go_simp; done) | (go_simp; rfl)); intro gb150 hg w5 hbox hb; have n0_ := qb.mk (qk (g := gb148) (o := .cells #[.int .i64 a0_0, .int .i64 a0_1, .slice A0_2 l0_2.length c0_2] 31 (0, 0)) (bk_ BK148) hb); have n1_ := qb.mk (qk (g := gb149) (o := .cells #[.int .i64 a1_0, .int .i64 a1_1, .bool a1_2] 58 (0, 0)) (bk_ BK149) hb); have n2_ := qb.mk (qp (be2_ HB GE148 GE149) hb); have n3_ := qb.mk (hbox); have n4_ := qb.mk ((by rw [hg]; exact (qm (be2_ HB GE148 GE149)) : w.heap.size ≤ gb150)); have n5_ := qb.mk ((by rw [hg]; exact (qm (be2_ HB GE148 GE149)) : w.heap.size ≤ gb150)); have n6_ := qb.mk ((by rw [hg]; exact Nat.ne_of_lt (qw (g := gb148) (o := .cells #[.int .i64 a0_0, .int .i64 a0_1, .slice A0_2 l0_2.length c0_2] 31 (0, 0)) (bk_ BK148)) : gb148 ≠ gb150)); have n7_ := qb.mk ((by rw [hg]; exact Nat.ne_of_gt (qw (g := gb148) (o := .cells #[.int .i64 a0_0, .int .i64 a0_1, .slice A0_2 l0_2.length c0_2] 31 (0, 0)) (bk_ BK148)) : gb150 ≠ gb148)); have n8_ := qb.mk ((by rw [hg]; exact Nat.ne_of_lt (qw (g := gb149) (o := .cells #[.int .i64 a1_0, .int .i64 a1_1, .bool a1_2] 58 (0, 0)) (bk_ BK149)) : gb149 ≠ gb150)); have n9_ := qb.mk ((by rw [hg]; exact Nat.ne_of_gt (qw (g := gb149) (o := .cells #[.int .i64 a1_0, .int .i64 a1_1, .bool a1_2] 58 (0, 0)) (bk_ BK149)) : gb150 ≠ gb149)); clear BK148; clear BK149; clear HB; have BK148 := n0_; have BK149 := n1_; have HB := n2_; have BK150 := n3_; have GW150 := n4_; have GE150 := n5_; have NB148_150 := n6_; have NB150_148 := n7_; have NB149_150 := n8_; have NB150_149 := n9_; clear n0_ n1_ n2_ n3_ n4_ n5_ n6_ n7_ n8_ n9_; clear hb hbox hg))
 go_loopg [5] k (fun kq v5 w' => ∃ (x5_1 : Int), v5 = .int .i64 x5_1 ∧ qb (spec_avClose.l0 kq x5_1 a0_0 a0_1 l0_2 a1_0 a1_1 a1_2 = some (r1, r2, r3)) ∧ qb (kq ≤ k) ∧ qb (w'.heap[gb148]? = some (.cells #[.int .i64 a0_0, .int .i64 a0_1, (.slice A0_2 l0_2.length c0_2)] 31 (0, 0))) ∧ qb (w'.heap[gb149]? = some (.cells #[.int .i64 a1_0, .int .i64 a1_1, .bool a1_2] 58 (0, 0))) ∧ qb (w'.heap[gb150]? = some (.cells #[.int .i64 0, .int .i64 0, (.slice none 0 0)] 31 (0, 0))) ∧ qb (Below w.heap.size w w'))
 case atStart => exact ⟨(0), (by first | rfl | (simp; done) | (simp [*]; done)), H', ⟨Nat.le_refl _⟩, ⟨bk_ BK148⟩, ⟨bk_ BK149⟩, ⟨bk_ BK150⟩, ⟨be3_ HB GE148 GE149 GE150⟩⟩
 case round =>
  clear H'
  obtain ⟨x5_1, rfl, HA, HK1, BK148, BK149, BK150, HB⟩ := hrel
  cases gk with
  | zero => exact absurd HA.out (by simp [spec_avClose.l0])
  | succ k1 =>
   have H := HA.out
   clear HA
   simp only [spec_avClose.l0] at H
   by_cases c6 : x5_1 < (l0_2.length : Int)
   ·rw [if_pos c6] at H
    have c6b0 : decide (x5_1 < (l0_2.length : Int)) = true := decide_eq_true c6
    clear c6
    by_cases c7 : 0 ≤ x5_1
    ·rw [if_pos c7] at H
     have c7b0 : decide (0 ≤ x5_1) = true := decide_eq_true c7
     clear c7
     replace H := Option.bind_eq_some_iff.mp H
     obtain ⟨t152, A80, H⟩ := H
     replace H : (if t152 = true then (spec_avClose.l0 k1 (wrap64 (x5_1 + 1)) a0_0 a0_1 l0_2 a1_0 a1_1 a1_2) else ((some (([] : List (S58)) : List (S58))).bind fun y153 => (if x5_1 ≤ (l0_2.length : Int) then ((some (l0_2.take (x5_1 : Int).toNat : List (S58))).bind fun y156 => (if y153.length + y156.length < 5864062014805 then ((some (y153 ++ y156 : List (S58))).bind fun y160 => ((some (([(⟨a1_0, a1_1, a1_2⟩ : S58)] : List (S58)) : List (S58))).bind fun y163 => (if y160.length + y163.length < 5864062014805 then ((some (y160 ++ y163 : List (S58))).bind fun y166 => ((some (l0_2.drop (x5_1 : Int).toNat : List (S58))).bind fun y169 => (if y166.length + y169.length < 5864062014805 then (some (a0_0, a0_1, (y166 ++ y169))) else (none)))) else (none)))) else (none))) else (none)))) = some (r1, r2, r3) := H
     have A8 := qb.mk A80
     clear A80
     by_cases c9 : t152 = true
     ·subst c9
      have H1 : (spec_avClose.l0 k1 (wrap64 (x5_1 + 1)) a0_0 a0_1 l0_2 a1_0 a1_1 a1_2) = some (r1, r2, r3) := by rw [if_pos rfl] at H; exact H
      clear H
      have H := H1
      clear H1
      have H' := qb.mk H
      clear H
      try go_wp2
      have n0_ := qb.mk (qg BK148.out)
      have n1_ := qb.mk (qg BK149.out)
      have n2_ := qb.mk (qg BK150.out)
      have n3_ := qb.mk (qh HB.out)
      clear BK148
      clear BK149
      clear BK150
      clear HB
      have BK148 := n0_
      have BK149 := n1_
      have BK150 := n2_
      have HB := n3_
      clear n0_ n1_ n2_ n3_
      have p151 : 0 ≤ (x5_1 : Int) := of_decide_eq_true (by first | (with_reducible assumption) | assumption)
      have q151 : x5_1 < (l0_2.length : Int) := of_decide_eq_true (by first | (with_reducible assumption) | assumption)
      obtain ⟨ad151, e151, hx151_0, hx151_1, hx151_2⟩ := ja HR0_2.out x5_1 p151 q151
      have hw151_2 := hx151_2
      have hw151_1 := hx151_1
      have hw151_0 := hx151_0
      cases e151
      replace hx151_0 := (HB.out.cell (World.block_lt_of_cell? w _ hx151_0)).trans hx151_0
      replace hx151_1 := (HB.out.cell (World.block_lt_of_cell? w _ hx151_1)).trans hx151_1
      replace hx151_2 := (HB.out.cell (World.block_lt_of_cell? w _ hx151_2)).trans hx151_2
      replace p151 := eq_true p151
      replace q151 := eq_true q151
      refine jd (n := 14) (S := fun w' => w'.cell? ⟨gb148, 0, none⟩ = some (.int .i64 a0_0) ∧ w'.cell? ⟨gb148, 1, none⟩ = some (.int .i64 a0_1) ∧ w'.cell? ⟨gb148, 2, none⟩ = some (.slice (some ad151) l0_2.length c0_2) ∧ w'.cell? ⟨gb149, 0, none⟩ = some (.int .i64 a1_0) ∧ w'.cell? ⟨gb149, 1, none⟩ = some (.int .i64 a1_1) ∧ w'.cell? ⟨gb149, 2, none⟩ = some (.bool a1_2) ∧ w'.cell? (ad151.add ((x5_1).toNat * 3)) = some (.int .i64 ((ql l0_2 x5_1).f0)) ∧ w'.cell? ⟨(ad151.add ((x5_1).toNat * 3)).block, (ad151.add ((x5_1).toNat * 3)).off + 1, none⟩ = some (.int .i64 ((ql l0_2 x5_1).f1)) ∧ w'.cell? ⟨(ad151.add ((x5_1).toNat * 3)).block, (ad151.add ((x5_1).toNat * 3)).off + 2, none⟩ = some (.bool ((ql l0_2 x5_1).f2))) (ds := []) #[false, false, false, false, false, false, false, false, false, false, false, false, false, false] (by kernel_rfl) rfl rfl ⟨(qf BK148.out 0).trans rfl, (qf BK148.out 1).trans rfl, (qf BK148.out 2).trans rfl, (qf BK149.out 0).trans rfl, (qf BK149.out 1).trans rfl, (qf BK149.out 2).trans rfl, ((HB.out.cell (World.block_lt_of_cell? w _ hw151_0)).trans hw151_0), ((HB.out.cell (World.block_lt_of_cell? w _ hw151_1)).trans hw151_1), ((HB.out.cell (World.block_lt_of_cell? w _ hw151_2)).trans hw151_2)⟩ (fun hHeld => ?_); refine zx spec_avClose.tab2 spec_avClose.bits2 (fun HT_ HW_ => ?_)
      generalize wr.drew = w10 at BK148 BK149 BK150 HB hx151_0 hx151_1 hx151_2 hHeld ⊢
      refine pure_ (i := 0) (N := some 7) (v := ?_) (a' := ?_) #[true, false, false, false, false, false, false, false, false, false, false, false, false, false] rfl rfl (qt HT_.out (by kernel_rfl)) (fun _ _ _ h => h) (Or.inl ⟨by rfl, ?_⟩) ?_ ?_
      rotate_left
      ·intro w'
       go_simp
       with_reducible rfl
      rotate_left
      ·simp only [Act.put, sA_, sB_, sC_, i64_w, i32_w]
       rfl
      refine pure_ (i := 1) (N := some 8) (v := ?_) (a' := ?_) #[true, true, false, false, false, false, false, false, false, false, false, false, false, false] rfl rfl (qt HT_.out (by kernel_rfl)) (fun _ _ _ h => h) (Or.inl ⟨by rfl, ?_⟩) ?_ ?_
      rotate_left
      ·intro w'
       go_simp
       with_reducible rfl
      rotate_left
      ·simp only [Act.put, sA_, sB_, sC_, i64_w, i32_w]
       rfl
      refine take_ (i := 2) (N := some 9) (v := ?_) (a' := ?_) #[true, true, true, false, false, false, false, false, false, false, false, false, false, false] rfl rfl (ze HT_.out HW_.out (by kernel_rfl)) (fun _ _ _ h => h) (Or.inl ⟨by rfl, ?_⟩) hHeld ?_ ?_
      rotate_left
      ·rintro w' ⟨s0, s1, s2, s3, s4, s5, s6, s7, s8⟩
       go_simp
       with_reducible rfl
      rotate_left
      ·simp only [Act.put, sA_, sB_, sC_, i64_w, i32_w]
       rfl
      refine pure_ (i := 3) (N := some 10) (v := ?_) (a' := ?_) #[true, true, true, true, false, false, false, false, false, false, false, false, false, false] rfl rfl (qt HT_.out (by kernel_rfl)) (fun _ _ _ h => h) (Or.inl ⟨by rfl, ?_⟩) ?_ ?_
      rotate_left
      ·intro w'
       go_simp
       with_reducible rfl
      rotate_left
      ·simp only [Act.put, sA_, sB_, sC_, i64_w, i32_w]
       rfl
      refine pure_ (i := 4) (N := some 11) (v := ?_) (a' := ?_) #[true, true, true, true, true, false, false, false, false, false, false, false, false, false] rfl rfl (qt HT_.out (by kernel_rfl)) (fun _ _ _ h => h) (Or.inl ⟨by rfl, ?_⟩) ?_ ?_
      rotate_left
      ·intro w'
       go_simp
       with_reducible rfl
      rotate_left
      ·simp only [Act.put, sA_, sB_, sC_, i64_w, i32_w]
       rfl
      refine pure_ (i := 5) (N := some 12) (v := ?_) (a' := ?_) #[true, true, true, true, true, true, false, false, false, false, false, false, false, false] rfl rfl (qt HT_.out (by kernel_rfl)) (fun _ _ _ h => h) (Or.inl ⟨by rfl, ?_⟩) ?_ ?_
      rotate_left
      ·intro w'
       go_simp
       with_reducible rfl
      rotate_left
      ·simp only [Act.put, sA_, sB_, sC_, i64_w, i32_w]
       rfl
      refine pure_ (i := 6) (N := some 13) (v := ?_) (a' := ?_) #[true, true, true, true, true, true, true, false, false, false, false, false, false, false] rfl rfl (qt HT_.out (by kernel_rfl)) (fun _ _ _ h => h) (Or.inl ⟨by rfl, ?_⟩) ?_ ?_
      rotate_left
      ·intro w'
       go_simp
       with_reducible rfl
      rotate_left
      ·simp only [Act.put, sA_, sB_, sC_, i64_w, i32_w]
       rfl
      refine pure_ (i := 8) (N := some 15) (v := ?_) (a' := ?_) #[true, true, true, true, true, true, true, false, true, false, false, false, false, false] rfl rfl (qt HT_.out (by kernel_rfl)) (fun _ _ _ h => h) (Or.inl ⟨by rfl, ?_⟩) ?_ ?_
      rotate_left
      ·intro w'
       go_simp
       with_reducible rfl
      rotate_left
      ·simp only [Act.put, sA_, sB_, sC_, i64_w, i32_w]
       rfl
      refine take_ (i := 7) (N := some 14) (v := ?_) (a' := ?_) #[true, true, true, true, true, true, true, true, true, false, false, false, false, false] rfl rfl (ze HT_.out HW_.out (by kernel_rfl)) (fun _ _ _ h => h) (Or.inl ⟨by rfl, ?_⟩) hHeld ?_ ?_
      rotate_left
      ·rintro w' ⟨s0, s1, s2, s3, s4, s5, s6, s7, s8⟩
       go_simp
       with_reducible rfl
      rotate_left
      ·simp only [Act.put, sA_, sB_, sC_, i64_w, i32_w]
       rfl
      refine pure_ (i := 9) (N := some 16) (v := ?_) (a' := ?_) #[true, true, true, true, true, true, true, true, true, true, false, false, false, false] rfl rfl (qt HT_.out (by kernel_rfl)) (fun _ _ _ h => h) (Or.inl ⟨by rfl, ?_⟩) ?_ ?_
      rotate_left
      ·intro w'
       go_simp
       with_reducible rfl
      rotate_left
      ·simp only [Act.put, sA_, sB_, sC_, i64_w, i32_w]
       rfl
      refine take_ (i := 10) (N := some 17) (v := ?_) (a' := ?_) #[true, true, true, true, true, true, true, true, true, true, true, false, false, false] rfl rfl (ze HT_.out HW_.out (by kernel_rfl)) (fun _ _ _ h => h) (Or.inl ⟨by rfl, ?_⟩) hHeld ?_ ?_
      rotate_left
      ·rintro w' ⟨s0, s1, s2, s3, s4, s5, s6, s7, s8⟩
       go_simp
       with_reducible rfl
      rotate_left
      ·simp only [Act.put, sA_, sB_, sC_, i64_w, i32_w]
       rfl
      refine take_ (i := 11) (N := some 18) (v := ?_) (a' := ?_) #[true, true, true, true, true, true, true, true, true, true, true, true, false, false] rfl rfl (ze HT_.out HW_.out (by kernel_rfl)) (fun _ _ _ h => h) (Or.inl ⟨by rfl, ?_⟩) hHeld ?_ ?_
      rotate_left
      ·rintro w' ⟨s0, s1, s2, s3, s4, s5, s6, s7, s8⟩
       go_simp
       with_reducible rfl
      rotate_left
      ·simp only [Act.put, sA_, sB_, sC_, i64_w, i32_w]
       rfl
      refine one_ (i := 12) (N := some 19) #[true, true, true, true, true, true, true, true, true, true, true, true, true, false] rfl rfl (zl HT_.out (by kernel_rfl)) (by decide) (fun K hK => ?_)
      refine goes_ Try.func75 (by kernel_rfl) rfl #[.agg #[.int .i64 ((ql l0_2 x5_1).f0), .int .i64 ((ql l0_2 x5_1).f1), .bool ((ql l0_2 x5_1).f2)], .agg #[.int .i64 a1_0, .int .i64 a1_1, .bool a1_2]] (by rfl) rfl rfl (by (try simp only [List.map_toArray, List.map_cons, List.map_nil]); first | done | rfl | (simp only [List.length_drop, List.length_take]; rfl)) ?_
      with_reducible refine (spec_avLess.calls ((ql l0_2 x5_1).f0) ((ql l0_2 x5_1).f1) ((ql l0_2 x5_1).f2) a1_0 a1_1 a1_2 true _ A8.out).mono ?_
      rintro e w11 ⟨rfl, hb⟩
      refine ⟨_, rfl, ?_⟩
      have n0_ := qb.mk (qk (g := gb148) (o := .cells #[.int .i64 a0_0, .int .i64 a0_1, .slice (some ad151) l0_2.length c0_2] 31 (0, 0)) (bk_ BK148) hb)
      have n1_ := qb.mk (qk (g := gb149) (o := .cells #[.int .i64 a1_0, .int .i64 a1_1, .bool a1_2] 58 (0, 0)) (bk_ BK149) hb)
      have n2_ := qb.mk (qk (g := gb150) (o := .cells #[.int .i64 0, .int .i64 0, .slice none 0 0] 31 (0, 0)) (bk_ BK150) hb)
      have n3_ := qb.mk (qp (be3_ HB GE148 GE149 GE150) hb)
      clear BK148
      clear BK149
      clear BK150
      clear HB
      have BK148 := n0_
      have BK149 := n1_
      have BK150 := n2_
      have HB := n3_
      clear n0_ n1_ n2_ n3_
      (try clear hb)
      (try clear hb2)
      (try clear hk)
      (try clear hi)
      refine hK.out _ _ ⟨(qf BK148.out 0).trans rfl, (qf BK148.out 1).trans rfl, (qf BK148.out 2).trans rfl, (qf BK149.out 0).trans rfl, (qf BK149.out 1).trans rfl, (qf BK149.out 2).trans rfl, ((HB.out.cell (World.block_lt_of_cell? w _ hw151_0)).trans hw151_0), ((HB.out.cell (World.block_lt_of_cell? w _ hw151_1)).trans hw151_1), ((HB.out.cell (World.block_lt_of_cell? w _ hw151_2)).trans hw151_2)⟩ (fun hHeld => ?_)
      clear hK K
      refine norm_ (a' := ?_) ?_ ?_
      rotate_left
      ·show Act.put _ (some 19) _ = _
       simp only [Act.put, sA_, sB_, sC_, i64_w, i32_w]
       rfl
      refine pure_ (i := 13) (N := some 20) (v := ?_) (a' := ?_) #[true, true, true, true, true, true, true, true, true, true, true, true, true, true] rfl rfl (qt HT_.out (by kernel_rfl)) (fun _ _ _ h => h) (Or.inl ⟨by rfl, ?_⟩) ?_ ?_
      rotate_left
      ·intro w'
       go_simp
       with_reducible rfl
      rotate_left
      ·simp only [Act.put, sA_, sB_, sC_, i64_w, i32_w]
       rfl
      refine done_ (jc HT_.out (by kernel_rfl)) ?_
      try go_wp2
      go_roundg k1
      case measure => have := HK1.out; omega
      case rel => exact ⟨(wrap64 (x5_1 + 1)), (by first | rfl | (simp; done) | (simp [*]; done)), H', ⟨by have := HK1.out; omega⟩, ⟨bk_ BK148⟩, ⟨bk_ BK149⟩, ⟨bk_ BK150⟩, ⟨be3_ HB GE148 GE149 GE150⟩⟩
     ·replace c9 := Bool.eq_false_iff.mpr c9
      subst c9
      have H1 : ((some (([] : List (S58)) : List (S58))).bind fun y153 => (if x5_1 ≤ (l0_2.length : Int) then ((some (l0_2.take (x5_1 : Int).toNat : List (S58))).bind fun y156 => (if y153.length + y156.length < 5864062014805 then ((some (y153 ++ y156 : List (S58))).bind fun y160 => ((some (([(⟨a1_0, a1_1, a1_2⟩ : S58)] : List (S58)) : List (S58))).bind fun y163 => (if y160.length + y163.length < 5864062014805 then ((some (y160 ++ y163 : List (S58))).bind fun y166 => ((some (l0_2.drop (x5_1 : Int).toNat : List (S58))).bind fun y169 => (if y166.length + y169.length < 5864062014805 then (some (a0_0, a0_1, (y166 ++ y169))) else (none)))) else (none)))) else (none))) else (none))) = some (r1, r2, r3) := by rw [if_neg (show ¬ (false = true) by decide)] at H; exact H
      clear H
      have H := H1
      clear H1
      obtain ⟨y153, hy153⟩ : ∃ y_ : List (S58), y_ = (([] : List (S58))) := ⟨_, rfl⟩
      replace H : (if x5_1 ≤ (l0_2.length : Int) then ((some (l0_2.take (x5_1 : Int).toNat : List (S58))).bind fun y156 => (if y153.length + y156.length < 5864062014805 then ((some (y153 ++ y156 : List (S58))).bind fun y160 => ((some (([(⟨a1_0, a1_1, a1_2⟩ : S58)] : List (S58)) : List (S58))).bind fun y163 => (if y160.length + y163.length < 5864062014805 then ((some (y160 ++ y163 : List (S58))).bind fun y166 => ((some (l0_2.drop (x5_1 : Int).toNat : List (S58))).bind fun y169 => (if y166.length + y169.length < 5864062014805 then (some (a0_0, a0_1, (y166 ++ y169))) else (none)))) else (none)))) else (none))) else (none)) = some (r1, r2, r3) := by first | (rw [hy153]; with_reducible exact H) | (have H2_ := (Option.bind_some _ _).symm.trans H; rw [hy153]; with_reducible exact H2_) | (have H2_ := (Option.bind_some _ _).symm.trans H; with_reducible exact H2_) | with_reducible exact H | (rw [hy153]; exact H) | exact H
      have Ny153 := qb.mk hy153
      clear hy153
      have c12b0 := eq_true (of_decide_eq_true (by first | (with_reducible assumption) | assumption) : 0 ≤ x5_1)
      by_cases c13 : x5_1 ≤ (l0_2.length : Int)
      ·rw [if_pos c13] at H
       have c13b0 := eq_true c13
       have c13b1 : decide (x5_1 ≤ (l0_2.length : Int)) = true := decide_eq_true c13
       clear c13
       obtain ⟨y156, hy156⟩ : ∃ y_ : List (S58), y_ = (l0_2.take (x5_1 : Int).toNat) := ⟨_, rfl⟩
       replace H : (if y153.length + y156.length < 5864062014805 then ((some (y153 ++ y156 : List (S58))).bind fun y160 => ((some (([(⟨a1_0, a1_1, a1_2⟩ : S58)] : List (S58)) : List (S58))).bind fun y163 => (if y160.length + y163.length < 5864062014805 then ((some (y160 ++ y163 : List (S58))).bind fun y166 => ((some (l0_2.drop (x5_1 : Int).toNat : List (S58))).bind fun y169 => (if y166.length + y169.length < 5864062014805 then (some (a0_0, a0_1, (y166 ++ y169))) else (none)))) else (none)))) else (none)) = some (r1, r2, r3) := by first | (rw [hy156]; with_reducible exact H) | (have H2_ := (Option.bind_some _ _).symm.trans H; rw [hy156]; with_reducible exact H2_) | (have H2_ := (Option.bind_some _ _).symm.trans H; with_reducible exact H2_) | with_reducible exact H | (rw [hy156]; exact H) | exact H
       have Ny156 := qb.mk hy156
       clear hy156
       by_cases c14 : y153.length + y156.length < 5864062014805
       ·rw [if_pos c14] at H
        have LMc14 := qb.mk c14
        clear c14
        obtain ⟨y160, hy160⟩ : ∃ y_ : List (S58), y_ = (y153 ++ y156) := ⟨_, rfl⟩
        replace H : ((some (([(⟨a1_0, a1_1, a1_2⟩ : S58)] : List (S58)) : List (S58))).bind fun y163 => (if y160.length + y163.length < 5864062014805 then ((some (y160 ++ y163 : List (S58))).bind fun y166 => ((some (l0_2.drop (x5_1 : Int).toNat : List (S58))).bind fun y169 => (if y166.length + y169.length < 5864062014805 then (some (a0_0, a0_1, (y166 ++ y169))) else (none)))) else (none))) = some (r1, r2, r3) := by first | (rw [hy160]; with_reducible exact H) | (have H2_ := (Option.bind_some _ _).symm.trans H; rw [hy160]; with_reducible exact H2_) | (have H2_ := (Option.bind_some _ _).symm.trans H; with_reducible exact H2_) | with_reducible exact H | (rw [hy160]; exact H) | exact H
        have Ny160 := qb.mk hy160
        clear hy160
        obtain ⟨y163, hy163⟩ : ∃ y_ : List (S58), y_ = (([(⟨a1_0, a1_1, a1_2⟩ : S58)] : List (S58))) := ⟨_, rfl⟩
        replace H : (if y160.length + y163.length < 5864062014805 then ((some (y160 ++ y163 : List (S58))).bind fun y166 => ((some (l0_2.drop (x5_1 : Int).toNat : List (S58))).bind fun y169 => (if y166.length + y169.length < 5864062014805 then (some (a0_0, a0_1, (y166 ++ y169))) else (none)))) else (none)) = some (r1, r2, r3) := by first | (rw [hy163]; with_reducible exact H) | (have H2_ := (Option.bind_some _ _).symm.trans H; rw [hy163]; with_reducible exact H2_) | (have H2_ := (Option.bind_some _ _).symm.trans H; with_reducible exact H2_) | with_reducible exact H | (rw [hy163]; exact H) | exact H
        have Ny163 := qb.mk hy163
        clear hy163
        by_cases c15 : y160.length + y163.length < 5864062014805
        ·rw [if_pos c15] at H
         have LMc15 := qb.mk c15
         clear c15
         obtain ⟨y166, hy166⟩ : ∃ y_ : List (S58), y_ = (y160 ++ y163) := ⟨_, rfl⟩
         replace H : ((some (l0_2.drop (x5_1 : Int).toNat : List (S58))).bind fun y169 => (if y166.length + y169.length < 5864062014805 then (some (a0_0, a0_1, (y166 ++ y169))) else (none))) = some (r1, r2, r3) := by first | (rw [hy166]; with_reducible exact H) | (have H2_ := (Option.bind_some _ _).symm.trans H; rw [hy166]; with_reducible exact H2_) | (have H2_ := (Option.bind_some _ _).symm.trans H; with_reducible exact H2_) | with_reducible exact H | (rw [hy166]; exact H) | exact H
         have Ny166 := qb.mk hy166
         clear hy166
         have c16b0 := eq_true (of_decide_eq_true (by first | (with_reducible assumption) | assumption) : 0 ≤ x5_1)
         have c17b0 := eq_true (of_decide_eq_true (by first | (with_reducible assumption) | assumption) : x5_1 ≤ (l0_2.length : Int))
         obtain ⟨y169, hy169⟩ : ∃ y_ : List (S58), y_ = (l0_2.drop (x5_1 : Int).toNat) := ⟨_, rfl⟩
         replace H : (if y166.length + y169.length < 5864062014805 then (some (a0_0, a0_1, (y166 ++ y169))) else (none)) = some (r1, r2, r3) := by first | (rw [hy169]; with_reducible exact H) | (have H2_ := (Option.bind_some _ _).symm.trans H; rw [hy169]; with_reducible exact H2_) | (have H2_ := (Option.bind_some _ _).symm.trans H; with_reducible exact H2_) | with_reducible exact H | (rw [hy169]; exact H) | exact H
         have Ny169 := qb.mk hy169
         clear hy169
         by_cases c18 : y166.length + y169.length < 5864062014805
         ·rw [if_pos c18] at H
          have LMc18 := qb.mk c18
          clear c18
          obtain ⟨y173, hy173⟩ : ∃ y_ : List (S58), y_ = (y166 ++ y169) := ⟨_, rfl⟩
          replace H : (some (a0_0, a0_1, y173)) = some (r1, r2, r3) := by first | (rw [hy173]; with_reducible exact H) | (have H2_ := (Option.bind_some _ _).symm.trans H; rw [hy173]; with_reducible exact H2_) | (have H2_ := (Option.bind_some _ _).symm.trans H; with_reducible exact H2_) | with_reducible exact H | (rw [hy173]; exact H) | exact H
          have Ny173 := qb.mk hy173
          clear hy173
          simp only [Option.some.injEq, Prod.mk.injEq] at H
          obtain ⟨rfl, rfl, rfl⟩ := H
          try go_wp2
          have n0_ := qb.mk (qg BK148.out)
          have n1_ := qb.mk (qg BK149.out)
          have n2_ := qb.mk (qg BK150.out)
          have n3_ := qb.mk (qh HB.out)
          clear BK148
          clear BK149
          clear BK150
          clear HB
          have BK148 := n0_
          have BK149 := n1_
          have BK150 := n2_
          have HB := n3_
          clear n0_ n1_ n2_ n3_
          have p151 : 0 ≤ (x5_1 : Int) := of_decide_eq_true (by first | (with_reducible assumption) | assumption)
          have q151 : x5_1 < (l0_2.length : Int) := of_decide_eq_true (by first | (with_reducible assumption) | assumption)
          obtain ⟨ad151, e151, hx151_0, hx151_1, hx151_2⟩ := ja HR0_2.out x5_1 p151 q151
          have hw151_2 := hx151_2
          have hw151_1 := hx151_1
          have hw151_0 := hx151_0
          cases e151
          replace hx151_0 := (HB.out.cell (World.block_lt_of_cell? w _ hx151_0)).trans hx151_0
          replace hx151_1 := (HB.out.cell (World.block_lt_of_cell? w _ hx151_1)).trans hx151_1
          replace hx151_2 := (HB.out.cell (World.block_lt_of_cell? w _ hx151_2)).trans hx151_2
          replace p151 := eq_true p151
          replace q151 := eq_true q151
          refine jd (n := 14) (S := fun w' => w'.cell? ⟨gb148, 0, none⟩ = some (.int .i64 a0_0) ∧ w'.cell? ⟨gb148, 1, none⟩ = some (.int .i64 a0_1) ∧ w'.cell? ⟨gb148, 2, none⟩ = some (.slice (some ad151) l0_2.length c0_2) ∧ w'.cell? ⟨gb149, 0, none⟩ = some (.int .i64 a1_0) ∧ w'.cell? ⟨gb149, 1, none⟩ = some (.int .i64 a1_1) ∧ w'.cell? ⟨gb149, 2, none⟩ = some (.bool a1_2) ∧ w'.cell? (ad151.add ((x5_1).toNat * 3)) = some (.int .i64 ((ql l0_2 x5_1).f0)) ∧ w'.cell? ⟨(ad151.add ((x5_1).toNat * 3)).block, (ad151.add ((x5_1).toNat * 3)).off + 1, none⟩ = some (.int .i64 ((ql l0_2 x5_1).f1)) ∧ w'.cell? ⟨(ad151.add ((x5_1).toNat * 3)).block, (ad151.add ((x5_1).toNat * 3)).off + 2, none⟩ = some (.bool ((ql l0_2 x5_1).f2))) (ds := []) #[false, false, false, false, false, false, false, false, false, false, false, false, false, false] (by kernel_rfl) rfl rfl ⟨(qf BK148.out 0).trans rfl, (qf BK148.out 1).trans rfl, (qf BK148.out 2).trans rfl, (qf BK149.out 0).trans rfl, (qf BK149.out 1).trans rfl, (qf BK149.out 2).trans rfl, ((HB.out.cell (World.block_lt_of_cell? w _ hw151_0)).trans hw151_0), ((HB.out.cell (World.block_lt_of_cell? w _ hw151_1)).trans hw151_1), ((HB.out.cell (World.block_lt_of_cell? w _ hw151_2)).trans hw151_2)⟩ (fun hHeld => ?_); refine zx spec_avClose.tab2 spec_avClose.bits2 (fun HT_ HW_ => ?_)
          generalize wr.drew = w19 at BK148 BK149 BK150 HB hx151_0 hx151_1 hx151_2 hHeld ⊢
          refine pure_ (i := 0) (N := some 7) (v := ?_) (a' := ?_) #[true, false, false, false, false, false, false, false, false, false, false, false, false, false] rfl rfl (qt HT_.out (by kernel_rfl)) (fun _ _ _ h => h) (Or.inl ⟨by rfl, ?_⟩) ?_ ?_
          rotate_left
          ·intro w'
           go_simp
           with_reducible rfl
          rotate_left
          ·simp only [Act.put, sA_, sB_, sC_, i64_w, i32_w]
           rfl
          refine pure_ (i := 1) (N := some 8) (v := ?_) (a' := ?_) #[true, true, false, false, false, false, false, false, false, false, false, false, false, false] rfl rfl (qt HT_.out (by kernel_rfl)) (fun _ _ _ h => h) (Or.inl ⟨by rfl, ?_⟩) ?_ ?_
          rotate_left
          ·intro w'
           go_simp
           with_reducible rfl
          rotate_left
          ·simp only [Act.put, sA_, sB_, sC_, i64_w, i32_w]
           rfl
          refine take_ (i := 2) (N := some 9) (v := ?_) (a' := ?_) #[true, true, true, false, false, false, false, false, false, false, false, false, false, false] rfl rfl (ze HT_.out HW_.out (by kernel_rfl)) (fun _ _ _ h => h) (Or.inl ⟨by rfl, ?_⟩) hHeld ?_ ?_
          rotate_left
          ·rintro w' ⟨s0, s1, s2, s3, s4, s5, s6, s7, s8⟩
           go_simp
           with_reducible rfl
          rotate_left
          ·simp only [Act.put, sA_, sB_, sC_, i64_w, i32_w]
           rfl
          refine pure_ (i := 3) (N := some 10) (v := ?_) (a' := ?_) #[true, true, true, true, false, false, false, false, false, false, false, false, false, false] rfl rfl (qt HT_.out (by kernel_rfl)) (fun _ _ _ h => h) (Or.inl ⟨by rfl, ?_⟩) ?_ ?_
          rotate_left
          ·intro w'
           go_simp
           with_reducible rfl
          rotate_left
          ·simp only [Act.put, sA_, sB_, sC_, i64_w, i32_w]
           rfl
          refine pure_ (i := 4) (N := some 11) (v := ?_) (a' := ?_) #[true, true, true, true, true, false, false, false, false, false, false, false, false, false] rfl rfl (qt HT_.out (by kernel_rfl)) (fun _ _ _ h => h) (Or.inl ⟨by rfl, ?_⟩) ?_ ?_
          rotate_left
          ·intro w'
           go_simp
           with_reducible rfl
          rotate_left
          ·simp only [Act.put, sA_, sB_, sC_, i64_w, i32_w]
           rfl
          refine pure_ (i := 5) (N := some 12) (v := ?_) (a' := ?_) #[true, true, true, true, true, true, false, false, false, false, false, false, false, false] rfl rfl (qt HT_.out (by kernel_rfl)) (fun _ _ _ h => h) (Or.inl ⟨by rfl, ?_⟩) ?_ ?_
          rotate_left
          ·intro w'
           go_simp
           with_reducible rfl
          rotate_left
          ·simp only [Act.put, sA_, sB_, sC_, i64_w, i32_w]
           rfl
          refine pure_ (i := 6) (N := some 13) (v := ?_) (a' := ?_) #[true, true, true, true, true, true, true, false, false, false, false, false, false, false] rfl rfl (qt HT_.out (by kernel_rfl)) (fun _ _ _ h => h) (Or.inl ⟨by rfl, ?_⟩) ?_ ?_
          rotate_left
          ·intro w'
           go_simp
           with_reducible rfl
          rotate_left
          ·simp only [Act.put, sA_, sB_, sC_, i64_w, i32_w]
           rfl
          refine pure_ (i := 8) (N := some 15) (v := ?_) (a' := ?_) #[true, true, true, true, true, true, true, false, true, false, false, false, false, false] rfl rfl (qt HT_.out (by kernel_rfl)) (fun _ _ _ h => h) (Or.inl ⟨by rfl, ?_⟩) ?_ ?_
          rotate_left
          ·intro w'
           go_simp
           with_reducible rfl
          rotate_left
          ·simp only [Act.put, sA_, sB_, sC_, i64_w, i32_w]
           rfl
          refine take_ (i := 7) (N := some 14) (v := ?_) (a' := ?_) #[true, true, true, true, true, true, true, true, true, false, false, false, false, false] rfl rfl (ze HT_.out HW_.out (by kernel_rfl)) (fun _ _ _ h => h) (Or.inl ⟨by rfl, ?_⟩) hHeld ?_ ?_
          rotate_left
          ·rintro w' ⟨s0, s1, s2, s3, s4, s5, s6, s7, s8⟩
           go_simp
           with_reducible rfl
          rotate_left
          ·simp only [Act.put, sA_, sB_, sC_, i64_w, i32_w]
           rfl
          refine pure_ (i := 9) (N := some 16) (v := ?_) (a' := ?_) #[true, true, true, true, true, true, true, true, true, true, false, false, false, false] rfl rfl (qt HT_.out (by kernel_rfl)) (fun _ _ _ h => h) (Or.inl ⟨by rfl, ?_⟩) ?_ ?_
          rotate_left
          ·intro w'
           go_simp
           with_reducible rfl
          rotate_left
          ·simp only [Act.put, sA_, sB_, sC_, i64_w, i32_w]
           rfl
          refine take_ (i := 10) (N := some 17) (v := ?_) (a' := ?_) #[true, true, true, true, true, true, true, true, true, true, true, false, false, false] rfl rfl (ze HT_.out HW_.out (by kernel_rfl)) (fun _ _ _ h => h) (Or.inl ⟨by rfl, ?_⟩) hHeld ?_ ?_
          rotate_left
          ·rintro w' ⟨s0, s1, s2, s3, s4, s5, s6, s7, s8⟩
           go_simp
           with_reducible rfl
          rotate_left
          ·simp only [Act.put, sA_, sB_, sC_, i64_w, i32_w]
           rfl
          refine take_ (i := 11) (N := some 18) (v := ?_) (a' := ?_) #[true, true, true, true, true, true, true, true, true, true, true, true, false, false] rfl rfl (ze HT_.out HW_.out (by kernel_rfl)) (fun _ _ _ h => h) (Or.inl ⟨by rfl, ?_⟩) hHeld ?_ ?_
          rotate_left
          ·rintro w' ⟨s0, s1, s2, s3, s4, s5, s6, s7, s8⟩
           go_simp
           with_reducible rfl
          rotate_left
          ·simp only [Act.put, sA_, sB_, sC_, i64_w, i32_w]
           rfl
          refine one_ (i := 12) (N := some 19) #[true, true, true, true, true, true, true, true, true, true, true, true, true, false] rfl rfl (zl HT_.out (by kernel_rfl)) (by decide) (fun K hK => ?_)
          refine goes_ Try.func75 (by kernel_rfl) rfl #[.agg #[.int .i64 ((ql l0_2 x5_1).f0), .int .i64 ((ql l0_2 x5_1).f1), .bool ((ql l0_2 x5_1).f2)], .agg #[.int .i64 a1_0, .int .i64 a1_1, .bool a1_2]] (by rfl) rfl rfl (by (try simp only [List.map_toArray, List.map_cons, List.map_nil]); first | done | rfl | (simp only [List.length_drop, List.length_take]; rfl)) ?_
          with_reducible refine (spec_avLess.calls ((ql l0_2 x5_1).f0) ((ql l0_2 x5_1).f1) ((ql l0_2 x5_1).f2) a1_0 a1_1 a1_2 false _ A8.out).mono ?_
          rintro e w20 ⟨rfl, hb⟩
          refine ⟨_, rfl, ?_⟩
          have n0_ := qb.mk (qk (g := gb148) (o := .cells #[.int .i64 a0_0, .int .i64 a0_1, .slice (some ad151) l0_2.length c0_2] 31 (0, 0)) (bk_ BK148) hb)
          have n1_ := qb.mk (qk (g := gb149) (o := .cells #[.int .i64 a1_0, .int .i64 a1_1, .bool a1_2] 58 (0, 0)) (bk_ BK149) hb)
          have n2_ := qb.mk (qk (g := gb150) (o := .cells #[.int .i64 0, .int .i64 0, .slice none 0 0] 31 (0, 0)) (bk_ BK150) hb)
          have n3_ := qb.mk (qp (be3_ HB GE148 GE149 GE150) hb)
          clear BK148
          clear BK149
          clear BK150
          clear HB
          have BK148 := n0_
          have BK149 := n1_
          have BK150 := n2_
          have HB := n3_
          clear n0_ n1_ n2_ n3_
          (try clear hb)
          (try clear hb2)
          (try clear hk)
          (try clear hi)
          refine hK.out _ _ ⟨(qf BK148.out 0).trans rfl, (qf BK148.out 1).trans rfl, (qf BK148.out 2).trans rfl, (qf BK149.out 0).trans rfl, (qf BK149.out 1).trans rfl, (qf BK149.out 2).trans rfl, ((HB.out.cell (World.block_lt_of_cell? w _ hw151_0)).trans hw151_0), ((HB.out.cell (World.block_lt_of_cell? w _ hw151_1)).trans hw151_1), ((HB.out.cell (World.block_lt_of_cell? w _ hw151_2)).trans hw151_2)⟩ (fun hHeld => ?_)
          clear hK K
          refine norm_ (a' := ?_) ?_ ?_
          rotate_left
          ·show Act.put _ (some 19) _ = _
           simp only [Act.put, sA_, sB_, sC_, i64_w, i32_w]
           rfl
          refine pure_ (i := 13) (N := some 20) (v := ?_) (a' := ?_) #[true, true, true, true, true, true, true, true, true, true, true, true, true, true] rfl rfl (qt HT_.out (by kernel_rfl)) (fun _ _ _ h => h) (Or.inl ⟨by rfl, ?_⟩) ?_ ?_
          rotate_left
          ·intro w'
           go_simp
           with_reducible rfl
          rotate_left
          ·simp only [Act.put, sA_, sB_, sC_, i64_w, i32_w]
           rfl
          refine done_ (jc HT_.out (by kernel_rfl)) ?_
          try go_wp2
          have n0_ := qb.mk (qg BK148.out)
          have n1_ := qb.mk (qg BK149.out)
          have n2_ := qb.mk (qg BK150.out)
          have n3_ := qb.mk (qh HB.out)
          clear BK148
          clear BK149
          clear BK150
          clear HB
          have BK148 := n0_
          have BK149 := n1_
          have BK150 := n2_
          have HB := n3_
          clear n0_ n1_ n2_ n3_
          have q22 : (x5_1 : Int) ≤ ((l0_2.length : Int) : Int) := of_decide_eq_true (by first | (with_reducible assumption) | assumption)
          obtain ⟨i022, hi022, _, hsz22, _⟩ := info_parts info58
          have hroom22 : l0_2.length ≤ c0_2 := HC0_2.out
          have hC22 : Kd.C k58 _ (some ad151) l0_2.length l0_2 := HR0_2.out
          have hcut22 := cut_to (P := Try.prog) 29 58 .i64 Try.underlying29 hi022 (some ad151) l0_2.length c0_2 x5_1 (of_decide_eq_true (by first | (with_reducible assumption) | assumption)) q22 hroom22
          have hr22 := Kd.C_take (m := (x5_1 : Int).toNat) hC22 (by omega)
          have hy22 : y156.length = (x5_1 : Int).toNat := (by rw [Ny156.out, List.length_take]; omega)
          rw [← Ny156.out] at hr22
          rw [← hy22] at hcut22
          have HR159 := qb.mk hr22
          have HC159 := qb.mk (show y156.length ≤ c0_2 from by omega)
          clear hr22 hC22 hroom22 hi022 hsz22
          have KY22 := qb.mk hy22
          clear hy22
          replace q22 := eq_true q22
          refine jd (n := 10) (S := fun w' => w'.cell? ⟨gb148, 0, none⟩ = some (.int .i64 a0_0) ∧ w'.cell? ⟨gb148, 1, none⟩ = some (.int .i64 a0_1) ∧ w'.cell? ⟨gb148, 2, none⟩ = some (.slice (some ad151) l0_2.length c0_2) ∧ w'.cell? ⟨gb149, 0, none⟩ = some (.int .i64 a1_0) ∧ w'.cell? ⟨gb149, 1, none⟩ = some (.int .i64 a1_1) ∧ w'.cell? ⟨gb149, 2, none⟩ = some (.bool a1_2)) (ds := []) #[false, false, false, false, false, false, false, false, false, false] (by kernel_rfl) rfl rfl ⟨(qf BK148.out 0).trans rfl, (qf BK148.out 1).trans rfl, (qf BK148.out 2).trans rfl, (qf BK149.out 0).trans rfl, (qf BK149.out 1).trans rfl, (qf BK149.out 2).trans rfl⟩ (fun hHeld => ?_); refine zx spec_avClose.tab4 spec_avClose.bits4 (fun HT_ HW_ => ?_)
          generalize w20.drew = w21 at BK148 BK149 BK150 HB HR159 hHeld ⊢
          refine pure_ (i := 1) (N := some 24) (v := ?_) (a' := ?_) #[false, true, false, false, false, false, false, false, false, false] rfl rfl (qt HT_.out (by kernel_rfl)) (fun _ _ _ h => h) (Or.inl ⟨by rfl, ?_⟩) ?_ ?_
          rotate_left
          ·intro w'
           go_simp
           with_reducible rfl
          rotate_left
          ·simp only [Act.put, sA_, sB_, sC_, i64_w, i32_w]
           rfl
          refine pure_ (i := 3) (N := some 26) (v := ?_) (a' := ?_) #[false, true, false, true, false, false, false, false, false, false] rfl rfl (qt HT_.out (by kernel_rfl)) (fun _ _ _ h => h) (Or.inl ⟨by rfl, ?_⟩) ?_ ?_
          rotate_left
          ·intro w'
           go_simp
           with_reducible rfl
          rotate_left
          ·simp only [Act.put, sA_, sB_, sC_, i64_w, i32_w]
           rfl
          refine take_ (i := 2) (N := some 25) (v := ?_) (a' := ?_) #[false, true, true, true, false, false, false, false, false, false] rfl rfl (ze HT_.out HW_.out (by kernel_rfl)) (fun _ _ _ h => h) (Or.inl ⟨by rfl, ?_⟩) hHeld ?_ ?_
          rotate_left
          ·rintro w' ⟨s0, s1, s2, s3, s4, s5⟩
           go_simp
           with_reducible rfl
          rotate_left
          ·simp only [Act.put, sA_, sB_, sC_, i64_w, i32_w]
           rfl
          refine pure_ (i := 4) (N := some 27) (v := ?_) (a' := ?_) #[false, true, true, true, true, false, false, false, false, false] rfl rfl (qt HT_.out (by kernel_rfl)) (fun _ _ _ h => h) (Or.inl ⟨by rfl, ?_⟩) ?_ ?_
          rotate_left
          ·intro w'
           go_simp
           with_reducible rfl
          rotate_left
          ·simp only [Act.put, sA_, sB_, sC_, i64_w, i32_w]
           rfl
          refine take_ (i := 6) (N := some 29) (v := ?_) (a' := ?_) #[false, true, true, true, true, false, true, false, false, false] rfl rfl (ze HT_.out HW_.out (by kernel_rfl)) (fun _ _ _ h => h) (Or.inl ⟨by rfl, ?_⟩) hHeld ?_ ?_
          rotate_left
          ·rintro w' ⟨s0, s1, s2, s3, s4, s5⟩
           go_simp
           with_reducible rfl
          rotate_left
          ·simp only [Act.put, sA_, sB_, sC_, i64_w, i32_w]
           rfl
          refine join_ (σ := Value × Value × Value) 2 #[true, true, true, true, true, true, true, true, false, false] (fun s_ => [(23, s_.1), (28, s_.2.1), (30, s_.2.2)]) (fun s_ w' => (w'.cell? ⟨gb148, 0, none⟩ = some (.int .i64 a0_0) ∧ w'.cell? ⟨gb148, 1, none⟩ = some (.int .i64 a0_1) ∧ w'.cell? ⟨gb148, 2, none⟩ = some (.slice (some ad151) l0_2.length c0_2) ∧ w'.cell? ⟨gb149, 0, none⟩ = some (.int .i64 a1_0) ∧ w'.cell? ⟨gb149, 1, none⟩ = some (.int .i64 a1_1) ∧ w'.cell? ⟨gb149, 2, none⟩ = some (.bool a1_2)) ∧ (Kd.R k58 58 w' w.heap.size (fun k_ => some k_ ≠ (s_.2.2 : Value).ownBlock ∧ k_ ≠ gb149) s_.2.1 y160) ∧ (Kd.R k58 58 w' w.heap.size (fun k_ => some k_ ≠ (s_.2.1 : Value).ownBlock ∧ k_ ≠ gb149) s_.2.2 y163) ∧ (w'.heap[gb148]? = some (.cells #[.int .i64 a0_0, .int .i64 a0_1, .slice (some ad151) l0_2.length c0_2] 31 (0, 0))) ∧ (w'.heap[gb149]? = some (.cells #[.int .i64 a1_0, .int .i64 a1_1, .bool a1_2] 58 (0, 0))) ∧ (w'.heap[gb150]? = some (.cells #[.int .i64 0, .int .i64 0, .slice none 0 0] 31 (0, 0))) ∧ (Below w.heap.size w w')) ?_ ?_
          rotate_left
          ·intro hCont
           refine two_ (i := 0) (j := 7) (Ni := some 23) (Nj := some 30) #[true, true, true, true, true, false, true, false, false, false] #[false, true, true, true, true, false, true, true, false, false] rfl rfl rfl rfl (two_of HT_.out (by kernel_rfl)) (by decide) (by decide) (fun K hK => ?_) (fun K hK => ?_)
           ·skip
            refine Kd.R_lit_step k58 _ 58 ?hg (N := 23) ?hd (xs := ([] : List (S58))) (inner := []) (ok := fun _ => True) (okp := fun _ => True) ?hr ?hp (fun _ hk => hk) trivial (Below.refl _ _) (Nat.le_refl _) (by simp) ?_; (case hd => rfl); (case hg => rfl); (case hr => first | (go_simp; done) | (go_simp; rfl)); (case hp => exact (Reps.none _ _))
            intro v154 w23 ho24 hb hg_ hnew_
            clear hg_ hnew_
            (first | rw [← Ny153.out] at ho24 | (simp only [Int.reduceToNat] at ho24; rw [← Ny153.out] at ho24))
            have n0_ := qb.mk (Kd.zq (Kd.R_newB ho24 (g := gb149) (o := .cells #[.int .i64 a1_0, .int .i64 a1_1, .bool a1_2] 58 (0, 0)) (bk_ BK149)) (qm (be3_ HB GE148 GE149 GE150)))
            have n1_ := qb.mk (qk (g := gb148) (o := .cells #[.int .i64 a0_0, .int .i64 a0_1, .slice (some ad151) l0_2.length c0_2] 31 (0, 0)) (bk_ BK148) hb)
            have n2_ := qb.mk (qk (g := gb149) (o := .cells #[.int .i64 a1_0, .int .i64 a1_1, .bool a1_2] 58 (0, 0)) (bk_ BK149) hb)
            have n3_ := qb.mk (qk (g := gb150) (o := .cells #[.int .i64 0, .int .i64 0, .slice none 0 0] 31 (0, 0)) (bk_ BK150) hb)
            have n4_ := qb.mk (qp (be3_ HB GE148 GE149 GE150) hb)
            clear BK148
            clear BK149
            clear BK150
            clear HB
            have HO155 := n0_
            have BK148 := n1_
            have BK149 := n2_
            have BK150 := n3_
            have HB := n4_
            clear n0_ n1_ n2_ n3_ n4_
            clear hb ho24
            refine hK.out _ _ ⟨(qf BK148.out 0).trans rfl, (qf BK148.out 1).trans rfl, (qf BK148.out 2).trans rfl, (qf BK149.out 0).trans rfl, (qf BK149.out 1).trans rfl, (qf BK149.out 2).trans rfl⟩ (fun hHeld => ?_)
            clear hK K
            refine norm_ (a' := ?_) ?_ ?_
            rotate_left
            ·show Act.put _ (some 23) _ = _
             simp only [Act.put, sA_, sB_, sC_, i64_w, i32_w]
             rfl
            refine two_ (i := 5) (j := 7) (Ni := some 28) (Nj := some 30) #[true, true, true, true, true, true, true, false, false, false] #[true, true, true, true, true, false, true, true, false, false] rfl rfl rfl rfl (two_of HT_.out (by kernel_rfl)) (by decide) (by decide) (fun K hK => ?_) (fun K hK => ?_)
            ·skip
             refine Kd.R_append_rows_step k58 (w0 := w) w.heap.size (by rfl) (.tmp 23) (.tmp 27) 29 58 (.agg #[(.int .i64 0), (.int .i64 0), (.bool false)]) 24 rfl Try.underlying29 info58 rfl (by decide) (by omega) v154 y153 y156 _ _ _ (fun k_ => k_ ≠ gb149) (fun _ => False) rfl rfl ?aO ?aR (fun _ _ h => h) (fun _ h => h.elim) ?aF ?aB ?aS ?aL ?_
             (case aR => repeat (first | exact (Kd.zi HR159.out HB.out) | (with_reducible refine Kd.zg ?_ _) | (with_reducible refine Kd.zh ?_ _) | (with_reducible refine Kd.zk ?_)))
             (case aB => exact (be3_ HB GE148 GE149 GE150))
             (case aF => exact (fun k_ hk => Kd.freshB (g := gb149) (o := .cells #[.int .i64 a1_0, .int .i64 a1_1, .bool a1_2] 58 (0, 0)) (bk_ BK149) k_ hk))
             (case aO => exact (by (with_reducible repeat (first | apply Kd.qo | apply Kd.qn | apply Kd.qq)); exact Kd.zb HO155.out (fun _ hk => hk.2)))
             (case aS => exact (qm (be3_ HB GE148 GE149 GE150)))
             (case aL => have := LMc14.out; omega)
             intro v161 w25 ho hb hg hat
             rw [← Ny160.out] at ho
             have n0_ := qb.mk (zo (g := gb148) (o := .cells #[.int .i64 a0_0, .int .i64 a0_1, .slice (some ad151) l0_2.length c0_2] 31 (0, 0)) (bk_ BK148) hg (Kd.R_ne HO155.out BK148.out (by decide)))
             have n1_ := qb.mk (zo (g := gb149) (o := .cells #[.int .i64 a1_0, .int .i64 a1_1, .bool a1_2] 58 (0, 0)) (bk_ BK149) hg (Kd.R_away HO155.out (fun _ hk => hk.2)))
             have n2_ := qb.mk (zo (g := gb150) (o := .cells #[.int .i64 0, .int .i64 0, .slice none 0 0] 31 (0, 0)) (bk_ BK150) hg (Kd.R_ne HO155.out BK150.out (by decide)))
             have n3_ := qb.mk (hb)
             have n4_ := qb.mk (ho)
             clear BK148
             clear BK149
             clear BK150
             clear HB
             clear HO155
             have BK148 := n0_
             have BK149 := n1_
             have BK150 := n2_
             have HB := n3_
             have HO162 := n4_
             clear n0_ n1_ n2_ n3_ n4_
             clear ho hb hg hat
             refine hK.out _ _ ⟨(qf BK148.out 0).trans rfl, (qf BK148.out 1).trans rfl, (qf BK148.out 2).trans rfl, (qf BK149.out 0).trans rfl, (qf BK149.out 1).trans rfl, (qf BK149.out 2).trans rfl⟩ (fun hHeld => ?_)
             clear hK K
             refine norm_ (a' := ?_) ?_ ?_
             rotate_left
             ·show Act.put _ (some 28) _ = _
              simp only [Act.put, sA_, sB_, sC_, i64_w, i32_w]
              rfl
             refine one_ (i := 7) (N := some 30) #[true, true, true, true, true, true, true, true, false, false] rfl rfl (zl HT_.out (by kernel_rfl)) (by decide) (fun K hK => ?_)
             refine Kd.R_lit_step k58 _ 58 ?hg (N := 30) ?hd (xs := ([(⟨a1_0, a1_1, a1_2⟩ : S58)] : List (S58))) (inner := [.int .i64 a1_0, .int .i64 a1_1, .bool a1_2]) (ok := fun _ => True) (okp := fun _ => True) ?hr ?hp (fun _ hk => hk) trivial (Below.refl _ _) (Nat.le_refl _) (by simp) ?_; (case hd => rfl); (case hg => rfl); (case hr => first | (go_simp; done) | (go_simp; rfl)); (case hp => exact (Reps.c3 (show Kd.M k58 _ _ _ (⟨a1_0, a1_1, a1_2⟩ : S58) [.int .i64 a1_0, .int .i64 a1_1, .bool a1_2] from (k58_mkM _ _ _ (⟨a1_0, a1_1, a1_2⟩ : S58) )) (Reps.none _ _)))
             intro v164 w26 ho27 hb hg_ hnew_
             clear hg_ hnew_
             (first | rw [← Ny163.out] at ho27 | (simp only [Int.reduceToNat] at ho27; rw [← Ny163.out] at ho27))
             have n0_ := qb.mk (Kd.zj (kr_ HO162) (Kd.zr ho27) hb)
             have n1_ := qb.mk (Kd.zq (Kd.R_newB (Kd.zv ho27 (Kd.R_lt (kr_ HO162))) (g := gb149) (o := .cells #[.int .i64 a1_0, .int .i64 a1_1, .bool a1_2] 58 (0, 0)) (bk_ BK149)) (qm (be3_ HB GE148 GE149 GE150)))
             have n2_ := qb.mk (qk (g := gb148) (o := .cells #[.int .i64 a0_0, .int .i64 a0_1, .slice (some ad151) l0_2.length c0_2] 31 (0, 0)) (bk_ BK148) hb)
             have n3_ := qb.mk (qk (g := gb149) (o := .cells #[.int .i64 a1_0, .int .i64 a1_1, .bool a1_2] 58 (0, 0)) (bk_ BK149) hb)
             have n4_ := qb.mk (qk (g := gb150) (o := .cells #[.int .i64 0, .int .i64 0, .slice none 0 0] 31 (0, 0)) (bk_ BK150) hb)
             have n5_ := qb.mk (qp (be3_ HB GE148 GE149 GE150) hb)
             clear HO162
             clear BK148
             clear BK149
             clear BK150
             clear HB
             have HO162 := n0_
             have HO165 := n1_
             have BK148 := n2_
             have BK149 := n3_
             have BK150 := n4_
             have HB := n5_
             clear n0_ n1_ n2_ n3_ n4_ n5_
             clear hb ho27
             refine hK.out _ _ ⟨(qf BK148.out 0).trans rfl, (qf BK148.out 1).trans rfl, (qf BK148.out 2).trans rfl, (qf BK149.out 0).trans rfl, (qf BK149.out 1).trans rfl, (qf BK149.out 2).trans rfl⟩ (fun hHeld => ?_)
             clear hK K
             refine norm_ (a' := ?_) ?_ ?_
             rotate_left
             ·show Act.put _ (some 30) _ = _
              simp only [Act.put, sA_, sB_, sC_, i64_w, i32_w]
              rfl
             exact norm_ (by simp only [zm, Act.put, sA_, sB_, sC_]) (hCont (v154, v161, v164) _ ⟨hHeld, (by (with_reducible repeat (first | apply Kd.qo | apply Kd.qn | apply Kd.qq)); exact Kd.zb HO162.out (fun _ hk => ⟨hk.2, hk.1⟩)), (by (with_reducible repeat (first | apply Kd.qo | apply Kd.qn | apply Kd.qq)); exact Kd.zb HO165.out (fun _ hk => ⟨hk.1.2, hk.2⟩)), (bk_ BK148), (bk_ BK149), (bk_ BK150), (be3_ HB GE148 GE149 GE150)⟩)
            ·skip
             refine Kd.R_lit_step k58 _ 58 ?hg (N := 30) ?hd (xs := ([(⟨a1_0, a1_1, a1_2⟩ : S58)] : List (S58))) (inner := [.int .i64 a1_0, .int .i64 a1_1, .bool a1_2]) (ok := fun _ => True) (okp := fun _ => True) ?hr ?hp (fun _ hk => hk) trivial (Below.refl _ _) (Nat.le_refl _) (by simp) ?_; (case hd => rfl); (case hg => rfl); (case hr => first | (go_simp; done) | (go_simp; rfl)); (case hp => exact (Reps.c3 (show Kd.M k58 _ _ _ (⟨a1_0, a1_1, a1_2⟩ : S58) [.int .i64 a1_0, .int .i64 a1_1, .bool a1_2] from (k58_mkM _ _ _ (⟨a1_0, a1_1, a1_2⟩ : S58) )) (Reps.none _ _)))
             intro v164 w25 ho26 hb hg_ hnew_
             clear hg_ hnew_
             (first | rw [← Ny163.out] at ho26 | (simp only [Int.reduceToNat] at ho26; rw [← Ny163.out] at ho26))
             have n0_ := qb.mk (Kd.zj (kr_ HO155) (Kd.zr ho26) hb)
             have n1_ := qb.mk (Kd.zq (Kd.R_newB (Kd.zv ho26 (Kd.R_lt (kr_ HO155))) (g := gb149) (o := .cells #[.int .i64 a1_0, .int .i64 a1_1, .bool a1_2] 58 (0, 0)) (bk_ BK149)) (qm (be3_ HB GE148 GE149 GE150)))
             have n2_ := qb.mk (qk (g := gb148) (o := .cells #[.int .i64 a0_0, .int .i64 a0_1, .slice (some ad151) l0_2.length c0_2] 31 (0, 0)) (bk_ BK148) hb)
             have n3_ := qb.mk (qk (g := gb149) (o := .cells #[.int .i64 a1_0, .int .i64 a1_1, .bool a1_2] 58 (0, 0)) (bk_ BK149) hb)
             have n4_ := qb.mk (qk (g := gb150) (o := .cells #[.int .i64 0, .int .i64 0, .slice none 0 0] 31 (0, 0)) (bk_ BK150) hb)
             have n5_ := qb.mk (qp (be3_ HB GE148 GE149 GE150) hb)
             clear HO155
             clear BK148
             clear BK149
             clear BK150
             clear HB
             have HO155 := n0_
             have HO165 := n1_
             have BK148 := n2_
             have BK149 := n3_
             have BK150 := n4_
             have HB := n5_
             clear n0_ n1_ n2_ n3_ n4_ n5_
             clear hb ho26
             refine hK.out _ _ ⟨(qf BK148.out 0).trans rfl, (qf BK148.out 1).trans rfl, (qf BK148.out 2).trans rfl, (qf BK149.out 0).trans rfl, (qf BK149.out 1).trans rfl, (qf BK149.out 2).trans rfl⟩ (fun hHeld => ?_)
             clear hK K
             refine norm_ (a' := ?_) ?_ ?_
             rotate_left
             ·show Act.put _ (some 30) _ = _
              simp only [Act.put, sA_, sB_, sC_, i64_w, i32_w]
              rfl
             refine one_ (i := 5) (N := some 28) #[true, true, true, true, true, true, true, true, false, false] rfl rfl (zl HT_.out (by kernel_rfl)) (by decide) (fun K hK => ?_)
             refine Kd.R_append_rows_step k58 (w0 := w) w.heap.size (by rfl) (.tmp 23) (.tmp 27) 29 58 (.agg #[(.int .i64 0), (.int .i64 0), (.bool false)]) 24 rfl Try.underlying29 info58 rfl (by decide) (by omega) v154 y153 y156 _ _ _ (fun k_ => some k_ ≠ (v164 : Value).ownBlock ∧ k_ ≠ gb149) (fun _ => False) rfl rfl ?aO ?aR (fun _ _ h => h) (fun _ h => h.elim) ?aF ?aB ?aS ?aL ?_
             (case aR => repeat (first | exact (Kd.zi HR159.out HB.out) | (with_reducible refine Kd.zg ?_ _) | (with_reducible refine Kd.zh ?_ _) | (with_reducible refine Kd.zk ?_)))
             (case aB => exact (be3_ HB GE148 GE149 GE150))
             (case aF => exact (fun k_ hk => ⟨Kd.fresh' (Kd.R_lt (kr_ HO165)) k_ hk, Kd.freshB (g := gb149) (o := .cells #[.int .i64 a1_0, .int .i64 a1_1, .bool a1_2] 58 (0, 0)) (bk_ BK149) k_ hk⟩))
             (case aO => exact (by (with_reducible repeat (first | apply Kd.qo | apply Kd.qn | apply Kd.qq)); exact Kd.zb HO155.out (fun _ hk => ⟨hk.2, hk.1.2⟩)))
             (case aS => exact (qm (be3_ HB GE148 GE149 GE150)))
             (case aL => have := LMc14.out; omega)
             intro v161 w27 ho hb hg hat
             rw [← Ny160.out] at ho
             have n0_ := qb.mk (zo (g := gb148) (o := .cells #[.int .i64 a0_0, .int .i64 a0_1, .slice (some ad151) l0_2.length c0_2] 31 (0, 0)) (bk_ BK148) hg (Kd.R_ne HO155.out BK148.out (by decide)))
             have n1_ := qb.mk (zo (g := gb149) (o := .cells #[.int .i64 a1_0, .int .i64 a1_1, .bool a1_2] 58 (0, 0)) (bk_ BK149) hg (Kd.R_away HO155.out (fun _ hk => hk.1.2)))
             have n2_ := qb.mk (zo (g := gb150) (o := .cells #[.int .i64 0, .int .i64 0, .slice none 0 0] 31 (0, 0)) (bk_ BK150) hg (Kd.R_ne HO155.out BK150.out (by decide)))
             have n3_ := qb.mk (Kd.R_after (ok := (fun k_ => k_ ≠ gb149)) (by (with_reducible repeat (first | apply Kd.qo | apply Kd.qn | apply Kd.qq)); exact Kd.zb HO165.out (fun _ hk => ⟨hk.2, hk.1.2⟩)) hg hat)
             have n4_ := qb.mk (hb)
             have n5_ := qb.mk (ho)
             clear BK148
             clear BK149
             clear BK150
             clear HO165
             clear HB
             clear HO155
             have BK148 := n0_
             have BK149 := n1_
             have BK150 := n2_
             have HO165 := n3_
             have HB := n4_
             have HO162 := n5_
             clear n0_ n1_ n2_ n3_ n4_ n5_
             clear ho hb hg hat
             refine hK.out _ _ ⟨(qf BK148.out 0).trans rfl, (qf BK148.out 1).trans rfl, (qf BK148.out 2).trans rfl, (qf BK149.out 0).trans rfl, (qf BK149.out 1).trans rfl, (qf BK149.out 2).trans rfl⟩ (fun hHeld => ?_)
             clear hK K
             refine norm_ (a' := ?_) ?_ ?_
             rotate_left
             ·show Act.put _ (some 28) _ = _
              simp only [Act.put, sA_, sB_, sC_, i64_w, i32_w]
              rfl
             exact norm_ (by simp only [zm, Act.put, sA_, sB_, sC_]) (hCont (v154, v161, v164) _ ⟨hHeld, (kr_ HO162), (by (with_reducible repeat (first | apply Kd.qo | apply Kd.qn | apply Kd.qq)); exact Kd.zb HO165.out (fun _ hk => ⟨hk.2, hk.1⟩)), (bk_ BK148), (bk_ BK149), (bk_ BK150), (be3_ HB GE148 GE149 GE150)⟩)
           ·skip
            refine Kd.R_lit_step k58 _ 58 ?hg (N := 30) ?hd (xs := ([(⟨a1_0, a1_1, a1_2⟩ : S58)] : List (S58))) (inner := [.int .i64 a1_0, .int .i64 a1_1, .bool a1_2]) (ok := fun _ => True) (okp := fun _ => True) ?hr ?hp (fun _ hk => hk) trivial (Below.refl _ _) (Nat.le_refl _) (by simp) ?_; (case hd => rfl); (case hg => rfl); (case hr => first | (go_simp; done) | (go_simp; rfl)); (case hp => exact (Reps.c3 (show Kd.M k58 _ _ _ (⟨a1_0, a1_1, a1_2⟩ : S58) [.int .i64 a1_0, .int .i64 a1_1, .bool a1_2] from (k58_mkM _ _ _ (⟨a1_0, a1_1, a1_2⟩ : S58) )) (Reps.none _ _)))
            intro v164 w23 ho24 hb hg_ hnew_
            clear hg_ hnew_
            (first | rw [← Ny163.out] at ho24 | (simp only [Int.reduceToNat] at ho24; rw [← Ny163.out] at ho24))
            have n0_ := qb.mk (Kd.zq (Kd.R_newB ho24 (g := gb149) (o := .cells #[.int .i64 a1_0, .int .i64 a1_1, .bool a1_2] 58 (0, 0)) (bk_ BK149)) (qm (be3_ HB GE148 GE149 GE150)))
            have n1_ := qb.mk (qk (g := gb148) (o := .cells #[.int .i64 a0_0, .int .i64 a0_1, .slice (some ad151) l0_2.length c0_2] 31 (0, 0)) (bk_ BK148) hb)
            have n2_ := qb.mk (qk (g := gb149) (o := .cells #[.int .i64 a1_0, .int .i64 a1_1, .bool a1_2] 58 (0, 0)) (bk_ BK149) hb)
            have n3_ := qb.mk (qk (g := gb150) (o := .cells #[.int .i64 0, .int .i64 0, .slice none 0 0] 31 (0, 0)) (bk_ BK150) hb)
            have n4_ := qb.mk (qp (be3_ HB GE148 GE149 GE150) hb)
            clear BK148
            clear BK149
            clear BK150
            clear HB
            have HO165 := n0_
            have BK148 := n1_
            have BK149 := n2_
            have BK150 := n3_
            have HB := n4_
            clear n0_ n1_ n2_ n3_ n4_
            clear hb ho24
            refine hK.out _ _ ⟨(qf BK148.out 0).trans rfl, (qf BK148.out 1).trans rfl, (qf BK148.out 2).trans rfl, (qf BK149.out 0).trans rfl, (qf BK149.out 1).trans rfl, (qf BK149.out 2).trans rfl⟩ (fun hHeld => ?_)
            clear hK K
            refine norm_ (a' := ?_) ?_ ?_
            rotate_left
            ·show Act.put _ (some 30) _ = _
             simp only [Act.put, sA_, sB_, sC_, i64_w, i32_w]
             rfl
            refine one_ (i := 0) (N := some 23) #[true, true, true, true, true, false, true, true, false, false] rfl rfl (zl HT_.out (by kernel_rfl)) (by decide) (fun K hK => ?_)
            refine Kd.R_lit_step k58 _ 58 ?hg (N := 23) ?hd (xs := ([] : List (S58))) (inner := []) (ok := fun _ => True) (okp := fun _ => True) ?hr ?hp (fun _ hk => hk) trivial (Below.refl _ _) (Nat.le_refl _) (by simp) ?_; (case hd => rfl); (case hg => rfl); (case hr => first | (go_simp; done) | (go_simp; rfl)); (case hp => exact (Reps.none _ _))
            intro v154 w25 ho26 hb hg_ hnew_
            clear hg_ hnew_
            (first | rw [← Ny153.out] at ho26 | (simp only [Int.reduceToNat] at ho26; rw [← Ny153.out] at ho26))
            have n0_ := qb.mk (Kd.zj (kr_ HO165) (Kd.zr ho26) hb)
            have n1_ := qb.mk (Kd.zq (Kd.R_newB (Kd.zv ho26 (Kd.R_lt (kr_ HO165))) (g := gb149) (o := .cells #[.int .i64 a1_0, .int .i64 a1_1, .bool a1_2] 58 (0, 0)) (bk_ BK149)) (qm (be3_ HB GE148 GE149 GE150)))
            have n2_ := qb.mk (qk (g := gb148) (o := .cells #[.int .i64 a0_0, .int .i64 a0_1, .slice (some ad151) l0_2.length c0_2] 31 (0, 0)) (bk_ BK148) hb)
            have n3_ := qb.mk (qk (g := gb149) (o := .cells #[.int .i64 a1_0, .int .i64 a1_1, .bool a1_2] 58 (0, 0)) (bk_ BK149) hb)
            have n4_ := qb.mk (qk (g := gb150) (o := .cells #[.int .i64 0, .int .i64 0, .slice none 0 0] 31 (0, 0)) (bk_ BK150) hb)
            have n5_ := qb.mk (qp (be3_ HB GE148 GE149 GE150) hb)
            clear HO165
            clear BK148
            clear BK149
            clear BK150
            clear HB
            have HO165 := n0_
            have HO155 := n1_
            have BK148 := n2_
            have BK149 := n3_
            have BK150 := n4_
            have HB := n5_
            clear n0_ n1_ n2_ n3_ n4_ n5_
            clear hb ho26
            refine hK.out _ _ ⟨(qf BK148.out 0).trans rfl, (qf BK148.out 1).trans rfl, (qf BK148.out 2).trans rfl, (qf BK149.out 0).trans rfl, (qf BK149.out 1).trans rfl, (qf BK149.out 2).trans rfl⟩ (fun hHeld => ?_)
            clear hK K
            refine norm_ (a' := ?_) ?_ ?_
            rotate_left
            ·show Act.put _ (some 23) _ = _
             simp only [Act.put, sA_, sB_, sC_, i64_w, i32_w]
             rfl
            refine one_ (i := 5) (N := some 28) #[true, true, true, true, true, true, true, true, false, false] rfl rfl (zl HT_.out (by kernel_rfl)) (by decide) (fun K hK => ?_)
            refine Kd.R_append_rows_step k58 (w0 := w) w.heap.size (by rfl) (.tmp 23) (.tmp 27) 29 58 (.agg #[(.int .i64 0), (.int .i64 0), (.bool false)]) 24 rfl Try.underlying29 info58 rfl (by decide) (by omega) v154 y153 y156 _ _ _ (fun k_ => some k_ ≠ (v164 : Value).ownBlock ∧ k_ ≠ gb149) (fun _ => False) rfl rfl ?aO ?aR (fun _ _ h => h) (fun _ h => h.elim) ?aF ?aB ?aS ?aL ?_
            (case aR => repeat (first | exact (Kd.zi HR159.out HB.out) | (with_reducible refine Kd.zg ?_ _) | (with_reducible refine Kd.zh ?_ _) | (with_reducible refine Kd.zk ?_)))
            (case aB => exact (be3_ HB GE148 GE149 GE150))
            (case aF => exact (fun k_ hk => ⟨Kd.fresh' (Kd.R_lt (kr_ HO165)) k_ hk, Kd.freshB (g := gb149) (o := .cells #[.int .i64 a1_0, .int .i64 a1_1, .bool a1_2] 58 (0, 0)) (bk_ BK149) k_ hk⟩))
            (case aO => exact (by (with_reducible repeat (first | apply Kd.qo | apply Kd.qn | apply Kd.qq)); exact Kd.zb HO155.out (fun _ hk => ⟨hk.1.2, hk.2⟩)))
            (case aS => exact (qm (be3_ HB GE148 GE149 GE150)))
            (case aL => have := LMc14.out; omega)
            intro v161 w27 ho hb hg hat
            rw [← Ny160.out] at ho
            have n0_ := qb.mk (zo (g := gb148) (o := .cells #[.int .i64 a0_0, .int .i64 a0_1, .slice (some ad151) l0_2.length c0_2] 31 (0, 0)) (bk_ BK148) hg (Kd.R_ne HO155.out BK148.out (by decide)))
            have n1_ := qb.mk (zo (g := gb149) (o := .cells #[.int .i64 a1_0, .int .i64 a1_1, .bool a1_2] 58 (0, 0)) (bk_ BK149) hg (Kd.R_away HO155.out (fun _ hk => hk.2)))
            have n2_ := qb.mk (zo (g := gb150) (o := .cells #[.int .i64 0, .int .i64 0, .slice none 0 0] 31 (0, 0)) (bk_ BK150) hg (Kd.R_ne HO155.out BK150.out (by decide)))
            have n3_ := qb.mk (Kd.R_after (ok := (fun k_ => k_ ≠ gb149)) (by (with_reducible repeat (first | apply Kd.qo | apply Kd.qn | apply Kd.qq)); exact Kd.zb HO165.out (fun _ hk => ⟨hk.1.2, hk.2⟩)) hg hat)
            have n4_ := qb.mk (hb)
            have n5_ := qb.mk (ho)
            clear BK148
            clear BK149
            clear BK150
            clear HO165
            clear HB
            clear HO155
            have BK148 := n0_
            have BK149 := n1_
            have BK150 := n2_
            have HO165 := n3_
            have HB := n4_
            have HO162 := n5_
            clear n0_ n1_ n2_ n3_ n4_ n5_
            clear ho hb hg hat
            refine hK.out _ _ ⟨(qf BK148.out 0).trans rfl, (qf BK148.out 1).trans rfl, (qf BK148.out 2).trans rfl, (qf BK149.out 0).trans rfl, (qf BK149.out 1).trans rfl, (qf BK149.out 2).trans rfl⟩ (fun hHeld => ?_)
            clear hK K
            refine norm_ (a' := ?_) ?_ ?_
            rotate_left
            ·show Act.put _ (some 28) _ = _
             simp only [Act.put, sA_, sB_, sC_, i64_w, i32_w]
             rfl
            exact norm_ (by simp only [zm, Act.put, sA_, sB_, sC_]) (hCont (v154, v161, v164) _ ⟨hHeld, (kr_ HO162), (by (with_reducible repeat (first | apply Kd.qo | apply Kd.qn | apply Kd.qq)); exact Kd.zb HO165.out (fun _ hk => ⟨hk.2, hk.1⟩)), (bk_ BK148), (bk_ BK149), (bk_ BK150), (be3_ HB GE148 GE149 GE150)⟩)
          rintro ⟨v154, v161, v164⟩ w28 ⟨hS_, h0_, h1_, h2_, h3_, h4_, h5_⟩
          have n0_ : qb (Kd.R k58 58 w28 w.heap.size (fun k_ => some k_ ≠ (v164 : Value).ownBlock ∧ k_ ≠ gb149) v161 y160) := ⟨h0_⟩
          have n1_ : qb (Kd.R k58 58 w28 w.heap.size (fun k_ => some k_ ≠ (v161 : Value).ownBlock ∧ k_ ≠ gb149) v164 y163) := ⟨h1_⟩
          have n2_ : qb (w28.heap[gb148]? = some (.cells #[.int .i64 a0_0, .int .i64 a0_1, .slice (some ad151) l0_2.length c0_2] 31 (0, 0))) := ⟨h2_⟩
          have n3_ : qb (w28.heap[gb149]? = some (.cells #[.int .i64 a1_0, .int .i64 a1_1, .bool a1_2] 58 (0, 0))) := ⟨h3_⟩
          have n4_ : qb (w28.heap[gb150]? = some (.cells #[.int .i64 0, .int .i64 0, .slice none 0 0] 31 (0, 0))) := ⟨h4_⟩
          have n5_ : qb (Below w.heap.size w w28) := ⟨h5_⟩
          clear BK148
          clear BK149
          clear BK150
          clear HB
          clear h0_ h1_ h2_ h3_ h4_ h5_
          have HO162 := n0_
          have HO165 := n1_
          have BK148 := n2_
          have BK149 := n3_
          have BK150 := n4_
          have HB := n5_
          clear n0_ n1_ n2_ n3_ n4_ n5_
          have hHeld : w28.cell? ⟨gb148, 0, none⟩ = some (.int .i64 a0_0) ∧ w28.cell? ⟨gb148, 1, none⟩ = some (.int .i64 a0_1) ∧ w28.cell? ⟨gb148, 2, none⟩ = some (.slice (some ad151) l0_2.length c0_2) ∧ w28.cell? ⟨gb149, 0, none⟩ = some (.int .i64 a1_0) ∧ w28.cell? ⟨gb149, 1, none⟩ = some (.int .i64 a1_1) ∧ w28.cell? ⟨gb149, 2, none⟩ = some (.bool a1_2) := hS_
          obtain ⟨Ao30, co30, eo30⟩ := Kd.zy HO165.out
          (first | subst eo30 | (injection eo30 with f1_ f2_ f3_; have f4_ := f1_.symm; have f5_ := f3_.symm; clear f1_ f2_ f3_; subst f4_; subst f5_))
          refine norm_ (a' := ?_) ?_ ?_
          rotate_left
          ·simp only [zm, Act.put, sA_, sB_, sC_]
           rfl
          refine one_ (i := 8) (N := some 31) #[true, true, true, true, true, true, true, true, true, false] rfl rfl (zl HT_.out (by kernel_rfl)) (by decide) (fun K hK => ?_)
          refine Kd.R_append_rows_step k58 (w0 := w) w.heap.size (by rfl) (.tmp 28) (.tmp 30) 29 58 (.agg #[(.int .i64 0), (.int .i64 0), (.bool false)]) 24 rfl Try.underlying29 info58 rfl (by decide) (by omega) v161 y160 y163 _ _ _ (fun k_ => some k_ ≠ (.slice Ao30 y163.length co30 : Value).ownBlock ∧ k_ ≠ gb149) (fun _ => False) rfl rfl ?aO ?aR (fun _ _ h => h) (fun _ h => h.elim) ?aF ?aB ?aS ?aL ?_
          (case aR => repeat (first | exact (Kd.za HO165.out).2.2 | (with_reducible refine Kd.zg ?_ _) | (with_reducible refine Kd.zh ?_ _) | (with_reducible refine Kd.zk ?_)))
          (case aB => exact (be3_ HB GE148 GE149 GE150))
          (case aF => exact (fun k_ hk => ⟨Kd.fresh' (Kd.R_lt (kr_ HO165)) k_ hk, Kd.freshB (g := gb149) (o := .cells #[.int .i64 a1_0, .int .i64 a1_1, .bool a1_2] 58 (0, 0)) (bk_ BK149) k_ hk⟩))
          (case aO => exact (kr_ HO162))
          (case aS => exact (qm (be3_ HB GE148 GE149 GE150)))
          (case aL => have := LMc15.out; omega)
          intro v167 w29 ho hb hg hat
          rw [← Ny166.out] at ho
          have n0_ := qb.mk (zo (g := gb148) (o := .cells #[.int .i64 a0_0, .int .i64 a0_1, .slice (some ad151) l0_2.length c0_2] 31 (0, 0)) (bk_ BK148) hg (Kd.R_ne HO162.out BK148.out (by decide)))
          have n1_ := qb.mk (zo (g := gb149) (o := .cells #[.int .i64 a1_0, .int .i64 a1_1, .bool a1_2] 58 (0, 0)) (bk_ BK149) hg (Kd.R_away HO162.out (fun _ hk => hk.2)))
          have n2_ := qb.mk (zo (g := gb150) (o := .cells #[.int .i64 0, .int .i64 0, .slice none 0 0] 31 (0, 0)) (bk_ BK150) hg (Kd.R_ne HO162.out BK150.out (by decide)))
          have n3_ := qb.mk (Kd.R_after (ok := (fun k_ => k_ ≠ gb149)) (by (with_reducible repeat (first | apply Kd.qo | apply Kd.qn | apply Kd.qq)); exact Kd.zb HO165.out (fun _ hk => ⟨hk.2, hk.1⟩)) hg hat)
          have n4_ := qb.mk (hb)
          have n5_ := qb.mk (ho)
          clear BK148
          clear BK149
          clear BK150
          clear HO165
          clear HB
          clear HO162
          have BK148 := n0_
          have BK149 := n1_
          have BK150 := n2_
          have HO165 := n3_
          have HB := n4_
          have HO168 := n5_
          clear n0_ n1_ n2_ n3_ n4_ n5_
          clear ho hb hg hat
          refine hK.out _ _ ⟨(qf BK148.out 0).trans rfl, (qf BK148.out 1).trans rfl, (qf BK148.out 2).trans rfl, (qf BK149.out 0).trans rfl, (qf BK149.out 1).trans rfl, (qf BK149.out 2).trans rfl⟩ (fun hHeld => ?_)
          clear hK K
          refine norm_ (a' := ?_) ?_ ?_
          rotate_left
          ·show Act.put _ (some 31) _ = _
           simp only [Act.put, sA_, sB_, sC_, i64_w, i32_w]
           rfl
          refine pure_ (i := 9) (N := some 6) (v := ?_) (a' := ?_) #[true, true, true, true, true, true, true, true, true, true] rfl rfl (qt HT_.out (by kernel_rfl)) (fun _ _ _ h => h) (Or.inl ⟨by rfl, ?_⟩) ?_ ?_
          rotate_left
          ·intro w'
           go_simp
           with_reducible rfl
          rotate_left
          ·simp only [Act.put, sA_, sB_, sC_, i64_w, i32_w]
           rfl
          refine done_ (jc HT_.out (by kernel_rfl)) ?_
          try go_wp2
          have n0_ := qb.mk (Kd.qq HO165.out)
          have n1_ := qb.mk (Kd.qq HO168.out)
          have n2_ := qb.mk (qg BK148.out)
          have n3_ := qb.mk (qg BK149.out)
          have n4_ := qb.mk (qg BK150.out)
          have n5_ := qb.mk (qh HB.out)
          clear HO165
          clear HO168
          clear BK148
          clear BK149
          clear BK150
          clear HB
          have HO165 := n0_
          have HO168 := n1_
          have BK148 := n2_
          have BK149 := n3_
          have BK150 := n4_
          have HB := n5_
          clear n0_ n1_ n2_ n3_ n4_ n5_
          have q32 : (x5_1 : Int) ≤ ((l0_2.length : Int) : Int) := of_decide_eq_true (by first | (with_reducible assumption) | assumption)
          obtain ⟨i032, hi032, _, hsz32, _⟩ := info_parts info58
          have hroom32 : l0_2.length ≤ c0_2 := HC0_2.out
          have hC32 : Kd.C k58 _ (some ad151) l0_2.length l0_2 := HR0_2.out
          have q032 : (0 : Int) ≤ (x5_1 : Int) := of_decide_eq_true (by first | (with_reducible assumption) | assumption)
          have hcut32 := cut_from (P := Try.prog) 29 58 .i64 Try.underlying29 hi032 3 hsz32 (some ad151) l0_2.length c0_2 x5_1 q032 q32
          have hr32 := Kd.C_drop (m := (x5_1 : Int).toNat) (c := c0_2) hC32 (by omega) hroom32
          obtain ⟨A32, hA32⟩ : ∃ A1, A1 = (if c0_2 = (x5_1 : Int).toNat then (some ad151) else ((some ad151) : Option Addr).map (·.add ((x5_1 : Int).toNat * 3))) := ⟨_, rfl⟩
          obtain ⟨c32, hc32⟩ : ∃ c1, c1 = c0_2 - (x5_1 : Int).toNat := ⟨_, rfl⟩
          have hy32 : y169.length = l0_2.length - (x5_1 : Int).toNat := (by rw [Ny169.out, List.length_drop] <;> omega)
          rw [show (l0_2).drop (x5_1 : Int).toNat = y169 from Ny169.out.symm] at hr32
          replace hr32 : Kd.C k58 _ A32 y169.length y169 := (by rw [hA32]; exact hr32)
          rw [← hy32, ← hA32, ← hc32] at hcut32
          have HR172 := qb.mk hr32
          have HC172 := qb.mk (show y169.length ≤ c32 from by rw [hy32, hc32]; exact Nat.sub_le_sub_right hroom32 _)
          clear hr32 hC32 hroom32 hi032 hsz32 hc32
          have KY32 := qb.mk hy32
          have KA32 := qb.mk hA32
          clear hy32 hA32
          replace q32 := eq_true q32
          refine jd (n := 12) (S := fun w' => w'.cell? ⟨gb148, 0, none⟩ = some (.int .i64 a0_0) ∧ w'.cell? ⟨gb148, 1, none⟩ = some (.int .i64 a0_1) ∧ w'.cell? ⟨gb148, 2, none⟩ = some (.slice (some ad151) l0_2.length c0_2)) (ds := []) #[false, false, false, false, false, false, false, false, false, false, false, false] (by kernel_rfl) rfl rfl ⟨(qf BK148.out 0).trans rfl, (qf BK148.out 1).trans rfl, (qf BK148.out 2).trans rfl⟩ (fun hHeld => ?_); refine zx spec_avClose.tab5 spec_avClose.bits5 (fun HT_ HW_ => ?_)
          generalize w29.drew = w31 at HO165 HO168 BK148 BK149 BK150 HB HR172 hHeld ⊢
          refine pure_ (i := 0) (N := some 32) (v := ?_) (a' := ?_) #[true, false, false, false, false, false, false, false, false, false, false, false] rfl rfl (qt HT_.out (by kernel_rfl)) (fun _ _ _ h => h) (Or.inl ⟨by rfl, ?_⟩) ?_ ?_
          rotate_left
          ·intro w'
           go_simp
           with_reducible rfl
          rotate_left
          ·simp only [Act.put, sA_, sB_, sC_, i64_w, i32_w]
           rfl
          refine pure_ (i := 2) (N := some 34) (v := ?_) (a' := ?_) #[true, false, true, false, false, false, false, false, false, false, false, false] rfl rfl (qt HT_.out (by kernel_rfl)) (fun _ _ _ h => h) (Or.inl ⟨by rfl, ?_⟩) ?_ ?_
          rotate_left
          ·intro w'
           go_simp
           with_reducible rfl
          rotate_left
          ·simp only [Act.put, sA_, sB_, sC_, i64_w, i32_w]
           rfl
          refine pure_ (i := 4) (N := some 36) (v := ?_) (a' := ?_) #[true, false, true, false, true, false, false, false, false, false, false, false] rfl rfl (qt HT_.out (by kernel_rfl)) (fun _ _ _ h => h) (Or.inl ⟨by rfl, ?_⟩) ?_ ?_
          rotate_left
          ·intro w'
           go_simp
           with_reducible rfl
          rotate_left
          ·simp only [Act.put, sA_, sB_, sC_, i64_w, i32_w]
           rfl
          refine pure_ (i := 5) (N := some 37) (v := ?_) (a' := ?_) #[true, false, true, false, true, true, false, false, false, false, false, false] rfl rfl (qt HT_.out (by kernel_rfl)) (fun _ _ _ h => h) (Or.inl ⟨by rfl, ?_⟩) ?_ ?_
          rotate_left
          ·intro w'
           go_simp
           with_reducible rfl
          rotate_left
          ·simp only [Act.put, sA_, sB_, sC_, i64_w, i32_w]
           rfl
          refine pure_ (i := 7) (N := some 39) (v := ?_) (a' := ?_) #[true, false, true, false, true, true, false, true, false, false, false, false] rfl rfl (qt HT_.out (by kernel_rfl)) (fun _ _ _ h => h) (Or.inl ⟨by rfl, ?_⟩) ?_ ?_
          rotate_left
          ·intro w'
           go_simp
           with_reducible rfl
          rotate_left
          ·simp only [Act.put, sA_, sB_, sC_, i64_w, i32_w]
           rfl
          refine take_ (i := 1) (N := some 33) (v := ?_) (a' := ?_) #[true, true, true, false, true, true, false, true, false, false, false, false] rfl rfl (ze HT_.out HW_.out (by kernel_rfl)) (fun _ _ _ h => h) (Or.inl ⟨by rfl, ?_⟩) hHeld ?_ ?_
          rotate_left
          ·rintro w' ⟨s0, s1, s2⟩
           go_simp
           with_reducible rfl
          rotate_left
          ·simp only [Act.put, sA_, sB_, sC_, i64_w, i32_w]
           rfl
          refine take_ (i := 3) (N := some 35) (v := ?_) (a' := ?_) #[true, true, true, true, true, true, false, true, false, false, false, false] rfl rfl (ze HT_.out HW_.out (by kernel_rfl)) (fun _ _ _ h => h) (Or.inl ⟨by rfl, ?_⟩) hHeld ?_ ?_
          rotate_left
          ·rintro w' ⟨s0, s1, s2⟩
           go_simp
           with_reducible rfl
          rotate_left
          ·simp only [Act.put, sA_, sB_, sC_, i64_w, i32_w]
           rfl
          refine take_ (i := 6) (N := some 38) (v := ?_) (a' := ?_) #[true, true, true, true, true, true, true, true, false, false, false, false] rfl rfl (ze HT_.out HW_.out (by kernel_rfl)) (fun _ _ _ h => h) (Or.inl ⟨by rfl, ?_⟩) hHeld ?_ ?_
          rotate_left
          ·rintro w' ⟨s0, s1, s2⟩
           go_simp
           with_reducible rfl
          rotate_left
          ·simp only [Act.put, sA_, sB_, sC_, i64_w, i32_w]
           rfl
          refine pure_ (i := 8) (N := some 40) (v := ?_) (a' := ?_) #[true, true, true, true, true, true, true, true, true, false, false, false] rfl rfl (qt HT_.out (by kernel_rfl)) (fun _ _ _ h => h) (Or.inl ⟨by rfl, ?_⟩) ?_ ?_
          rotate_left
          ·intro w'
           go_simp
           with_reducible rfl
          rotate_left
          ·simp only [Act.put, sA_, sB_, sC_, i64_w, i32_w]
           rfl
          refine one_ (i := 9) (N := some 41) #[true, true, true, true, true, true, true, true, true, true, false, false] rfl rfl (zl HT_.out (by kernel_rfl)) (by decide) (fun K hK => ?_)
          refine Kd.R_append_rows_step k58 (w0 := w) w.heap.size (by rfl) (.tmp 36) (.tmp 40) 29 58 (.agg #[(.int .i64 0), (.int .i64 0), (.bool false)]) 24 rfl Try.underlying29 info58 rfl (by decide) (by omega) v167 y166 y169 _ _ _ (fun k_ => some k_ ≠ (.slice Ao30 y163.length co30 : Value).ownBlock ∧ k_ ≠ gb149) (fun _ => False) rfl rfl ?aO ?aR (fun _ _ h => h) (fun _ h => h.elim) ?aF ?aB ?aS ?aL ?_
          (case aR => repeat (first | exact (Kd.zi HR172.out HB.out) | (with_reducible refine Kd.zg ?_ _) | (with_reducible refine Kd.zh ?_ _) | (with_reducible refine Kd.zk ?_)))
          (case aB => exact (be3_ HB GE148 GE149 GE150))
          (case aF => exact (fun k_ hk => ⟨Kd.fresh' (Kd.R_lt (kr_ HO165)) k_ hk, Kd.freshB (g := gb149) (o := .cells #[.int .i64 a1_0, .int .i64 a1_1, .bool a1_2] 58 (0, 0)) (bk_ BK149) k_ hk⟩))
          (case aO => exact (kr_ HO168))
          (case aS => exact (qm (be3_ HB GE148 GE149 GE150)))
          (case aL => have := LMc18.out; omega)
          intro v174 w33 ho hb hg hat
          rw [← Ny173.out] at ho
          have n0_ := qb.mk (zo (g := gb148) (o := .cells #[.int .i64 a0_0, .int .i64 a0_1, .slice (some ad151) l0_2.length c0_2] 31 (0, 0)) (bk_ BK148) hg (Kd.R_ne HO168.out BK148.out (by decide)))
          have n1_ := qb.mk (zo (g := gb149) (o := .cells #[.int .i64 a1_0, .int .i64 a1_1, .bool a1_2] 58 (0, 0)) (bk_ BK149) hg (Kd.R_away HO168.out (fun _ hk => hk.2)))
          have n2_ := qb.mk (zo (g := gb150) (o := .cells #[.int .i64 0, .int .i64 0, .slice none 0 0] 31 (0, 0)) (bk_ BK150) hg (Kd.R_ne HO168.out BK150.out (by decide)))
          have n3_ := qb.mk (Kd.R_after (ok := (fun k_ => k_ ≠ gb149)) (kr_ HO165) hg hat)
          have n4_ := qb.mk (hb)
          have n5_ := qb.mk (ho)
          clear BK148
          clear BK149
          clear BK150
          clear HO165
          clear HB
          clear HO168
          have BK148 := n0_
          have BK149 := n1_
          have BK150 := n2_
          have HO165 := n3_
          have HB := n4_
          have HO175 := n5_
          clear n0_ n1_ n2_ n3_ n4_ n5_
          clear ho hb hg hat
          obtain ⟨Ao34, co34, eo34⟩ := Kd.zy HO175.out
          (first | subst eo34 | (injection eo34 with f1_ f2_ f3_; have f4_ := f1_.symm; have f5_ := f3_.symm; clear f1_ f2_ f3_; subst f4_; subst f5_))
          refine hK.out _ _ ⟨(qf BK148.out 0).trans rfl, (qf BK148.out 1).trans rfl, (qf BK148.out 2).trans rfl⟩ (fun hHeld => ?_)
          clear hK K
          refine norm_ (a' := ?_) ?_ ?_
          rotate_left
          ·show Act.put _ (some 41) _ = _
           simp only [Act.put, sA_, sB_, sC_, i64_w, i32_w]
           rfl
          refine pure_ (i := 10) (N := some 42) (v := ?_) (a' := ?_) #[true, true, true, true, true, true, true, true, true, true, true, false] rfl rfl (qt HT_.out (by kernel_rfl)) (fun _ _ _ h => h) (Or.inl ⟨by rfl, ?_⟩) ?_ ?_
          rotate_left
          ·intro w'
           go_simp
           with_reducible rfl
          rotate_left
          ·simp only [Act.put, sA_, sB_, sC_, i64_w, i32_w]
           rfl
          refine one_ (i := 11) (N := none) #[true, true, true, true, true, true, true, true, true, true, true, true] rfl rfl (zl HT_.out (by kernel_rfl)) (by decide) (fun K hK => ?_)
          have hs35 : w33.cell? ⟨gb150, 0, none⟩ = some (.int .i64 0) := (qf BK150.out 0).trans rfl
          have hfs35 := qj BK150.out 0
          have hns35_0 := NB148_150.out
          have hns35_1 := NB149_150.out
          have hms35_0 := NB150_148.out
          have hms35_1 := NB150_149.out
          have hs36 : w33.cell? ⟨gb150, 1, none⟩ = some (.int .i64 0) := (qf BK150.out 1).trans rfl
          have hfs36 := qj BK150.out 1
          have hns36_0 := NB148_150.out
          have hns36_1 := NB149_150.out
          have hms36_0 := NB150_148.out
          have hms36_1 := NB150_149.out
          have hs37 : w33.cell? ⟨gb150, 2, none⟩ = some (.slice none 0 0) := (qf BK150.out 2).trans rfl
          have hfs37 := qj BK150.out 2
          have hns37_0 := NB148_150.out
          have hns37_1 := NB149_150.out
          have hms37_0 := NB150_148.out
          have hms37_1 := NB150_149.out
          refine skip_ (w1 := ?_) (by rfl) rfl ?_ ?_
          rotate_left
          ·go_simp
           rfl
          refine hK.out _ _ ⟨((cell_far (p := ⟨gb150, _, none⟩) NB148_150.out _).trans (((cell_far (p := ⟨gb150, _, none⟩) NB148_150.out _).trans (((cell_far (p := ⟨gb150, _, none⟩) NB148_150.out _).trans (hHeld.1)))))), ((cell_far (p := ⟨gb150, _, none⟩) NB148_150.out _).trans (((cell_far (p := ⟨gb150, _, none⟩) NB148_150.out _).trans (((cell_far (p := ⟨gb150, _, none⟩) NB148_150.out _).trans (hHeld.2.1)))))), ((cell_far (p := ⟨gb150, _, none⟩) NB148_150.out _).trans (((cell_far (p := ⟨gb150, _, none⟩) NB148_150.out _).trans (((cell_far (p := ⟨gb150, _, none⟩) NB148_150.out _).trans (hHeld.2.2))))))⟩ (fun hHeld => ?_)
          clear hK K
          refine done_ (jc HT_.out (by kernel_rfl)) ?_
          try go_wp2
          refine bodyPost_ret (results_cell_row rfl _ _ gb150 31 #[.int .i64 a0_0, .int .i64 a0_1, .slice Ao34 y173.length co34] (0, 0) _ rfl (by (with_reducible repeat (first | refine qd ?_ _ | refine qg ?_ | refine qc ?_ _)); refine zf (cs := #[.int .i64 a0_0, .int .i64 a0_1, .slice none 0 0]) ?_ 2 _ rfl; (with_reducible repeat (first | refine qd ?_ _ | refine qg ?_ | refine qc ?_ _)); refine zf (cs := #[.int .i64 a0_0, .int .i64 0, .slice none 0 0]) ?_ 1 _ rfl; (with_reducible repeat (first | refine qd ?_ _ | refine qg ?_ | refine qc ?_ _)); refine zf (cs := #[.int .i64 0, .int .i64 0, .slice none 0 0]) ?_ 0 _ rfl; (with_reducible repeat (first | refine qd ?_ _ | refine qg ?_ | refine qc ?_ _)); exact BK150.out) Try.underlying31 rfl (by kernel_rfl)) rfl ?_
          exact ⟨_, by first | rfl | (simp [qv, qu] <;> rfl) | (simp [*, qv, qu] <;> rfl), by (with_reducible repeat (first | apply Kd.qo | apply Kd.qn | apply Kd.qq)); exact Kd.zb (Kd.R_far (p := ⟨gb150, 2, none⟩) (Kd.R_far (p := ⟨gb150, 1, none⟩) (Kd.R_far (p := ⟨gb150, 0, none⟩) (Kd.zw HO175.out BK150.out (by decide)) (fun _ hk => hk.2) (.int .i64 a0_0)) (fun _ hk => hk.2) (.int .i64 a0_1)) (fun _ hk => hk.2) (.slice Ao34 y173.length co34)) (fun _ hk => trivial), be3_ HB GE148 GE149 GE150⟩
         ·rw [if_neg c18] at H
          exact absurd H (by simp)
        ·rw [if_neg c15] at H
         exact absurd H (by simp)
       ·rw [if_neg c14] at H
        exact absurd H (by simp)
      ·rw [if_neg c13] at H
       exact absurd H (by simp)
    ·rw [if_neg c7] at H
     exact absurd H (by simp)
   ·rw [if_neg c6] at H
    have c6b0 : decide (x5_1 < (l0_2.length : Int)) = false := decide_eq_false c6
    clear c6
    obtain ⟨y176, hy176⟩ : ∃ y_ : List (S58), y_ = (([] : List (S58))) := ⟨_, rfl⟩
    replace H : (if 0 ≤ x5_1 then (if x5_1 ≤ (l0_2.length : Int) then ((some (l0_2.take (x5_1 : Int).toNat : List (S58))).bind fun y179 => (if y176.length + y179.length < 5864062014805 then ((some (y176 ++ y179 : List (S58))).bind fun y183 => ((some (([(⟨a1_0, a1_1, a1_2⟩ : S58)] : List (S58)) : List (S58))).bind fun y186 => (if y183.length + y186.length < 5864062014805 then ((some (y183 ++ y186 : List (S58))).bind fun y189 => ((some (l0_2.drop (x5_1 : Int).toNat : List (S58))).bind fun y192 => (if y189.length + y192.length < 5864062014805 then (some (a0_0, a0_1, (y189 ++ y192))) else (none)))) else (none)))) else (none))) else (none)) else (none)) = some (r1, r2, r3) := by first | (rw [hy176]; with_reducible exact H) | (have H2_ := (Option.bind_some _ _).symm.trans H; rw [hy176]; with_reducible exact H2_) | (have H2_ := (Option.bind_some _ _).symm.trans H; with_reducible exact H2_) | with_reducible exact H | (rw [hy176]; exact H) | exact H
    have Ny176 := qb.mk hy176
    clear hy176
    by_cases c38 : 0 ≤ x5_1
    ·rw [if_pos c38] at H
     have c38b0 := eq_true c38
     have c38b1 : decide (0 ≤ x5_1) = true := decide_eq_true c38
     clear c38
     by_cases c39 : x5_1 ≤ (l0_2.length : Int)
     ·rw [if_pos c39] at H
      have c39b0 := eq_true c39
      have c39b1 : decide (x5_1 ≤ (l0_2.length : Int)) = true := decide_eq_true c39
      clear c39
      obtain ⟨y179, hy179⟩ : ∃ y_ : List (S58), y_ = (l0_2.take (x5_1 : Int).toNat) := ⟨_, rfl⟩
      replace H : (if y176.length + y179.length < 5864062014805 then ((some (y176 ++ y179 : List (S58))).bind fun y183 => ((some (([(⟨a1_0, a1_1, a1_2⟩ : S58)] : List (S58)) : List (S58))).bind fun y186 => (if y183.length + y186.length < 5864062014805 then ((some (y183 ++ y186 : List (S58))).bind fun y189 => ((some (l0_2.drop (x5_1 : Int).toNat : List (S58))).bind fun y192 => (if y189.length + y192.length < 5864062014805 then (some (a0_0, a0_1, (y189 ++ y192))) else (none)))) else (none)))) else (none)) = some (r1, r2, r3) := by first | (rw [hy179]; with_reducible exact H) | (have H2_ := (Option.bind_some _ _).symm.trans H; rw [hy179]; with_reducible exact H2_) | (have H2_ := (Option.bind_some _ _).symm.trans H; with_reducible exact H2_) | with_reducible exact H | (rw [hy179]; exact H) | exact H
      have Ny179 := qb.mk hy179
      clear hy179
      by_cases c40 : y176.length + y179.length < 5864062014805
      ·rw [if_pos c40] at H
       have LMc40 := qb.mk c40
       clear c40
       obtain ⟨y183, hy183⟩ : ∃ y_ : List (S58), y_ = (y176 ++ y179) := ⟨_, rfl⟩
       replace H : ((some (([(⟨a1_0, a1_1, a1_2⟩ : S58)] : List (S58)) : List (S58))).bind fun y186 => (if y183.length + y186.length < 5864062014805 then ((some (y183 ++ y186 : List (S58))).bind fun y189 => ((some (l0_2.drop (x5_1 : Int).toNat : List (S58))).bind fun y192 => (if y189.length + y192.length < 5864062014805 then (some (a0_0, a0_1, (y189 ++ y192))) else (none)))) else (none))) = some (r1, r2, r3) := by first | (rw [hy183]; with_reducible exact H) | (have H2_ := (Option.bind_some _ _).symm.trans H; rw [hy183]; with_reducible exact H2_) | (have H2_ := (Option.bind_some _ _).symm.trans H; with_reducible exact H2_) | with_reducible exact H | (rw [hy183]; exact H) | exact H
       have Ny183 := qb.mk hy183
       clear hy183
       obtain ⟨y186, hy186⟩ : ∃ y_ : List (S58), y_ = (([(⟨a1_0, a1_1, a1_2⟩ : S58)] : List (S58))) := ⟨_, rfl⟩
       replace H : (if y183.length + y186.length < 5864062014805 then ((some (y183 ++ y186 : List (S58))).bind fun y189 => ((some (l0_2.drop (x5_1 : Int).toNat : List (S58))).bind fun y192 => (if y189.length + y192.length < 5864062014805 then (some (a0_0, a0_1, (y189 ++ y192))) else (none)))) else (none)) = some (r1, r2, r3) := by first | (rw [hy186]; with_reducible exact H) | (have H2_ := (Option.bind_some _ _).symm.trans H; rw [hy186]; with_reducible exact H2_) | (have H2_ := (Option.bind_some _ _).symm.trans H; with_reducible exact H2_) | with_reducible exact H | (rw [hy186]; exact H) | exact H
       have Ny186 := qb.mk hy186
       clear hy186
       by_cases c41 : y183.length + y186.length < 5864062014805
       ·rw [if_pos c41] at H
        have LMc41 := qb.mk c41
        clear c41
        obtain ⟨y189, hy189⟩ : ∃ y_ : List (S58), y_ = (y183 ++ y186) := ⟨_, rfl⟩
        replace H : ((some (l0_2.drop (x5_1 : Int).toNat : List (S58))).bind fun y192 => (if y189.length + y192.length < 5864062014805 then (some (a0_0, a0_1, (y189 ++ y192))) else (none))) = some (r1, r2, r3) := by first | (rw [hy189]; with_reducible exact H) | (have H2_ := (Option.bind_some _ _).symm.trans H; rw [hy189]; with_reducible exact H2_) | (have H2_ := (Option.bind_some _ _).symm.trans H; with_reducible exact H2_) | with_reducible exact H | (rw [hy189]; exact H) | exact H
        have Ny189 := qb.mk hy189
        clear hy189
        have c42b0 := eq_true (of_decide_eq_true (by first | (with_reducible assumption) | assumption) : 0 ≤ x5_1)
        have c43b0 := eq_true (of_decide_eq_true (by first | (with_reducible assumption) | assumption) : x5_1 ≤ (l0_2.length : Int))
        obtain ⟨y192, hy192⟩ : ∃ y_ : List (S58), y_ = (l0_2.drop (x5_1 : Int).toNat) := ⟨_, rfl⟩
        replace H : (if y189.length + y192.length < 5864062014805 then (some (a0_0, a0_1, (y189 ++ y192))) else (none)) = some (r1, r2, r3) := by first | (rw [hy192]; with_reducible exact H) | (have H2_ := (Option.bind_some _ _).symm.trans H; rw [hy192]; with_reducible exact H2_) | (have H2_ := (Option.bind_some _ _).symm.trans H; with_reducible exact H2_) | with_reducible exact H | (rw [hy192]; exact H) | exact H
        have Ny192 := qb.mk hy192
        clear hy192
        by_cases c44 : y189.length + y192.length < 5864062014805
        ·rw [if_pos c44] at H
         have LMc44 := qb.mk c44
         clear c44
         obtain ⟨y196, hy196⟩ : ∃ y_ : List (S58), y_ = (y189 ++ y192) := ⟨_, rfl⟩
         replace H : (some (a0_0, a0_1, y196)) = some (r1, r2, r3) := by first | (rw [hy196]; with_reducible exact H) | (have H2_ := (Option.bind_some _ _).symm.trans H; rw [hy196]; with_reducible exact H2_) | (have H2_ := (Option.bind_some _ _).symm.trans H; with_reducible exact H2_) | with_reducible exact H | (rw [hy196]; exact H) | exact H
         have Ny196 := qb.mk hy196
         clear hy196
         simp only [Option.some.injEq, Prod.mk.injEq] at H
         obtain ⟨rfl, rfl, rfl⟩ := H
         try go_wp2
         have n0_ := qb.mk (qg BK148.out)
         have n1_ := qb.mk (qg BK149.out)
         have n2_ := qb.mk (qg BK150.out)
         have n3_ := qb.mk (qh HB.out)
         clear BK148
         clear BK149
         clear BK150
         clear HB
         have BK148 := n0_
         have BK149 := n1_
         have BK150 := n2_
         have HB := n3_
         clear n0_ n1_ n2_ n3_
         refine jd (n := 14) (S := fun w' => w'.cell? ⟨gb148, 0, none⟩ = some (.int .i64 a0_0) ∧ w'.cell? ⟨gb148, 1, none⟩ = some (.int .i64 a0_1) ∧ w'.cell? ⟨gb148, 2, none⟩ = some (.slice A0_2 l0_2.length c0_2)) (ds := []) #[false, false, false, false, false, false, false, false, false, false, false, false, false, false] (by kernel_rfl) rfl rfl ⟨(qf BK148.out 0).trans rfl, (qf BK148.out 1).trans rfl, (qf BK148.out 2).trans rfl⟩ (fun hHeld => ?_); refine zx spec_avClose.tab2 spec_avClose.bits2 (fun HT_ HW_ => ?_)
         generalize wr.drew = w45 at BK148 BK149 BK150 HB hHeld ⊢
         refine pure_ (i := 0) (N := some 7) (v := ?_) (a' := ?_) #[true, false, false, false, false, false, false, false, false, false, false, false, false, false] rfl rfl (qt HT_.out (by kernel_rfl)) (fun _ _ _ h => h) (Or.inl ⟨by rfl, ?_⟩) ?_ ?_
         rotate_left
         ·intro w'
          go_simp
          with_reducible rfl
         rotate_left
         ·simp only [Act.put, sA_, sB_, sC_, i64_w, i32_w]
          rfl
         refine pure_ (i := 1) (N := some 8) (v := ?_) (a' := ?_) #[true, true, false, false, false, false, false, false, false, false, false, false, false, false] rfl rfl (qt HT_.out (by kernel_rfl)) (fun _ _ _ h => h) (Or.inl ⟨by rfl, ?_⟩) ?_ ?_
         rotate_left
         ·intro w'
          go_simp
          with_reducible rfl
         rotate_left
         ·simp only [Act.put, sA_, sB_, sC_, i64_w, i32_w]
          rfl
         refine take_ (i := 2) (N := some 9) (v := ?_) (a' := ?_) #[true, true, true, false, false, false, false, false, false, false, false, false, false, false] rfl rfl (ze HT_.out HW_.out (by kernel_rfl)) (fun _ _ _ h => h) (Or.inl ⟨by rfl, ?_⟩) hHeld ?_ ?_
         rotate_left
         ·rintro w' ⟨s0, s1, s2⟩
          go_simp
          with_reducible rfl
         rotate_left
         ·simp only [Act.put, sA_, sB_, sC_, i64_w, i32_w]
          rfl
         refine pure_ (i := 3) (N := some 10) (v := ?_) (a' := ?_) #[true, true, true, true, false, false, false, false, false, false, false, false, false, false] rfl rfl (qt HT_.out (by kernel_rfl)) (fun _ _ _ h => h) (Or.inl ⟨by rfl, ?_⟩) ?_ ?_
         rotate_left
         ·intro w'
          go_simp
          with_reducible rfl
         rotate_left
         ·simp only [Act.put, sA_, sB_, sC_, i64_w, i32_w]
          rfl
         refine pure_ (i := 4) (N := some 11) (v := ?_) (a' := ?_) #[true, true, true, true, true, false, false, false, false, false, false, false, false, false] rfl rfl (qt HT_.out (by kernel_rfl)) (fun _ _ _ h => h) (Or.inl ⟨by rfl, ?_⟩) ?_ ?_
         rotate_left
         ·intro w'
          go_simp
          with_reducible rfl
         rotate_left
         ·simp only [Act.put, sA_, sB_, sC_, i64_w, i32_w]
          rfl
         refine pure_ (i := 5) (N := some 12) (v := ?_) (a' := ?_) #[true, true, true, true, true, true, false, false, false, false, false, false, false, false] rfl rfl (qt HT_.out (by kernel_rfl)) (fun _ _ _ h => h) (Or.inl ⟨by rfl, ?_⟩) ?_ ?_
         rotate_left
         ·intro w'
          go_simp
          with_reducible rfl
         rotate_left
         ·simp only [Act.put, sA_, sB_, sC_, i64_w, i32_w]
          rfl
         refine pure_ (i := 6) (N := some 13) (v := undef) (a' := ?_) #[true, true, true, true, true, true, true, false, false, false, false, false, false, false] rfl rfl (qt HT_.out (by kernel_rfl)) (fun _ _ _ h => h) (Or.inr ⟨by rfl, rfl⟩) ?_ ?_
         rotate_left
         ·simp only [Act.put, sA_, sB_, sC_, i64_w, i32_w]
          rfl
         refine pure_ (i := 7) (N := some 14) (v := undef) (a' := ?_) #[true, true, true, true, true, true, true, true, false, false, false, false, false, false] rfl rfl (qt HT_.out (by kernel_rfl)) (fun _ _ _ h => h) (Or.inr ⟨by rfl, rfl⟩) ?_ ?_
         rotate_left
         ·simp only [Act.put, sA_, sB_, sC_, i64_w, i32_w]
          rfl
         refine pure_ (i := 8) (N := some 15) (v := undef) (a' := ?_) #[true, true, true, true, true, true, true, true, true, false, false, false, false, false] rfl rfl (qt HT_.out (by kernel_rfl)) (fun _ _ _ h => h) (Or.inr ⟨by rfl, rfl⟩) ?_ ?_
         rotate_left
         ·simp only [Act.put, sA_, sB_, sC_, i64_w, i32_w]
          rfl
         refine pure_ (i := 9) (N := some 16) (v := undef) (a' := ?_) #[true, true, true, true, true, true, true, true, true, true, false, false, false, false] rfl rfl (qt HT_.out (by kernel_rfl)) (fun _ _ _ h => h) (Or.inr ⟨by rfl, rfl⟩) ?_ ?_
         rotate_left
         ·simp only [Act.put, sA_, sB_, sC_, i64_w, i32_w]
          rfl
         refine pure_ (i := 10) (N := some 17) (v := undef) (a' := ?_) #[true, true, true, true, true, true, true, true, true, true, true, false, false, false] rfl rfl (qt HT_.out (by kernel_rfl)) (fun _ _ _ h => h) (Or.inr ⟨by rfl, rfl⟩) ?_ ?_
         rotate_left
         ·simp only [Act.put, sA_, sB_, sC_, i64_w, i32_w]
          rfl
         refine pure_ (i := 11) (N := some 18) (v := undef) (a' := ?_) #[true, true, true, true, true, true, true, true, true, true, true, true, false, false] rfl rfl (qt HT_.out (by kernel_rfl)) (fun _ _ _ h => h) (Or.inr ⟨by rfl, rfl⟩) ?_ ?_
         rotate_left
         ·simp only [Act.put, sA_, sB_, sC_, i64_w, i32_w]
          rfl
         refine pure_ (i := 12) (N := some 19) (v := undef) (a' := ?_) #[true, true, true, true, true, true, true, true, true, true, true, true, true, false] rfl rfl (qt HT_.out (by kernel_rfl)) (fun _ _ _ h => h) (Or.inr ⟨by rfl, rfl⟩) ?_ ?_
         rotate_left
         ·simp only [Act.put, sA_, sB_, sC_, i64_w, i32_w]
          rfl
         refine pure_ (i := 13) (N := some 20) (v := ?_) (a' := ?_) #[true, true, true, true, true, true, true, true, true, true, true, true, true, true] rfl rfl (qt HT_.out (by kernel_rfl)) (fun _ _ _ h => h) (Or.inl ⟨by rfl, ?_⟩) ?_ ?_
         rotate_left
         ·intro w'
          go_simp
          with_reducible rfl
         rotate_left
         ·simp only [Act.put, sA_, sB_, sC_, i64_w, i32_w]
          rfl
         refine done_ (jc HT_.out (by kernel_rfl)) ?_
         try go_wp2
         have n0_ := qb.mk (qg BK148.out)
         have n1_ := qb.mk (qg BK149.out)
         have n2_ := qb.mk (qg BK150.out)
         have n3_ := qb.mk (qh HB.out)
         clear BK148
         clear BK149
         clear BK150
         clear HB
         have BK148 := n0_
         have BK149 := n1_
         have BK150 := n2_
         have HB := n3_
         clear n0_ n1_ n2_ n3_
         have q47 : (x5_1 : Int) ≤ ((l0_2.length : Int) : Int) := of_decide_eq_true (by first | (with_reducible assumption) | assumption)
         obtain ⟨i047, hi047, _, hsz47, _⟩ := info_parts info58
         have hroom47 : l0_2.length ≤ c0_2 := HC0_2.out
         have hC47 : Kd.C k58 _ A0_2 l0_2.length l0_2 := HR0_2.out
         have hcut47 := cut_to (P := Try.prog) 29 58 .i64 Try.underlying29 hi047 A0_2 l0_2.length c0_2 x5_1 (of_decide_eq_true (by first | (with_reducible assumption) | assumption)) q47 hroom47
         have hr47 := Kd.C_take (m := (x5_1 : Int).toNat) hC47 (by omega)
         have hy47 : y179.length = (x5_1 : Int).toNat := (by rw [Ny179.out, List.length_take]; omega)
         rw [← Ny179.out] at hr47
         rw [← hy47] at hcut47
         have HR182 := qb.mk hr47
         have HC182 := qb.mk (show y179.length ≤ c0_2 from by omega)
         clear hr47 hC47 hroom47 hi047 hsz47
         have KY47 := qb.mk hy47
         clear hy47
         replace q47 := eq_true q47
         refine jd (n := 10) (S := fun w' => w'.cell? ⟨gb148, 0, none⟩ = some (.int .i64 a0_0) ∧ w'.cell? ⟨gb148, 1, none⟩ = some (.int .i64 a0_1) ∧ w'.cell? ⟨gb148, 2, none⟩ = some (.slice A0_2 l0_2.length c0_2) ∧ w'.cell? ⟨gb149, 0, none⟩ = some (.int .i64 a1_0) ∧ w'.cell? ⟨gb149, 1, none⟩ = some (.int .i64 a1_1) ∧ w'.cell? ⟨gb149, 2, none⟩ = some (.bool a1_2)) (ds := []) #[false, false, false, false, false, false, false, false, false, false] (by kernel_rfl) rfl rfl ⟨(qf BK148.out 0).trans rfl, (qf BK148.out 1).trans rfl, (qf BK148.out 2).trans rfl, (qf BK149.out 0).trans rfl, (qf BK149.out 1).trans rfl, (qf BK149.out 2).trans rfl⟩ (fun hHeld => ?_); refine zx spec_avClose.tab4 spec_avClose.bits4 (fun HT_ HW_ => ?_)
         generalize w45.drew = w46 at BK148 BK149 BK150 HB HR182 hHeld ⊢
         refine pure_ (i := 1) (N := some 24) (v := ?_) (a' := ?_) #[false, true, false, false, false, false, false, false, false, false] rfl rfl (qt HT_.out (by kernel_rfl)) (fun _ _ _ h => h) (Or.inl ⟨by rfl, ?_⟩) ?_ ?_
         rotate_left
         ·intro w'
          go_simp
          with_reducible rfl
         rotate_left
         ·simp only [Act.put, sA_, sB_, sC_, i64_w, i32_w]
          rfl
         refine pure_ (i := 3) (N := some 26) (v := ?_) (a' := ?_) #[false, true, false, true, false, false, false, false, false, false] rfl rfl (qt HT_.out (by kernel_rfl)) (fun _ _ _ h => h) (Or.inl ⟨by rfl, ?_⟩) ?_ ?_
         rotate_left
         ·intro w'
          go_simp
          with_reducible rfl
         rotate_left
         ·simp only [Act.put, sA_, sB_, sC_, i64_w, i32_w]
          rfl
         refine take_ (i := 2) (N := some 25) (v := ?_) (a' := ?_) #[false, true, true, true, false, false, false, false, false, false] rfl rfl (ze HT_.out HW_.out (by kernel_rfl)) (fun _ _ _ h => h) (Or.inl ⟨by rfl, ?_⟩) hHeld ?_ ?_
         rotate_left
         ·rintro w' ⟨s0, s1, s2, s3, s4, s5⟩
          go_simp
          with_reducible rfl
         rotate_left
         ·simp only [Act.put, sA_, sB_, sC_, i64_w, i32_w]
          rfl
         refine pure_ (i := 4) (N := some 27) (v := ?_) (a' := ?_) #[false, true, true, true, true, false, false, false, false, false] rfl rfl (qt HT_.out (by kernel_rfl)) (fun _ _ _ h => h) (Or.inl ⟨by rfl, ?_⟩) ?_ ?_
         rotate_left
         ·intro w'
          go_simp
          with_reducible rfl
         rotate_left
         ·simp only [Act.put, sA_, sB_, sC_, i64_w, i32_w]
          rfl
         refine take_ (i := 6) (N := some 29) (v := ?_) (a' := ?_) #[false, true, true, true, true, false, true, false, false, false] rfl rfl (ze HT_.out HW_.out (by kernel_rfl)) (fun _ _ _ h => h) (Or.inl ⟨by rfl, ?_⟩) hHeld ?_ ?_
         rotate_left
         ·rintro w' ⟨s0, s1, s2, s3, s4, s5⟩
          go_simp
          with_reducible rfl
         rotate_left
         ·simp only [Act.put, sA_, sB_, sC_, i64_w, i32_w]
          rfl
         refine join_ (σ := Value × Value × Value) 2 #[true, true, true, true, true, true, true, true, false, false] (fun s_ => [(23, s_.1), (28, s_.2.1), (30, s_.2.2)]) (fun s_ w' => (w'.cell? ⟨gb148, 0, none⟩ = some (.int .i64 a0_0) ∧ w'.cell? ⟨gb148, 1, none⟩ = some (.int .i64 a0_1) ∧ w'.cell? ⟨gb148, 2, none⟩ = some (.slice A0_2 l0_2.length c0_2) ∧ w'.cell? ⟨gb149, 0, none⟩ = some (.int .i64 a1_0) ∧ w'.cell? ⟨gb149, 1, none⟩ = some (.int .i64 a1_1) ∧ w'.cell? ⟨gb149, 2, none⟩ = some (.bool a1_2)) ∧ (Kd.R k58 58 w' w.heap.size (fun k_ => some k_ ≠ (s_.2.2 : Value).ownBlock ∧ k_ ≠ gb149) s_.2.1 y183) ∧ (Kd.R k58 58 w' w.heap.size (fun k_ => some k_ ≠ (s_.2.1 : Value).ownBlock ∧ k_ ≠ gb149) s_.2.2 y186) ∧ (w'.heap[gb148]? = some (.cells #[.int .i64 a0_0, .int .i64 a0_1, .slice A0_2 l0_2.length c0_2] 31 (0, 0))) ∧ (w'.heap[gb149]? = some (.cells #[.int .i64 a1_0, .int .i64 a1_1, .bool a1_2] 58 (0, 0))) ∧ (w'.heap[gb150]? = some (.cells #[.int .i64 0, .int .i64 0, .slice none 0 0] 31 (0, 0))) ∧ (Below w.heap.size w w')) ?_ ?_
         rotate_left
         ·intro hCont
          refine two_ (i := 0) (j := 7) (Ni := some 23) (Nj := some 30) #[true, true, true, true, true, false, true, false, false, false] #[false, true, true, true, true, false, true, true, false, false] rfl rfl rfl rfl (two_of HT_.out (by kernel_rfl)) (by decide) (by decide) (fun K hK => ?_) (fun K hK => ?_)
          ·skip
           refine Kd.R_lit_step k58 _ 58 ?hg (N := 23) ?hd (xs := ([] : List (S58))) (inner := []) (ok := fun _ => True) (okp := fun _ => True) ?hr ?hp (fun _ hk => hk) trivial (Below.refl _ _) (Nat.le_refl _) (by simp) ?_; (case hd => rfl); (case hg => rfl); (case hr => first | (go_simp; done) | (go_simp; rfl)); (case hp => exact (Reps.none _ _))
           intro v177 w48 ho49 hb hg_ hnew_
           clear hg_ hnew_
           (first | rw [← Ny176.out] at ho49 | (simp only [Int.reduceToNat] at ho49; rw [← Ny176.out] at ho49))
           have n0_ := qb.mk (Kd.zq (Kd.R_newB ho49 (g := gb149) (o := .cells #[.int .i64 a1_0, .int .i64 a1_1, .bool a1_2] 58 (0, 0)) (bk_ BK149)) (qm (be3_ HB GE148 GE149 GE150)))
           have n1_ := qb.mk (qk (g := gb148) (o := .cells #[.int .i64 a0_0, .int .i64 a0_1, .slice A0_2 l0_2.length c0_2] 31 (0, 0)) (bk_ BK148) hb)
           have n2_ := qb.mk (qk (g := gb149) (o := .cells #[.int .i64 a1_0, .int .i64 a1_1, .bool a1_2] 58 (0, 0)) (bk_ BK149) hb)
           have n3_ := qb.mk (qk (g := gb150) (o := .cells #[.int .i64 0, .int .i64 0, .slice none 0 0] 31 (0, 0)) (bk_ BK150) hb)
           have n4_ := qb.mk (qp (be3_ HB GE148 GE149 GE150) hb)
           clear BK148
           clear BK149
           clear BK150
           clear HB
           have HO178 := n0_
           have BK148 := n1_
           have BK149 := n2_
           have BK150 := n3_
           have HB := n4_
           clear n0_ n1_ n2_ n3_ n4_
           clear hb ho49
           refine hK.out _ _ ⟨(qf BK148.out 0).trans rfl, (qf BK148.out 1).trans rfl, (qf BK148.out 2).trans rfl, (qf BK149.out 0).trans rfl, (qf BK149.out 1).trans rfl, (qf BK149.out 2).trans rfl⟩ (fun hHeld => ?_)
           clear hK K
           refine norm_ (a' := ?_) ?_ ?_
           rotate_left
           ·show Act.put _ (some 23) _ = _
            simp only [Act.put, sA_, sB_, sC_, i64_w, i32_w]
            rfl
           refine two_ (i := 5) (j := 7) (Ni := some 28) (Nj := some 30) #[true, true, true, true, true, true, true, false, false, false] #[true, true, true, true, true, false, true, true, false, false] rfl rfl rfl rfl (two_of HT_.out (by kernel_rfl)) (by decide) (by decide) (fun K hK => ?_) (fun K hK => ?_)
           ·skip
            refine Kd.R_append_rows_step k58 (w0 := w) w.heap.size (by rfl) (.tmp 23) (.tmp 27) 29 58 (.agg #[(.int .i64 0), (.int .i64 0), (.bool false)]) 24 rfl Try.underlying29 info58 rfl (by decide) (by omega) v177 y176 y179 _ _ _ (fun k_ => k_ ≠ gb149) (fun _ => False) rfl rfl ?aO ?aR (fun _ _ h => h) (fun _ h => h.elim) ?aF ?aB ?aS ?aL ?_
            (case aR => repeat (first | exact (Kd.zi HR182.out HB.out) | (with_reducible refine Kd.zg ?_ _) | (with_reducible refine Kd.zh ?_ _) | (with_reducible refine Kd.zk ?_)))
            (case aB => exact (be3_ HB GE148 GE149 GE150))
            (case aF => exact (fun k_ hk => Kd.freshB (g := gb149) (o := .cells #[.int .i64 a1_0, .int .i64 a1_1, .bool a1_2] 58 (0, 0)) (bk_ BK149) k_ hk))
            (case aO => exact (by (with_reducible repeat (first | apply Kd.qo | apply Kd.qn | apply Kd.qq)); exact Kd.zb HO178.out (fun _ hk => hk.2)))
            (case aS => exact (qm (be3_ HB GE148 GE149 GE150)))
            (case aL => have := LMc40.out; omega)
            intro v184 w50 ho hb hg hat
            rw [← Ny183.out] at ho
            have n0_ := qb.mk (zo (g := gb148) (o := .cells #[.int .i64 a0_0, .int .i64 a0_1, .slice A0_2 l0_2.length c0_2] 31 (0, 0)) (bk_ BK148) hg (Kd.R_ne HO178.out BK148.out (by decide)))
            have n1_ := qb.mk (zo (g := gb149) (o := .cells #[.int .i64 a1_0, .int .i64 a1_1, .bool a1_2] 58 (0, 0)) (bk_ BK149) hg (Kd.R_away HO178.out (fun _ hk => hk.2)))
            have n2_ := qb.mk (zo (g := gb150) (o := .cells #[.int .i64 0, .int .i64 0, .slice none 0 0] 31 (0, 0)) (bk_ BK150) hg (Kd.R_ne HO178.out BK150.out (by decide)))
            have n3_ := qb.mk (hb)
            have n4_ := qb.mk (ho)
            clear BK148
            clear BK149
            clear BK150
            clear HB
            clear HO178
            have BK148 := n0_
            have BK149 := n1_
            have BK150 := n2_
            have HB := n3_
            have HO185 := n4_
            clear n0_ n1_ n2_ n3_ n4_
            clear ho hb hg hat
            refine hK.out _ _ ⟨(qf BK148.out 0).trans rfl, (qf BK148.out 1).trans rfl, (qf BK148.out 2).trans rfl, (qf BK149.out 0).trans rfl, (qf BK149.out 1).trans rfl, (qf BK149.out 2).trans rfl⟩ (fun hHeld => ?_)
            clear hK K
            refine norm_ (a' := ?_) ?_ ?_
            rotate_left
            ·show Act.put _ (some 28) _ = _
             simp only [Act.put, sA_, sB_, sC_, i64_w, i32_w]
             rfl
            refine one_ (i := 7) (N := some 30) #[true, true, true, true, true, true, true, true, false, false] rfl rfl (zl HT_.out (by kernel_rfl)) (by decide) (fun K hK => ?_)
            refine Kd.R_lit_step k58 _ 58 ?hg (N := 30) ?hd (xs := ([(⟨a1_0, a1_1, a1_2⟩ : S58)] : List (S58))) (inner := [.int .i64 a1_0, .int .i64 a1_1, .bool a1_2]) (ok := fun _ => True) (okp := fun _ => True) ?hr ?hp (fun _ hk => hk) trivial (Below.refl _ _) (Nat.le_refl _) (by simp) ?_; (case hd => rfl); (case hg => rfl); (case hr => first | (go_simp; done) | (go_simp; rfl)); (case hp => exact (Reps.c3 (show Kd.M k58 _ _ _ (⟨a1_0, a1_1, a1_2⟩ : S58) [.int .i64 a1_0, .int .i64 a1_1, .bool a1_2] from (k58_mkM _ _ _ (⟨a1_0, a1_1, a1_2⟩ : S58) )) (Reps.none _ _)))
            intro v187 w51 ho52 hb hg_ hnew_
            clear hg_ hnew_
            (first | rw [← Ny186.out] at ho52 | (simp only [Int.reduceToNat] at ho52; rw [← Ny186.out] at ho52))
            have n0_ := qb.mk (Kd.zj (kr_ HO185) (Kd.zr ho52) hb)
            have n1_ := qb.mk (Kd.zq (Kd.R_newB (Kd.zv ho52 (Kd.R_lt (kr_ HO185))) (g := gb149) (o := .cells #[.int .i64 a1_0, .int .i64 a1_1, .bool a1_2] 58 (0, 0)) (bk_ BK149)) (qm (be3_ HB GE148 GE149 GE150)))
            have n2_ := qb.mk (qk (g := gb148) (o := .cells #[.int .i64 a0_0, .int .i64 a0_1, .slice A0_2 l0_2.length c0_2] 31 (0, 0)) (bk_ BK148) hb)
            have n3_ := qb.mk (qk (g := gb149) (o := .cells #[.int .i64 a1_0, .int .i64 a1_1, .bool a1_2] 58 (0, 0)) (bk_ BK149) hb)
            have n4_ := qb.mk (qk (g := gb150) (o := .cells #[.int .i64 0, .int .i64 0, .slice none 0 0] 31 (0, 0)) (bk_ BK150) hb)
            have n5_ := qb.mk (qp (be3_ HB GE148 GE149 GE150) hb)
            clear HO185
            clear BK148
            clear BK149
            clear BK150
            clear HB
            have HO185 := n0_
            have HO188 := n1_
            have BK148 := n2_
            have BK149 := n3_
            have BK150 := n4_
            have HB := n5_
            clear n0_ n1_ n2_ n3_ n4_ n5_
            clear hb ho52
            refine hK.out _ _ ⟨(qf BK148.out 0).trans rfl, (qf BK148.out 1).trans rfl, (qf BK148.out 2).trans rfl, (qf BK149.out 0).trans rfl, (qf BK149.out 1).trans rfl, (qf BK149.out 2).trans rfl⟩ (fun hHeld => ?_)
            clear hK K
            refine norm_ (a' := ?_) ?_ ?_
            rotate_left
            ·show Act.put _ (some 30) _ = _
             simp only [Act.put, sA_, sB_, sC_, i64_w, i32_w]
             rfl
            exact norm_ (by simp only [zm, Act.put, sA_, sB_, sC_]) (hCont (v177, v184, v187) _ ⟨hHeld, (by (with_reducible repeat (first | apply Kd.qo | apply Kd.qn | apply Kd.qq)); exact Kd.zb HO185.out (fun _ hk => ⟨hk.2, hk.1⟩)), (by (with_reducible repeat (first | apply Kd.qo | apply Kd.qn | apply Kd.qq)); exact Kd.zb HO188.out (fun _ hk => ⟨hk.1.2, hk.2⟩)), (bk_ BK148), (bk_ BK149), (bk_ BK150), (be3_ HB GE148 GE149 GE150)⟩)
           ·skip
            refine Kd.R_lit_step k58 _ 58 ?hg (N := 30) ?hd (xs := ([(⟨a1_0, a1_1, a1_2⟩ : S58)] : List (S58))) (inner := [.int .i64 a1_0, .int .i64 a1_1, .bool a1_2]) (ok := fun _ => True) (okp := fun _ => True) ?hr ?hp (fun _ hk => hk) trivial (Below.refl _ _) (Nat.le_refl _) (by simp) ?_; (case hd => rfl); (case hg => rfl); (case hr => first | (go_simp; done) | (go_simp; rfl)); (case hp => exact (Reps.c3 (show Kd.M k58 _ _ _ (⟨a1_0, a1_1, a1_2⟩ : S58) [.int .i64 a1_0, .int .i64 a1_1, .bool a1_2] from (k58_mkM _ _ _ (⟨a1_0, a1_1, a1_2⟩ : S58) )) (Reps.none _ _)))
            intro v187 w50 ho51 hb hg_ hnew_
            clear hg_ hnew_
            (first | rw [← Ny186.out] at ho51 | (simp only [Int.reduceToNat] at ho51; rw [← Ny186.out] at ho51))
            have n0_ := qb.mk (Kd.zj (kr_ HO178) (Kd.zr ho51) hb)
            have n1_ := qb.mk (Kd.zq (Kd.R_newB (Kd.zv ho51 (Kd.R_lt (kr_ HO178))) (g := gb149) (o := .cells #[.int .i64 a1_0, .int .i64 a1_1, .bool a1_2] 58 (0, 0)) (bk_ BK149)) (qm (be3_ HB GE148 GE149 GE150)))
            have n2_ := qb.mk (qk (g := gb148) (o := .cells #[.int .i64 a0_0, .int .i64 a0_1, .slice A0_2 l0_2.length c0_2] 31 (0, 0)) (bk_ BK148) hb)
            have n3_ := qb.mk (qk (g := gb149) (o := .cells #[.int .i64 a1_0, .int .i64 a1_1, .bool a1_2] 58 (0, 0)) (bk_ BK149) hb)
            have n4_ := qb.mk (qk (g := gb150) (o := .cells #[.int .i64 0, .int .i64 0, .slice none 0 0] 31 (0, 0)) (bk_ BK150) hb)
            have n5_ := qb.mk (qp (be3_ HB GE148 GE149 GE150) hb)
            clear HO178
            clear BK148
            clear BK149
            clear BK150
            clear HB
            have HO178 := n0_
            have HO188 := n1_
            have BK148 := n2_
            have BK149 := n3_
            have BK150 := n4_
            have HB := n5_
            clear n0_ n1_ n2_ n3_ n4_ n5_
            clear hb ho51
            refine hK.out _ _ ⟨(qf BK148.out 0).trans rfl, (qf BK148.out 1).trans rfl, (qf BK148.out 2).trans rfl, (qf BK149.out 0).trans rfl, (qf BK149.out 1).trans rfl, (qf BK149.out 2).trans rfl⟩ (fun hHeld => ?_)
            clear hK K
            refine norm_ (a' := ?_) ?_ ?_
            rotate_left
            ·show Act.put _ (some 30) _ = _
             simp only [Act.put, sA_, sB_, sC_, i64_w, i32_w]
             rfl
            refine one_ (i := 5) (N := some 28) #[true, true, true, true, true, true, true, true, false, false] rfl rfl (zl HT_.out (by kernel_rfl)) (by decide) (fun K hK => ?_)
            refine Kd.R_append_rows_step k58 (w0 := w) w.heap.size (by rfl) (.tmp 23) (.tmp 27) 29 58 (.agg #[(.int .i64 0), (.int .i64 0), (.bool false)]) 24 rfl Try.underlying29 info58 rfl (by decide) (by omega) v177 y176 y179 _ _ _ (fun k_ => some k_ ≠ (v187 : Value).ownBlock ∧ k_ ≠ gb149) (fun _ => False) rfl rfl ?aO ?aR (fun _ _ h => h) (fun _ h => h.elim) ?aF ?aB ?aS ?aL ?_
            (case aR => repeat (first | exact (Kd.zi HR182.out HB.out) | (with_reducible refine Kd.zg ?_ _) | (with_reducible refine Kd.zh ?_ _) | (with_reducible refine Kd.zk ?_)))
            (case aB => exact (be3_ HB GE148 GE149 GE150))
            (case aF => exact (fun k_ hk => ⟨Kd.fresh' (Kd.R_lt (kr_ HO188)) k_ hk, Kd.freshB (g := gb149) (o := .cells #[.int .i64 a1_0, .int .i64 a1_1, .bool a1_2] 58 (0, 0)) (bk_ BK149) k_ hk⟩))
            (case aO => exact (by (with_reducible repeat (first | apply Kd.qo | apply Kd.qn | apply Kd.qq)); exact Kd.zb HO178.out (fun _ hk => ⟨hk.2, hk.1.2⟩)))
            (case aS => exact (qm (be3_ HB GE148 GE149 GE150)))
            (case aL => have := LMc40.out; omega)
            intro v184 w52 ho hb hg hat
            rw [← Ny183.out] at ho
            have n0_ := qb.mk (zo (g := gb148) (o := .cells #[.int .i64 a0_0, .int .i64 a0_1, .slice A0_2 l0_2.length c0_2] 31 (0, 0)) (bk_ BK148) hg (Kd.R_ne HO178.out BK148.out (by decide)))
            have n1_ := qb.mk (zo (g := gb149) (o := .cells #[.int .i64 a1_0, .int .i64 a1_1, .bool a1_2] 58 (0, 0)) (bk_ BK149) hg (Kd.R_away HO178.out (fun _ hk => hk.1.2)))
            have n2_ := qb.mk (zo (g := gb150) (o := .cells #[.int .i64 0, .int .i64 0, .slice none 0 0] 31 (0, 0)) (bk_ BK150) hg (Kd.R_ne HO178.out BK150.out (by decide)))
            have n3_ := qb.mk (Kd.R_after (ok := (fun k_ => k_ ≠ gb149)) (by (with_reducible repeat (first | apply Kd.qo | apply Kd.qn | apply Kd.qq)); exact Kd.zb HO188.out (fun _ hk => ⟨hk.2, hk.1.2⟩)) hg hat)
            have n4_ := qb.mk (hb)
            have n5_ := qb.mk (ho)
            clear BK148
            clear BK149
            clear BK150
            clear HO188
            clear HB
            clear HO178
            have BK148 := n0_
            have BK149 := n1_
            have BK150 := n2_
            have HO188 := n3_
            have HB := n4_
            have HO185 := n5_
            clear n0_ n1_ n2_ n3_ n4_ n5_
            clear ho hb hg hat
            refine hK.out _ _ ⟨(qf BK148.out 0).trans rfl, (qf BK148.out 1).trans rfl, (qf BK148.out 2).trans rfl, (qf BK149.out 0).trans rfl, (qf BK149.out 1).trans rfl, (qf BK149.out 2).trans rfl⟩ (fun hHeld => ?_)
            clear hK K
            refine norm_ (a' := ?_) ?_ ?_
            rotate_left
            ·show Act.put _ (some 28) _ = _
             simp only [Act.put, sA_, sB_, sC_, i64_w, i32_w]
             rfl
            exact norm_ (by simp only [zm, Act.put, sA_, sB_, sC_]) (hCont (v177, v184, v187) _ ⟨hHeld, (kr_ HO185), (by (with_reducible repeat (first | apply Kd.qo | apply Kd.qn | apply Kd.qq)); exact Kd.zb HO188.out (fun _ hk => ⟨hk.2, hk.1⟩)), (bk_ BK148), (bk_ BK149), (bk_ BK150), (be3_ HB GE148 GE149 GE150)⟩)
          ·skip
           refine Kd.R_lit_step k58 _ 58 ?hg (N := 30) ?hd (xs := ([(⟨a1_0, a1_1, a1_2⟩ : S58)] : List (S58))) (inner := [.int .i64 a1_0, .int .i64 a1_1, .bool a1_2]) (ok := fun _ => True) (okp := fun _ => True) ?hr ?hp (fun _ hk => hk) trivial (Below.refl _ _) (Nat.le_refl _) (by simp) ?_; (case hd => rfl); (case hg => rfl); (case hr => first | (go_simp; done) | (go_simp; rfl)); (case hp => exact (Reps.c3 (show Kd.M k58 _ _ _ (⟨a1_0, a1_1, a1_2⟩ : S58) [.int .i64 a1_0, .int .i64 a1_1, .bool a1_2] from (k58_mkM _ _ _ (⟨a1_0, a1_1, a1_2⟩ : S58) )) (Reps.none _ _)))
           intro v187 w48 ho49 hb hg_ hnew_
           clear hg_ hnew_
           (first | rw [← Ny186.out] at ho49 | (simp only [Int.reduceToNat] at ho49; rw [← Ny186.out] at ho49))
           have n0_ := qb.mk (Kd.zq (Kd.R_newB ho49 (g := gb149) (o := .cells #[.int .i64 a1_0, .int .i64 a1_1, .bool a1_2] 58 (0, 0)) (bk_ BK149)) (qm (be3_ HB GE148 GE149 GE150)))
           have n1_ := qb.mk (qk (g := gb148) (o := .cells #[.int .i64 a0_0, .int .i64 a0_1, .slice A0_2 l0_2.length c0_2] 31 (0, 0)) (bk_ BK148) hb)
           have n2_ := qb.mk (qk (g := gb149) (o := .cells #[.int .i64 a1_0, .int .i64 a1_1, .bool a1_2] 58 (0, 0)) (bk_ BK149) hb)
           have n3_ := qb.mk (qk (g := gb150) (o := .cells #[.int .i64 0, .int .i64 0, .slice none 0 0] 31 (0, 0)) (bk_ BK150) hb)
           have n4_ := qb.mk (qp (be3_ HB GE148 GE149 GE150) hb)
           clear BK148
           clear BK149
           clear BK150
           clear HB
           have HO188 := n0_
           have BK148 := n1_
           have BK149 := n2_
           have BK150 := n3_
           have HB := n4_
           clear n0_ n1_ n2_ n3_ n4_
           clear hb ho49
           refine hK.out _ _ ⟨(qf BK148.out 0).trans rfl, (qf BK148.out 1).trans rfl, (qf BK148.out 2).trans rfl, (qf BK149.out 0).trans rfl, (qf BK149.out 1).trans rfl, (qf BK149.out 2).trans rfl⟩ (fun hHeld => ?_)
           clear hK K
           refine norm_ (a' := ?_) ?_ ?_
           rotate_left
           ·show Act.put _ (some 30) _ = _
            simp only [Act.put, sA_, sB_, sC_, i64_w, i32_w]
            rfl
           refine one_ (i := 0) (N := some 23) #[true, true, true, true, true, false, true, true, false, false] rfl rfl (zl HT_.out (by kernel_rfl)) (by decide) (fun K hK => ?_)
           refine Kd.R_lit_step k58 _ 58 ?hg (N := 23) ?hd (xs := ([] : List (S58))) (inner := []) (ok := fun _ => True) (okp := fun _ => True) ?hr ?hp (fun _ hk => hk) trivial (Below.refl _ _) (Nat.le_refl _) (by simp) ?_; (case hd => rfl); (case hg => rfl); (case hr => first | (go_simp; done) | (go_simp; rfl)); (case hp => exact (Reps.none _ _))
           intro v177 w50 ho51 hb hg_ hnew_
           clear hg_ hnew_
           (first | rw [← Ny176.out] at ho51 | (simp only [Int.reduceToNat] at ho51; rw [← Ny176.out] at ho51))
           have n0_ := qb.mk (Kd.zj (kr_ HO188) (Kd.zr ho51) hb)
           have n1_ := qb.mk (Kd.zq (Kd.R_newB (Kd.zv ho51 (Kd.R_lt (kr_ HO188))) (g := gb149) (o := .cells #[.int .i64 a1_0, .int .i64 a1_1, .bool a1_2] 58 (0, 0)) (bk_ BK149)) (qm (be3_ HB GE148 GE149 GE150)))
           have n2_ := qb.mk (qk (g := gb148) (o := .cells #[.int .i64 a0_0, .int .i64 a0_1, .slice A0_2 l0_2.length c0_2] 31 (0, 0)) (bk_ BK148) hb)
           have n3_ := qb.mk (qk (g := gb149) (o := .cells #[.int .i64 a1_0, .int .i64 a1_1, .bool a1_2] 58 (0, 0)) (bk_ BK149) hb)
           have n4_ := qb.mk (qk (g := gb150) (o := .cells #[.int .i64 0, .int .i64 0, .slice none 0 0] 31 (0, 0)) (bk_ BK150) hb)
           have n5_ := qb.mk (qp (be3_ HB GE148 GE149 GE150) hb)
           clear HO188
           clear BK148
           clear BK149
           clear BK150
           clear HB
           have HO188 := n0_
           have HO178 := n1_
           have BK148 := n2_
           have BK149 := n3_
           have BK150 := n4_
           have HB := n5_
           clear n0_ n1_ n2_ n3_ n4_ n5_
           clear hb ho51
           refine hK.out _ _ ⟨(qf BK148.out 0).trans rfl, (qf BK148.out 1).trans rfl, (qf BK148.out 2).trans rfl, (qf BK149.out 0).trans rfl, (qf BK149.out 1).trans rfl, (qf BK149.out 2).trans rfl⟩ (fun hHeld => ?_)
           clear hK K
           refine norm_ (a' := ?_) ?_ ?_
           rotate_left
           ·show Act.put _ (some 23) _ = _
            simp only [Act.put, sA_, sB_, sC_, i64_w, i32_w]
            rfl
           refine one_ (i := 5) (N := some 28) #[true, true, true, true, true, true, true, true, false, false] rfl rfl (zl HT_.out (by kernel_rfl)) (by decide) (fun K hK => ?_)
           refine Kd.R_append_rows_step k58 (w0 := w) w.heap.size (by rfl) (.tmp 23) (.tmp 27) 29 58 (.agg #[(.int .i64 0), (.int .i64 0), (.bool false)]) 24 rfl Try.underlying29 info58 rfl (by decide) (by omega) v177 y176 y179 _ _ _ (fun k_ => some k_ ≠ (v187 : Value).ownBlock ∧ k_ ≠ gb149) (fun _ => False) rfl rfl ?aO ?aR (fun _ _ h => h) (fun _ h => h.elim) ?aF ?aB ?aS ?aL ?_
           (case aR => repeat (first | exact (Kd.zi HR182.out HB.out) | (with_reducible refine Kd.zg ?_ _) | (with_reducible refine Kd.zh ?_ _) | (with_reducible refine Kd.zk ?_)))
           (case aB => exact (be3_ HB GE148 GE149 GE150))
           (case aF => exact (fun k_ hk => ⟨Kd.fresh' (Kd.R_lt (kr_ HO188)) k_ hk, Kd.freshB (g := gb149) (o := .cells #[.int .i64 a1_0, .int .i64 a1_1, .bool a1_2] 58 (0, 0)) (bk_ BK149) k_ hk⟩))
           (case aO => exact (by (with_reducible repeat (first | apply Kd.qo | apply Kd.qn | apply Kd.qq)); exact Kd.zb HO178.out (fun _ hk => ⟨hk.1.2, hk.2⟩)))
           (case aS => exact (qm (be3_ HB GE148 GE149 GE150)))
           (case aL => have := LMc40.out; omega)
           intro v184 w52 ho hb hg hat
           rw [← Ny183.out] at ho
           have n0_ := qb.mk (zo (g := gb148) (o := .cells #[.int .i64 a0_0, .int .i64 a0_1, .slice A0_2 l0_2.length c0_2] 31 (0, 0)) (bk_ BK148) hg (Kd.R_ne HO178.out BK148.out (by decide)))
           have n1_ := qb.mk (zo (g := gb149) (o := .cells #[.int .i64 a1_0, .int .i64 a1_1, .bool a1_2] 58 (0, 0)) (bk_ BK149) hg (Kd.R_away HO178.out (fun _ hk => hk.2)))
           have n2_ := qb.mk (zo (g := gb150) (o := .cells #[.int .i64 0, .int .i64 0, .slice none 0 0] 31 (0, 0)) (bk_ BK150) hg (Kd.R_ne HO178.out BK150.out (by decide)))
           have n3_ := qb.mk (Kd.R_after (ok := (fun k_ => k_ ≠ gb149)) (by (with_reducible repeat (first | apply Kd.qo | apply Kd.qn | apply Kd.qq)); exact Kd.zb HO188.out (fun _ hk => ⟨hk.1.2, hk.2⟩)) hg hat)
           have n4_ := qb.mk (hb)
           have n5_ := qb.mk (ho)
           clear BK148
           clear BK149
           clear BK150
           clear HO188
           clear HB
           clear HO178
           have BK148 := n0_
           have BK149 := n1_
           have BK150 := n2_
           have HO188 := n3_
           have HB := n4_
           have HO185 := n5_
           clear n0_ n1_ n2_ n3_ n4_ n5_
           clear ho hb hg hat
           refine hK.out _ _ ⟨(qf BK148.out 0).trans rfl, (qf BK148.out 1).trans rfl, (qf BK148.out 2).trans rfl, (qf BK149.out 0).trans rfl, (qf BK149.out 1).trans rfl, (qf BK149.out 2).trans rfl⟩ (fun hHeld => ?_)
           clear hK K
           refine norm_ (a' := ?_) ?_ ?_
           rotate_left
           ·show Act.put _ (some 28) _ = _
            simp only [Act.put, sA_, sB_, sC_, i64_w, i32_w]
            rfl
           exact norm_ (by simp only [zm, Act.put, sA_, sB_, sC_]) (hCont (v177, v184, v187) _ ⟨hHeld, (kr_ HO185), (by (with_reducible repeat (first | apply Kd.qo | apply Kd.qn | apply Kd.qq)); exact Kd.zb HO188.out (fun _ hk => ⟨hk.2, hk.1⟩)), (bk_ BK148), (bk_ BK149), (bk_ BK150), (be3_ HB GE148 GE149 GE150)⟩)
         rintro ⟨v177, v184, v187⟩ w53 ⟨hS_, h0_, h1_, h2_, h3_, h4_, h5_⟩
         have n0_ : qb (Kd.R k58 58 w53 w.heap.size (fun k_ => some k_ ≠ (v187 : Value).ownBlock ∧ k_ ≠ gb149) v184 y183) := ⟨h0_⟩
         have n1_ : qb (Kd.R k58 58 w53 w.heap.size (fun k_ => some k_ ≠ (v184 : Value).ownBlock ∧ k_ ≠ gb149) v187 y186) := ⟨h1_⟩
         have n2_ : qb (w53.heap[gb148]? = some (.cells #[.int .i64 a0_0, .int .i64 a0_1, .slice A0_2 l0_2.length c0_2] 31 (0, 0))) := ⟨h2_⟩
         have n3_ : qb (w53.heap[gb149]? = some (.cells #[.int .i64 a1_0, .int .i64 a1_1, .bool a1_2] 58 (0, 0))) := ⟨h3_⟩
         have n4_ : qb (w53.heap[gb150]? = some (.cells #[.int .i64 0, .int .i64 0, .slice none 0 0] 31 (0, 0))) := ⟨h4_⟩
         have n5_ : qb (Below w.heap.size w w53) := ⟨h5_⟩
         clear BK148
         clear BK149
         clear BK150
         clear HB
         clear h0_ h1_ h2_ h3_ h4_ h5_
         have HO185 := n0_
         have HO188 := n1_
         have BK148 := n2_
         have BK149 := n3_
         have BK150 := n4_
         have HB := n5_
         clear n0_ n1_ n2_ n3_ n4_ n5_
         have hHeld : w53.cell? ⟨gb148, 0, none⟩ = some (.int .i64 a0_0) ∧ w53.cell? ⟨gb148, 1, none⟩ = some (.int .i64 a0_1) ∧ w53.cell? ⟨gb148, 2, none⟩ = some (.slice A0_2 l0_2.length c0_2) ∧ w53.cell? ⟨gb149, 0, none⟩ = some (.int .i64 a1_0) ∧ w53.cell? ⟨gb149, 1, none⟩ = some (.int .i64 a1_1) ∧ w53.cell? ⟨gb149, 2, none⟩ = some (.bool a1_2) := hS_
         obtain ⟨Ao55, co55, eo55⟩ := Kd.zy HO188.out
         (first | subst eo55 | (injection eo55 with f1_ f2_ f3_; have f4_ := f1_.symm; have f5_ := f3_.symm; clear f1_ f2_ f3_; subst f4_; subst f5_))
         refine norm_ (a' := ?_) ?_ ?_
         rotate_left
         ·simp only [zm, Act.put, sA_, sB_, sC_]
          rfl
         refine one_ (i := 8) (N := some 31) #[true, true, true, true, true, true, true, true, true, false] rfl rfl (zl HT_.out (by kernel_rfl)) (by decide) (fun K hK => ?_)
         refine Kd.R_append_rows_step k58 (w0 := w) w.heap.size (by rfl) (.tmp 28) (.tmp 30) 29 58 (.agg #[(.int .i64 0), (.int .i64 0), (.bool false)]) 24 rfl Try.underlying29 info58 rfl (by decide) (by omega) v184 y183 y186 _ _ _ (fun k_ => some k_ ≠ (.slice Ao55 y186.length co55 : Value).ownBlock ∧ k_ ≠ gb149) (fun _ => False) rfl rfl ?aO ?aR (fun _ _ h => h) (fun _ h => h.elim) ?aF ?aB ?aS ?aL ?_
         (case aR => repeat (first | exact (Kd.za HO188.out).2.2 | (with_reducible refine Kd.zg ?_ _) | (with_reducible refine Kd.zh ?_ _) | (with_reducible refine Kd.zk ?_)))
         (case aB => exact (be3_ HB GE148 GE149 GE150))
         (case aF => exact (fun k_ hk => ⟨Kd.fresh' (Kd.R_lt (kr_ HO188)) k_ hk, Kd.freshB (g := gb149) (o := .cells #[.int .i64 a1_0, .int .i64 a1_1, .bool a1_2] 58 (0, 0)) (bk_ BK149) k_ hk⟩))
         (case aO => exact (kr_ HO185))
         (case aS => exact (qm (be3_ HB GE148 GE149 GE150)))
         (case aL => have := LMc41.out; omega)
         intro v190 w54 ho hb hg hat
         rw [← Ny189.out] at ho
         have n0_ := qb.mk (zo (g := gb148) (o := .cells #[.int .i64 a0_0, .int .i64 a0_1, .slice A0_2 l0_2.length c0_2] 31 (0, 0)) (bk_ BK148) hg (Kd.R_ne HO185.out BK148.out (by decide)))
         have n1_ := qb.mk (zo (g := gb149) (o := .cells #[.int .i64 a1_0, .int .i64 a1_1, .bool a1_2] 58 (0, 0)) (bk_ BK149) hg (Kd.R_away HO185.out (fun _ hk => hk.2)))
         have n2_ := qb.mk (zo (g := gb150) (o := .cells #[.int .i64 0, .int .i64 0, .slice none 0 0] 31 (0, 0)) (bk_ BK150) hg (Kd.R_ne HO185.out BK150.out (by decide)))
         have n3_ := qb.mk (Kd.R_after (ok := (fun k_ => k_ ≠ gb149)) (by (with_reducible repeat (first | apply Kd.qo | apply Kd.qn | apply Kd.qq)); exact Kd.zb HO188.out (fun _ hk => ⟨hk.2, hk.1⟩)) hg hat)
         have n4_ := qb.mk (hb)
         have n5_ := qb.mk (ho)
         clear BK148
         clear BK149
         clear BK150
         clear HO188
         clear HB
         clear HO185
         have BK148 := n0_
         have BK149 := n1_
         have BK150 := n2_
         have HO188 := n3_
         have HB := n4_
         have HO191 := n5_
         clear n0_ n1_ n2_ n3_ n4_ n5_
         clear ho hb hg hat
         refine hK.out _ _ ⟨(qf BK148.out 0).trans rfl, (qf BK148.out 1).trans rfl, (qf BK148.out 2).trans rfl, (qf BK149.out 0).trans rfl, (qf BK149.out 1).trans rfl, (qf BK149.out 2).trans rfl⟩ (fun hHeld => ?_)
         clear hK K
         refine norm_ (a' := ?_) ?_ ?_
         rotate_left
         ·show Act.put _ (some 31) _ = _
          simp only [Act.put, sA_, sB_, sC_, i64_w, i32_w]
          rfl
         refine pure_ (i := 9) (N := some 6) (v := ?_) (a' := ?_) #[true, true, true, true, true, true, true, true, true, true] rfl rfl (qt HT_.out (by kernel_rfl)) (fun _ _ _ h => h) (Or.inl ⟨by rfl, ?_⟩) ?_ ?_
         rotate_left
         ·intro w'
          go_simp
          with_reducible rfl
         rotate_left
         ·simp only [Act.put, sA_, sB_, sC_, i64_w, i32_w]
          rfl
         refine done_ (jc HT_.out (by kernel_rfl)) ?_
         try go_wp2
         have n0_ := qb.mk (Kd.qq HO188.out)
         have n1_ := qb.mk (Kd.qq HO191.out)
         have n2_ := qb.mk (qg BK148.out)
         have n3_ := qb.mk (qg BK149.out)
         have n4_ := qb.mk (qg BK150.out)
         have n5_ := qb.mk (qh HB.out)
         clear HO188
         clear HO191
         clear BK148
         clear BK149
         clear BK150
         clear HB
         have HO188 := n0_
         have HO191 := n1_
         have BK148 := n2_
         have BK149 := n3_
         have BK150 := n4_
         have HB := n5_
         clear n0_ n1_ n2_ n3_ n4_ n5_
         have q57 : (x5_1 : Int) ≤ ((l0_2.length : Int) : Int) := of_decide_eq_true (by first | (with_reducible assumption) | assumption)
         obtain ⟨i057, hi057, _, hsz57, _⟩ := info_parts info58
         have hroom57 : l0_2.length ≤ c0_2 := HC0_2.out
         have hC57 : Kd.C k58 _ A0_2 l0_2.length l0_2 := HR0_2.out
         have q057 : (0 : Int) ≤ (x5_1 : Int) := of_decide_eq_true (by first | (with_reducible assumption) | assumption)
         have hcut57 := cut_from (P := Try.prog) 29 58 .i64 Try.underlying29 hi057 3 hsz57 A0_2 l0_2.length c0_2 x5_1 q057 q57
         have hr57 := Kd.C_drop (m := (x5_1 : Int).toNat) (c := c0_2) hC57 (by omega) hroom57
         obtain ⟨A57, hA57⟩ : ∃ A1, A1 = (if c0_2 = (x5_1 : Int).toNat then A0_2 else (A0_2 : Option Addr).map (·.add ((x5_1 : Int).toNat * 3))) := ⟨_, rfl⟩
         obtain ⟨c57, hc57⟩ : ∃ c1, c1 = c0_2 - (x5_1 : Int).toNat := ⟨_, rfl⟩
         have hy57 : y192.length = l0_2.length - (x5_1 : Int).toNat := (by rw [Ny192.out, List.length_drop] <;> omega)
         rw [show (l0_2).drop (x5_1 : Int).toNat = y192 from Ny192.out.symm] at hr57
         replace hr57 : Kd.C k58 _ A57 y192.length y192 := (by rw [hA57]; exact hr57)
         rw [← hy57, ← hA57, ← hc57] at hcut57
         have HR195 := qb.mk hr57
         have HC195 := qb.mk (show y192.length ≤ c57 from by rw [hy57, hc57]; exact Nat.sub_le_sub_right hroom57 _)
         clear hr57 hC57 hroom57 hi057 hsz57 hc57
         have KY57 := qb.mk hy57
         have KA57 := qb.mk hA57
         clear hy57 hA57
         replace q57 := eq_true q57
         refine jd (n := 12) (S := fun w' => w'.cell? ⟨gb148, 0, none⟩ = some (.int .i64 a0_0) ∧ w'.cell? ⟨gb148, 1, none⟩ = some (.int .i64 a0_1) ∧ w'.cell? ⟨gb148, 2, none⟩ = some (.slice A0_2 l0_2.length c0_2)) (ds := []) #[false, false, false, false, false, false, false, false, false, false, false, false] (by kernel_rfl) rfl rfl ⟨(qf BK148.out 0).trans rfl, (qf BK148.out 1).trans rfl, (qf BK148.out 2).trans rfl⟩ (fun hHeld => ?_); refine zx spec_avClose.tab5 spec_avClose.bits5 (fun HT_ HW_ => ?_)
         generalize w54.drew = w56 at HO188 HO191 BK148 BK149 BK150 HB HR195 hHeld ⊢
         refine pure_ (i := 0) (N := some 32) (v := ?_) (a' := ?_) #[true, false, false, false, false, false, false, false, false, false, false, false] rfl rfl (qt HT_.out (by kernel_rfl)) (fun _ _ _ h => h) (Or.inl ⟨by rfl, ?_⟩) ?_ ?_
         rotate_left
         ·intro w'
          go_simp
          with_reducible rfl
         rotate_left
         ·simp only [Act.put, sA_, sB_, sC_, i64_w, i32_w]
          rfl
         refine pure_ (i := 2) (N := some 34) (v := ?_) (a' := ?_) #[true, false, true, false, false, false, false, false, false, false, false, false] rfl rfl (qt HT_.out (by kernel_rfl)) (fun _ _ _ h => h) (Or.inl ⟨by rfl, ?_⟩) ?_ ?_
         rotate_left
         ·intro w'
          go_simp
          with_reducible rfl
         rotate_left
         ·simp only [Act.put, sA_, sB_, sC_, i64_w, i32_w]
          rfl
         refine pure_ (i := 4) (N := some 36) (v := ?_) (a' := ?_) #[true, false, true, false, true, false, false, false, false, false, false, false] rfl rfl (qt HT_.out (by kernel_rfl)) (fun _ _ _ h => h) (Or.inl ⟨by rfl, ?_⟩) ?_ ?_
         rotate_left
         ·intro w'
          go_simp
          with_reducible rfl
         rotate_left
         ·simp only [Act.put, sA_, sB_, sC_, i64_w, i32_w]
          rfl
         refine pure_ (i := 5) (N := some 37) (v := ?_) (a' := ?_) #[true, false, true, false, true, true, false, false, false, false, false, false] rfl rfl (qt HT_.out (by kernel_rfl)) (fun _ _ _ h => h) (Or.inl ⟨by rfl, ?_⟩) ?_ ?_
         rotate_left
         ·intro w'
          go_simp
          with_reducible rfl
         rotate_left
         ·simp only [Act.put, sA_, sB_, sC_, i64_w, i32_w]
          rfl
         refine pure_ (i := 7) (N := some 39) (v := ?_) (a' := ?_) #[true, false, true, false, true, true, false, true, false, false, false, false] rfl rfl (qt HT_.out (by kernel_rfl)) (fun _ _ _ h => h) (Or.inl ⟨by rfl, ?_⟩) ?_ ?_
         rotate_left
         ·intro w'
          go_simp
          with_reducible rfl
         rotate_left
         ·simp only [Act.put, sA_, sB_, sC_, i64_w, i32_w]
          rfl
         refine take_ (i := 1) (N := some 33) (v := ?_) (a' := ?_) #[true, true, true, false, true, true, false, true, false, false, false, false] rfl rfl (ze HT_.out HW_.out (by kernel_rfl)) (fun _ _ _ h => h) (Or.inl ⟨by rfl, ?_⟩) hHeld ?_ ?_
         rotate_left
         ·rintro w' ⟨s0, s1, s2⟩
          go_simp
          with_reducible rfl
         rotate_left
         ·simp only [Act.put, sA_, sB_, sC_, i64_w, i32_w]
          rfl
         refine take_ (i := 3) (N := some 35) (v := ?_) (a' := ?_) #[true, true, true, true, true, true, false, true, false, false, false, false] rfl rfl (ze HT_.out HW_.out (by kernel_rfl)) (fun _ _ _ h => h) (Or.inl ⟨by rfl, ?_⟩) hHeld ?_ ?_
         rotate_left
         ·rintro w' ⟨s0, s1, s2⟩
          go_simp
          with_reducible rfl
         rotate_left
         ·simp only [Act.put, sA_, sB_, sC_, i64_w, i32_w]
          rfl
         refine take_ (i := 6) (N := some 38) (v := ?_) (a' := ?_) #[true, true, true, true, true, true, true, true, false, false, false, false] rfl rfl (ze HT_.out HW_.out (by kernel_rfl)) (fun _ _ _ h => h) (Or.inl ⟨by rfl, ?_⟩) hHeld ?_ ?_
         rotate_left
         ·rintro w' ⟨s0, s1, s2⟩
          go_simp
          with_reducible rfl
         rotate_left
         ·simp only [Act.put, sA_, sB_, sC_, i64_w, i32_w]
          rfl
         refine pure_ (i := 8) (N := some 40) (v := ?_) (a' := ?_) #[true, true, true, true, true, true, true, true, true, false, false, false] rfl rfl (qt HT_.out (by kernel_rfl)) (fun _ _ _ h => h) (Or.inl ⟨by rfl, ?_⟩) ?_ ?_
         rotate_left
         ·intro w'
          go_simp
          with_reducible rfl
         rotate_left
         ·simp only [Act.put, sA_, sB_, sC_, i64_w, i32_w]
          rfl
         refine one_ (i := 9) (N := some 41) #[true, true, true, true, true, true, true, true, true, true, false, false] rfl rfl (zl HT_.out (by kernel_rfl)) (by decide) (fun K hK => ?_)
         refine Kd.R_append_rows_step k58 (w0 := w) w.heap.size (by rfl) (.tmp 36) (.tmp 40) 29 58 (.agg #[(.int .i64 0), (.int .i64 0), (.bool false)]) 24 rfl Try.underlying29 info58 rfl (by decide) (by omega) v190 y189 y192 _ _ _ (fun k_ => some k_ ≠ (.slice Ao55 y186.length co55 : Value).ownBlock ∧ k_ ≠ gb149) (fun _ => False) rfl rfl ?aO ?aR (fun _ _ h => h) (fun _ h => h.elim) ?aF ?aB ?aS ?aL ?_
         (case aR => repeat (first | exact (Kd.zi HR195.out HB.out) | (with_reducible refine Kd.zg ?_ _) | (with_reducible refine Kd.zh ?_ _) | (with_reducible refine Kd.zk ?_)))
         (case aB => exact (be3_ HB GE148 GE149 GE150))
         (case aF => exact (fun k_ hk => ⟨Kd.fresh' (Kd.R_lt (kr_ HO188)) k_ hk, Kd.freshB (g := gb149) (o := .cells #[.int .i64 a1_0, .int .i64 a1_1, .bool a1_2] 58 (0, 0)) (bk_ BK149) k_ hk⟩))
         (case aO => exact (kr_ HO191))
         (case aS => exact (qm (be3_ HB GE148 GE149 GE150)))
         (case aL => have := LMc44.out; omega)
         intro v197 w58 ho hb hg hat
         rw [← Ny196.out] at ho
         have n0_ := qb.mk (zo (g := gb148) (o := .cells #[.int .i64 a0_0, .int .i64 a0_1, .slice A0_2 l0_2.length c0_2] 31 (0, 0)) (bk_ BK148) hg (Kd.R_ne HO191.out BK148.out (by decide)))
         have n1_ := qb.mk (zo (g := gb149) (o := .cells #[.int .i64 a1_0, .int .i64 a1_1, .bool a1_2] 58 (0, 0)) (bk_ BK149) hg (Kd.R_away HO191.out (fun _ hk => hk.2)))
         have n2_ := qb.mk (zo (g := gb150) (o := .cells #[.int .i64 0, .int .i64 0, .slice none 0 0] 31 (0, 0)) (bk_ BK150) hg (Kd.R_ne HO191.out BK150.out (by decide)))
         have n3_ := qb.mk (Kd.R_after (ok := (fun k_ => k_ ≠ gb149)) (kr_ HO188) hg hat)
         have n4_ := qb.mk (hb)
         have n5_ := qb.mk (ho)
         clear BK148
         clear BK149
         clear BK150
         clear HO188
         clear HB
         clear HO191
         have BK148 := n0_
         have BK149 := n1_
         have BK150 := n2_
         have HO188 := n3_
         have HB := n4_
         have HO198 := n5_
         clear n0_ n1_ n2_ n3_ n4_ n5_
         clear ho hb hg hat
         obtain ⟨Ao59, co59, eo59⟩ := Kd.zy HO198.out
         (first | subst eo59 | (injection eo59 with f1_ f2_ f3_; have f4_ := f1_.symm; have f5_ := f3_.symm; clear f1_ f2_ f3_; subst f4_; subst f5_))
         refine hK.out _ _ ⟨(qf BK148.out 0).trans rfl, (qf BK148.out 1).trans rfl, (qf BK148.out 2).trans rfl⟩ (fun hHeld => ?_)
         clear hK K
         refine norm_ (a' := ?_) ?_ ?_
         rotate_left
         ·show Act.put _ (some 41) _ = _
          simp only [Act.put, sA_, sB_, sC_, i64_w, i32_w]
          rfl
         refine pure_ (i := 10) (N := some 42) (v := ?_) (a' := ?_) #[true, true, true, true, true, true, true, true, true, true, true, false] rfl rfl (qt HT_.out (by kernel_rfl)) (fun _ _ _ h => h) (Or.inl ⟨by rfl, ?_⟩) ?_ ?_
         rotate_left
         ·intro w'
          go_simp
          with_reducible rfl
         rotate_left
         ·simp only [Act.put, sA_, sB_, sC_, i64_w, i32_w]
          rfl
         refine one_ (i := 11) (N := none) #[true, true, true, true, true, true, true, true, true, true, true, true] rfl rfl (zl HT_.out (by kernel_rfl)) (by decide) (fun K hK => ?_)
         have hs60 : w58.cell? ⟨gb150, 0, none⟩ = some (.int .i64 0) := (qf BK150.out 0).trans rfl
         have hfs60 := qj BK150.out 0
         have hns60_0 := NB148_150.out
         have hns60_1 := NB149_150.out
         have hms60_0 := NB150_148.out
         have hms60_1 := NB150_149.out
         have hs61 : w58.cell? ⟨gb150, 1, none⟩ = some (.int .i64 0) := (qf BK150.out 1).trans rfl
         have hfs61 := qj BK150.out 1
         have hns61_0 := NB148_150.out
         have hns61_1 := NB149_150.out
         have hms61_0 := NB150_148.out
         have hms61_1 := NB150_149.out
         have hs62 : w58.cell? ⟨gb150, 2, none⟩ = some (.slice none 0 0) := (qf BK150.out 2).trans rfl
         have hfs62 := qj BK150.out 2
         have hns62_0 := NB148_150.out
         have hns62_1 := NB149_150.out
         have hms62_0 := NB150_148.out
         have hms62_1 := NB150_149.out
         refine skip_ (w1 := ?_) (by rfl) rfl ?_ ?_
         rotate_left
         ·go_simp
          rfl
         refine hK.out _ _ ⟨((cell_far (p := ⟨gb150, _, none⟩) NB148_150.out _).trans (((cell_far (p := ⟨gb150, _, none⟩) NB148_150.out _).trans (((cell_far (p := ⟨gb150, _, none⟩) NB148_150.out _).trans (hHeld.1)))))), ((cell_far (p := ⟨gb150, _, none⟩) NB148_150.out _).trans (((cell_far (p := ⟨gb150, _, none⟩) NB148_150.out _).trans (((cell_far (p := ⟨gb150, _, none⟩) NB148_150.out _).trans (hHeld.2.1)))))), ((cell_far (p := ⟨gb150, _, none⟩) NB148_150.out _).trans (((cell_far (p := ⟨gb150, _, none⟩) NB148_150.out _).trans (((cell_far (p := ⟨gb150, _, none⟩) NB148_150.out _).trans (hHeld.2.2))))))⟩ (fun hHeld => ?_)
         clear hK K
         refine done_ (jc HT_.out (by kernel_rfl)) ?_
         try go_wp2
         refine bodyPost_ret (results_cell_row rfl _ _ gb150 31 #[.int .i64 a0_0, .int .i64 a0_1, .slice Ao59 y196.length co59] (0, 0) _ rfl (by (with_reducible repeat (first | refine qd ?_ _ | refine qg ?_ | refine qc ?_ _)); refine zf (cs := #[.int .i64 a0_0, .int .i64 a0_1, .slice none 0 0]) ?_ 2 _ rfl; (with_reducible repeat (first | refine qd ?_ _ | refine qg ?_ | refine qc ?_ _)); refine zf (cs := #[.int .i64 a0_0, .int .i64 0, .slice none 0 0]) ?_ 1 _ rfl; (with_reducible repeat (first | refine qd ?_ _ | refine qg ?_ | refine qc ?_ _)); refine zf (cs := #[.int .i64 0, .int .i64 0, .slice none 0 0]) ?_ 0 _ rfl; (with_reducible repeat (first | refine qd ?_ _ | refine qg ?_ | refine qc ?_ _)); exact BK150.out) Try.underlying31 rfl (by kernel_rfl)) rfl ?_
         exact ⟨_, by first | rfl | (simp [qv, qu] <;> rfl) | (simp [*, qv, qu] <;> rfl), by (with_reducible repeat (first | apply Kd.qo | apply Kd.qn | apply Kd.qq)); exact Kd.zb (Kd.R_far (p := ⟨gb150, 2, none⟩) (Kd.R_far (p := ⟨gb150, 1, none⟩) (Kd.R_far (p := ⟨gb150, 0, none⟩) (Kd.zw HO198.out BK150.out (by decide)) (fun _ hk => hk.2) (.int .i64 a0_0)) (fun _ hk => hk.2) (.int .i64 a0_1)) (fun _ hk => hk.2) (.slice Ao59 y196.length co59)) (fun _ hk => trivial), be3_ HB GE148 GE149 GE150⟩
        ·rw [if_neg c44] at H
         exact absurd H (by simp)
       ·rw [if_neg c41] at H
        exact absurd H (by simp)
      ·rw [if_neg c40] at H
       exact absurd H (by simp)
     ·rw [if_neg c39] at H
      exact absurd H (by simp)
    ·rw [if_neg c38] at H
     exact absurd H (by simp)
end Go.Proofs.Ytpedofomfhmnfaa.PFnExactCloseBlock
