/- Cut by wip/cut.py out of the texts of this claim (printed by the kit's printer, or this session's own): what the row's theorem does not reach is struck. Not trusted: Lean checks it. -/
import Derived.Test.YtpedofomfhmnfaaZFnExactCloseBlockPx0
import Derived.Test.YtpedofomfhmnfaaZFnExactCloseBlockPx6
import Derived.Test.YtpedofomfhmnfaaZFnExactCloseBlockPx7
import Derived.Test.YtpedofomfhmnfaaZFnExactCloseBlockPx8
import Derived.Test.YtpedofomfhmnfaaZFnExactCloseBlockPx9
namespace Go.Proofs.Ytpedofomfhmnfaa.PFnExactCloseBlock
open Go.RowKit Go.Proofs.YtpedofomfhmnfaaW.PrintWords Go.Proofs.YtpedofomfhmnfaaW.PrintLast Go.Proofs.YtpedofomfhmnfaaW.PrintMore
attribute [local go_sem] max2_int min2_int max_two min_two max_three min_three max_four min_four
set_option linter.unusedVariables false
set_option linter.unusedSimpArgs false
def impl_CloseBlock.ask (k : Nat) (a0_0 : Int) (a0_1 : Int) (l0_2 : List S58) (a1_0 : Int) (a1_1 : Int) (a1_2 : Bool) : Option Bool := (impl_IsCity.f k a0_0 a0_1 l0_2).bind fun t1 => if t1 = true then ((impl_isBlock.f a0_0 a0_1 l0_2 a1_0 a1_1 a1_2).bind fun t2 => if t2 = true then ((impl_isClosed.f k a0_0 a0_1 l0_2 a1_0 a1_1 a1_2).bind fun t3 => if t3 = true then some false else some (!decide (l0_2.length = 30))) else some false) else some false
def impl_CloseBlock.f (k : Nat) (a0_0 : Int) (a0_1 : Int) (l0_2 : List S58) (a1_0 : Int) (a1_1 : Int) (a1_2 : Bool) : Option (Int × Int × List S58 × Bool) := (impl_CloseBlock.ask k a0_0 a0_1 l0_2 a1_0 a1_1 a1_2).bind fun t => if t = true then ((impl_Block_55.f l0_2).bind fun l => if l.length < 500000 then ((impl_Block_66.f (l ++ [⟨a1_0, a1_1, a1_2⟩])).bind fun s => some (a0_0, a0_1, s, true)) else none) else some (0, 0, [], false)
theorem impl_CloseBlock.mono : ∀ a0 a1 a2 a3 a4 a5 k, LeO (impl_CloseBlock.f k a0 a1 a2 a3 a4 a5) (impl_CloseBlock.f (k + 1) a0 a1 a2 a3 a4 a5) := fun a0 a1 a2 a3 a4 a5 k => LeO.bind (LeO.bind (impl_IsCity.mono _ _ _ _) (fun _ => LeO.ite (LeO.bind (LeO.refl _) (fun _ => LeO.ite (LeO.bind (impl_isClosed.mono _ _ _ _ _ _ _) (fun _ => LeO.refl _)) (LeO.refl _))) (LeO.refl _))) (fun _ => LeO.refl _)
def impl_CloseBlock.T3 : Bool × List (List Nat × List Nat) := (true, [([], []), ([0], [0]), ([], []), ([2], [2]), ([], []), ([4], [4]), ([5], [5]), ([], []), ([7], [7]), ([6, 8, 6], [6, 8]), ([1, 3, 9], [1, 3, 9]), ([], []), ([11, 10, 9, 0, 1, 2, 3, 4, 5, 6, 7, 8, 9, 10, 11], [10, 11])])
def impl_CloseBlock.B3 : List Nat := [0, 1, 0, 4, 0, 16, 48, 0, 128, 496, 1023, 0, 4095]
theorem impl_CloseBlock.tab3 : rtab .any (opsOf Try.f37 3) = impl_CloseBlock.T3 := by kernel_rfl
theorem impl_CloseBlock.bits3 : waitsOk impl_CloseBlock.T3.2 impl_CloseBlock.B3 = true := by kernel_rfl
set_option maxHeartbeats 8000000 in
set_option maxRecDepth 100000 in
theorem impl_CloseBlock.no (k : Nat) (a0_0 : Int) (a0_1 : Int) (A0_2 : Option Addr) (c0_2 : Nat) (l0_2 : List S58) (a1_0 : Int) (a1_1 : Int) (a1_2 : Bool) (w : World) (hr0_2 : Kd.C k58 w A0_2 l0_2.length l0_2) (hc0_2 : l0_2.length ≤ c0_2) (h : impl_CloseBlock.ask k a0_0 a0_1 l0_2 a1_0 a1_1 a1_2 = some false) :
  Calls Try.prog 37 #[.agg #[.int .i64 a0_0, .int .i64 a0_1, .slice A0_2 l0_2.length c0_2], .agg #[.int .i64 a1_0, .int .i64 a1_1, .bool a1_2]] w fun e w' => ∃ v2_ : Value, e = .returned (.tuple #[.agg #[.int .i64 0, .int .i64 0, v2_], .bool false]) ∧ Kd.R k58 58 w' w.heap.size (fun _ => True) v2_ [] ∧ Below w.heap.size w w' := by
 have HL := Lib.hid (Kd.zi hr0_2 (Below.refl w.heap.size w))
 have hH : ∃ t1 t2 t3 : Bool, (impl_IsCity.f k a0_0 a0_1 l0_2 = some t1) ∧ (t1 = true → impl_isBlock.f a0_0 a0_1 l0_2 a1_0 a1_1 a1_2 = some t2) ∧ (t1 = true → t2 = true → impl_isClosed.f k a0_0 a0_1 l0_2 a1_0 a1_1 a1_2 = some t3) ∧ (t1 = true → t2 = true → t3 = false → l0_2.length = 30) := by
  unfold impl_CloseBlock.ask at h
  obtain ⟨t1, h1, h⟩ := Option.bind_eq_some_iff.mp h
  cases t1 with
  | false => exact ⟨false, false, false, h1, by simp, by simp, by simp⟩
  | true =>
   rw [if_pos rfl] at h
   obtain ⟨t2, h2, h⟩ := Option.bind_eq_some_iff.mp h
   cases t2 with
   | false => exact ⟨true, false, false, h1, fun _ => h2, by simp, by simp⟩
   | true =>
    rw [if_pos rfl] at h
    obtain ⟨t3, h3, h⟩ := Option.bind_eq_some_iff.mp h
    refine ⟨true, true, t3, h1, fun _ => h2, fun _ _ => h3, fun _ _ e => ?_⟩
    subst e
    simpa using h
 obtain ⟨t1, t2, t3, h1, h2, h3, h4⟩ := hH
 have H_IsCity := Lib.hid h1
 clear h hr0_2 h1
 have hu := Try.underlying31
 have hub := Try.underlying58
 go_enter Try.func37, Try.ntmps37
 go_upto_region 1 with (fail)
 have HC0 := Lib.hid (qc (qc (blk_new w (.cells #[.int .i64 a0_0, .int .i64 a0_1, .slice A0_2 l0_2.length c0_2] 31)) (.cells #[.int .i64 a1_0, .int .i64 a1_1, .bool a1_2] 58)) (.cells #[.int .i64 0, .int .i64 0, .slice none 0 0] 31))
 have HC1 := Lib.hid (qc (blk_new (w.alloc (.cells #[.int .i64 a0_0, .int .i64 a0_1, .slice A0_2 l0_2.length c0_2] 31)) (.cells #[.int .i64 a1_0, .int .i64 a1_1, .bool a1_2] 58)) (.cells #[.int .i64 0, .int .i64 0, .slice none 0 0] 31))
 have HC2 := Lib.hid (blk_new ((w.alloc (.cells #[.int .i64 a0_0, .int .i64 a0_1, .slice A0_2 l0_2.length c0_2] 31)).alloc (.cells #[.int .i64 a1_0, .int .i64 a1_1, .bool a1_2] 58)) (.cells #[.int .i64 0, .int .i64 0, .slice none 0 0] 31))
 have hal : ∀ (W : World) (o : Obj), Below W.heap.size W (W.alloc o) := fun W o => qi (Below.refl _ _) o
 have HB := Lib.hid (((hal w (.cells #[.int .i64 a0_0, .int .i64 a0_1, .slice A0_2 l0_2.length c0_2] 31)).trans ((hal _ (.cells #[.int .i64 a1_0, .int .i64 a1_1, .bool a1_2] 58)).mono (by simp))).trans ((hal _ (.cells #[.int .i64 0, .int .i64 0, .slice none 0 0] 31)).mono (by simp; omega)))
 have HSZ := Lib.hid (show (((w.alloc (.cells #[.int .i64 a0_0, .int .i64 a0_1, .slice A0_2 l0_2.length c0_2] 31)).alloc (.cells #[.int .i64 a1_0, .int .i64 a1_1, .bool a1_2] 58)).alloc (.cells #[.int .i64 0, .int .i64 0, .slice none 0 0] 31)).heap.size = w.heap.size + 1 + 1 + 1 by simp)
 have hs1 : (w.alloc (.cells #[.int .i64 a0_0, .int .i64 a0_1, .slice A0_2 l0_2.length c0_2] 31)).heap.size = w.heap.size + 1 := by simp
 have hs2 : ((w.alloc (.cells #[.int .i64 a0_0, .int .i64 a0_1, .slice A0_2 l0_2.length c0_2] 31)).alloc (.cells #[.int .i64 a1_0, .int .i64 a1_1, .bool a1_2] 58)).heap.size = w.heap.size + 1 + 1 := by simp
 rw [hs1] at HC1
 rw [hs2] at HC2
 clear hal hs1 hs2
 have HL1 := Lib.hid (Kd.zg (Kd.zg (Kd.zg HL.out (.cells #[.int .i64 a0_0, .int .i64 a0_1, .slice A0_2 l0_2.length c0_2] 31)) (.cells #[.int .i64 a1_0, .int .i64 a1_1, .bool a1_2] 58)) (.cells #[.int .i64 0, .int .i64 0, .slice none 0 0] 31))
 generalize ((w.alloc (.cells #[.int .i64 a0_0, .int .i64 a0_1, .slice A0_2 l0_2.length c0_2] 31)).alloc (.cells #[.int .i64 a1_0, .int .i64 a1_1, .bool a1_2] 58)).alloc (.cells #[.int .i64 0, .int .i64 0, .slice none 0 0] 31) = W1 at HC0 HC1 HC2 HB HSZ HL1 ⊢
 obtain ⟨s, hs⟩ : ∃ s, s = w.heap.size := ⟨_, rfl⟩
 have HSW := Lib.hid hs
 rw [← hs] at HC0 HC1 HC2 HSZ ⊢
 clear hs
 have hcz0 : W1.cell? ⟨s, 0, none⟩ = some (.int .i64 a0_0) := (qf HC0.out 0).trans rfl
 have hcz1 : W1.cell? ⟨s, 1, none⟩ = some (.int .i64 a0_1) := (qf HC0.out 1).trans rfl
 have hcz2 : W1.cell? ⟨s, 2, none⟩ = some (.slice A0_2 l0_2.length c0_2) := (qf HC0.out 2).trans rfl
 have hbz0 : W1.cell? ⟨s + 1, 0, none⟩ = some (.int .i64 a1_0) := (qf HC1.out 0).trans rfl
 have hbz1 : W1.cell? ⟨s + 1, 1, none⟩ = some (.int .i64 a1_1) := (qf HC1.out 1).trans rfl
 have hbz2 : W1.cell? ⟨s + 1, 2, none⟩ = some (.bool a1_2) := (qf HC1.out 2).trans rfl
 clear HL
 have HL := HL1
 clear HL1
 have HBR := Below.refl W1.heap.size W1
 cases t1 with
 | false =>
  go_upto_region 2 with (first | (go_at_call 65; (with_reducible refine (impl_IsCity.calls k a0_0 a0_1 A0_2 c0_2 l0_2 false _ (Kd.zi HL.out HBR) hc0_2 H_IsCity.out).mono ?_); rintro e w2 ⟨rfl, hb2⟩; have HB2 := Lib.hid (zu HBR HBR.size hb2); have hcz0 := qr hb2 hcz0; have hcz1 := qr hb2 hcz1; have hcz2 := qr hb2 hcz2; have hbz0 := qr hb2 hbz0; have hbz1 := qr hb2 hbz1; have hbz2 := qr hb2 hbz2))
  have HBW2 := Lib.hid (HB.out.trans (HB2.out.mono HB.out.size))
  have HX2 := Lib.hid ((HB2.out.block _ (qw HC2.out)).trans HC2.out)
  have hq0 : w2.cell? ⟨s + 1 + 1, 0, none⟩ = some (.int .i64 0) := (qf HX2.out 0).trans rfl
  have hq1 : w2.cell? ⟨s + 1 + 1, 1, none⟩ = some (.int .i64 0) := (qf HX2.out 1).trans rfl
  have hq2 : w2.cell? ⟨s + 1 + 1, 2, none⟩ = some (.slice none 0 0) := (qf HX2.out 2).trans rfl
  have hz0 := qj HX2.out 0
  have hz1 := qj HX2.out 1
  have hz2 := qj HX2.out 2
  go_wp2
  have HH := Lib.hid (show (((w2.setCell ⟨s + 1 + 1, 0, none⟩ (.int .i64 0)).setCell ⟨s + 1 + 1, 1, none⟩ (.int .i64 0)).setCell ⟨s + 1 + 1, 2, none⟩ (.slice none 0 0)).heap[s + 1 + 1]? = some (.cells #[.int .i64 0, .int .i64 0, .slice none 0 0] 31 (0, 0)) by
   refine zf (cs := #[.int .i64 0, .int .i64 0, .slice none 0 0]) ?_ 2 _ rfl
   refine zf (cs := #[.int .i64 0, .int .i64 0, .slice none 0 0]) ?_ 1 _ rfl
   refine zf (cs := #[.int .i64 0, .int .i64 0, .slice none 0 0]) ?_ 0 _ rfl
   exact HX2.out)
  have hgs : w.heap.size ≤ s + 1 + 1 := by have := HSW.out; omega
  refine bodyPost_ret (results_ct rfl _ _ (s + 1 + 1) 31 #[.int .i64 0, .int .i64 0, .slice none 0 0] (0, 0) _ rfl HH.out Try.underlying31 rfl (by kernel_rfl)) rfl ?_
  exact ⟨_, rfl, Kd.R_nil _ _ _ _ _, qa (qa (qa HBW2.out hgs) hgs) hgs⟩
 | true =>
  have H_isBlock := Lib.hid (h2 rfl)
  clear h2
  cases t2 with
  | false =>
   go_upto_region 2 with (first | (go_at_call 65; (with_reducible refine (impl_IsCity.calls k a0_0 a0_1 A0_2 c0_2 l0_2 true _ (Kd.zi HL.out HBR) hc0_2 H_IsCity.out).mono ?_); rintro e w2 ⟨rfl, hb2⟩; have HB2 := Lib.hid (zu HBR HBR.size hb2); have hcz0 := qr hb2 hcz0; have hcz1 := qr hb2 hcz1; have hcz2 := qr hb2 hcz2; have hbz0 := qr hb2 hbz0; have hbz1 := qr hb2 hbz1; have hbz2 := qr hb2 hbz2) | (go_at_call 68; (with_reducible refine (impl_isBlock.calls a0_0 a0_1 A0_2 c0_2 l0_2 a1_0 a1_1 a1_2 false _ (Kd.zi HL.out HB2.out) hc0_2 H_isBlock.out).mono ?_); rintro e w3 ⟨rfl, hb3⟩; have HB3 := Lib.hid (zu HB2.out HB2.out.size hb3); have hcz0 := qr hb3 hcz0; have hcz1 := qr hb3 hcz1; have hcz2 := qr hb3 hcz2; have hbz0 := qr hb3 hbz0; have hbz1 := qr hb3 hbz1; have hbz2 := qr hb3 hbz2))
   have HBW3 := Lib.hid (HB.out.trans (HB3.out.mono HB.out.size))
   have HX2 := Lib.hid ((HB3.out.block _ (qw HC2.out)).trans HC2.out)
   have hq0 : w3.cell? ⟨s + 1 + 1, 0, none⟩ = some (.int .i64 0) := (qf HX2.out 0).trans rfl
   have hq1 : w3.cell? ⟨s + 1 + 1, 1, none⟩ = some (.int .i64 0) := (qf HX2.out 1).trans rfl
   have hq2 : w3.cell? ⟨s + 1 + 1, 2, none⟩ = some (.slice none 0 0) := (qf HX2.out 2).trans rfl
   have hz0 := qj HX2.out 0
   have hz1 := qj HX2.out 1
   have hz2 := qj HX2.out 2
   go_wp2
   have HH := Lib.hid (show (((w3.setCell ⟨s + 1 + 1, 0, none⟩ (.int .i64 0)).setCell ⟨s + 1 + 1, 1, none⟩ (.int .i64 0)).setCell ⟨s + 1 + 1, 2, none⟩ (.slice none 0 0)).heap[s + 1 + 1]? = some (.cells #[.int .i64 0, .int .i64 0, .slice none 0 0] 31 (0, 0)) by
    refine zf (cs := #[.int .i64 0, .int .i64 0, .slice none 0 0]) ?_ 2 _ rfl
    refine zf (cs := #[.int .i64 0, .int .i64 0, .slice none 0 0]) ?_ 1 _ rfl
    refine zf (cs := #[.int .i64 0, .int .i64 0, .slice none 0 0]) ?_ 0 _ rfl
    exact HX2.out)
   have hgs : w.heap.size ≤ s + 1 + 1 := by have := HSW.out; omega
   refine bodyPost_ret (results_ct rfl _ _ (s + 1 + 1) 31 #[.int .i64 0, .int .i64 0, .slice none 0 0] (0, 0) _ rfl HH.out Try.underlying31 rfl (by kernel_rfl)) rfl ?_
   exact ⟨_, rfl, Kd.R_nil _ _ _ _ _, qa (qa (qa HBW3.out hgs) hgs) hgs⟩
  | true =>
   have H_isClosed := Lib.hid (h3 rfl rfl)
   clear h3
   cases t3 with
   | true =>
    go_upto_region 2 with (first | (go_at_call 65; (with_reducible refine (impl_IsCity.calls k a0_0 a0_1 A0_2 c0_2 l0_2 true _ (Kd.zi HL.out HBR) hc0_2 H_IsCity.out).mono ?_); rintro e w2 ⟨rfl, hb2⟩; have HB2 := Lib.hid (zu HBR HBR.size hb2); have hcz0 := qr hb2 hcz0; have hcz1 := qr hb2 hcz1; have hcz2 := qr hb2 hcz2; have hbz0 := qr hb2 hbz0; have hbz1 := qr hb2 hbz1; have hbz2 := qr hb2 hbz2) | (go_at_call 68; (with_reducible refine (impl_isBlock.calls a0_0 a0_1 A0_2 c0_2 l0_2 a1_0 a1_1 a1_2 true _ (Kd.zi HL.out HB2.out) hc0_2 H_isBlock.out).mono ?_); rintro e w3 ⟨rfl, hb3⟩; have HB3 := Lib.hid (zu HB2.out HB2.out.size hb3); have hcz0 := qr hb3 hcz0; have hcz1 := qr hb3 hcz1; have hcz2 := qr hb3 hcz2; have hbz0 := qr hb3 hbz0; have hbz1 := qr hb3 hbz1; have hbz2 := qr hb3 hbz2) | (go_at_call 54; (with_reducible refine (impl_isClosed.calls k a0_0 a0_1 A0_2 c0_2 l0_2 a1_0 a1_1 a1_2 true _ (Kd.zi HL.out HB3.out) hc0_2 H_isClosed.out).mono ?_); rintro e w4 ⟨rfl, hb4⟩; have HB4 := Lib.hid (zu HB3.out HB3.out.size hb4); have hcz0 := qr hb4 hcz0; have hcz1 := qr hb4 hcz1; have hcz2 := qr hb4 hcz2; have hbz0 := qr hb4 hbz0; have hbz1 := qr hb4 hbz1; have hbz2 := qr hb4 hbz2))
    have HBW4 := Lib.hid (HB.out.trans (HB4.out.mono HB.out.size))
    have HX2 := Lib.hid ((HB4.out.block _ (qw HC2.out)).trans HC2.out)
    have hq0 : w4.cell? ⟨s + 1 + 1, 0, none⟩ = some (.int .i64 0) := (qf HX2.out 0).trans rfl
    have hq1 : w4.cell? ⟨s + 1 + 1, 1, none⟩ = some (.int .i64 0) := (qf HX2.out 1).trans rfl
    have hq2 : w4.cell? ⟨s + 1 + 1, 2, none⟩ = some (.slice none 0 0) := (qf HX2.out 2).trans rfl
    have hz0 := qj HX2.out 0
    have hz1 := qj HX2.out 1
    have hz2 := qj HX2.out 2
    go_wp2
    have HH := Lib.hid (show (((w4.setCell ⟨s + 1 + 1, 0, none⟩ (.int .i64 0)).setCell ⟨s + 1 + 1, 1, none⟩ (.int .i64 0)).setCell ⟨s + 1 + 1, 2, none⟩ (.slice none 0 0)).heap[s + 1 + 1]? = some (.cells #[.int .i64 0, .int .i64 0, .slice none 0 0] 31 (0, 0)) by
     refine zf (cs := #[.int .i64 0, .int .i64 0, .slice none 0 0]) ?_ 2 _ rfl
     refine zf (cs := #[.int .i64 0, .int .i64 0, .slice none 0 0]) ?_ 1 _ rfl
     refine zf (cs := #[.int .i64 0, .int .i64 0, .slice none 0 0]) ?_ 0 _ rfl
     exact HX2.out)
    have hgs : w.heap.size ≤ s + 1 + 1 := by have := HSW.out; omega
    refine bodyPost_ret (results_ct rfl _ _ (s + 1 + 1) 31 #[.int .i64 0, .int .i64 0, .slice none 0 0] (0, 0) _ rfl HH.out Try.underlying31 rfl (by kernel_rfl)) rfl ?_
    exact ⟨_, rfl, Kd.R_nil _ _ _ _ _, qa (qa (qa HBW4.out hgs) hgs) hgs⟩
   | false =>
    have hlen := h4 rfl rfl rfl
    clear h4
    have hlb0 : ((l0_2.length : Int) == 30) = true := beq_iff_eq.mpr (by exact_mod_cast hlen)
    have hlb1 : ((l0_2.length : Int) != 30) = false := bne_eq_false_iff_eq.mpr (by exact_mod_cast hlen)
    clear hlen
    go_upto_region 2 with (first | (go_at_call 65; (with_reducible refine (impl_IsCity.calls k a0_0 a0_1 A0_2 c0_2 l0_2 true _ (Kd.zi HL.out HBR) hc0_2 H_IsCity.out).mono ?_); rintro e w2 ⟨rfl, hb2⟩; have HB2 := Lib.hid (zu HBR HBR.size hb2); have hcz0 := qr hb2 hcz0; have hcz1 := qr hb2 hcz1; have hcz2 := qr hb2 hcz2; have hbz0 := qr hb2 hbz0; have hbz1 := qr hb2 hbz1; have hbz2 := qr hb2 hbz2) | (go_at_call 68; (with_reducible refine (impl_isBlock.calls a0_0 a0_1 A0_2 c0_2 l0_2 a1_0 a1_1 a1_2 true _ (Kd.zi HL.out HB2.out) hc0_2 H_isBlock.out).mono ?_); rintro e w3 ⟨rfl, hb3⟩; have HB3 := Lib.hid (zu HB2.out HB2.out.size hb3); have hcz0 := qr hb3 hcz0; have hcz1 := qr hb3 hcz1; have hcz2 := qr hb3 hcz2; have hbz0 := qr hb3 hbz0; have hbz1 := qr hb3 hbz1; have hbz2 := qr hb3 hbz2) | (go_at_call 54; (with_reducible refine (impl_isClosed.calls k a0_0 a0_1 A0_2 c0_2 l0_2 a1_0 a1_1 a1_2 false _ (Kd.zi HL.out HB3.out) hc0_2 H_isClosed.out).mono ?_); rintro e w4 ⟨rfl, hb4⟩; have HB4 := Lib.hid (zu HB3.out HB3.out.size hb4); have hcz0 := qr hb4 hcz0; have hcz1 := qr hb4 hcz1; have hcz2 := qr hb4 hcz2; have hbz0 := qr hb4 hbz0; have hbz1 := qr hb4 hbz1; have hbz2 := qr hb4 hbz2))
    have HBW4 := Lib.hid (HB.out.trans (HB4.out.mono HB.out.size))
    have HX2 := Lib.hid ((HB4.out.block _ (qw HC2.out)).trans HC2.out)
    have hq0 : w4.cell? ⟨s + 1 + 1, 0, none⟩ = some (.int .i64 0) := (qf HX2.out 0).trans rfl
    have hq1 : w4.cell? ⟨s + 1 + 1, 1, none⟩ = some (.int .i64 0) := (qf HX2.out 1).trans rfl
    have hq2 : w4.cell? ⟨s + 1 + 1, 2, none⟩ = some (.slice none 0 0) := (qf HX2.out 2).trans rfl
    have hz0 := qj HX2.out 0
    have hz1 := qj HX2.out 1
    have hz2 := qj HX2.out 2
    go_wp2
    have HH := Lib.hid (show (((w4.setCell ⟨s + 1 + 1, 0, none⟩ (.int .i64 0)).setCell ⟨s + 1 + 1, 1, none⟩ (.int .i64 0)).setCell ⟨s + 1 + 1, 2, none⟩ (.slice none 0 0)).heap[s + 1 + 1]? = some (.cells #[.int .i64 0, .int .i64 0, .slice none 0 0] 31 (0, 0)) by
     refine zf (cs := #[.int .i64 0, .int .i64 0, .slice none 0 0]) ?_ 2 _ rfl
     refine zf (cs := #[.int .i64 0, .int .i64 0, .slice none 0 0]) ?_ 1 _ rfl
     refine zf (cs := #[.int .i64 0, .int .i64 0, .slice none 0 0]) ?_ 0 _ rfl
     exact HX2.out)
    have hgs : w.heap.size ≤ s + 1 + 1 := by have := HSW.out; omega
    refine bodyPost_ret (results_ct rfl _ _ (s + 1 + 1) 31 #[.int .i64 0, .int .i64 0, .slice none 0 0] (0, 0) _ rfl HH.out Try.underlying31 rfl (by kernel_rfl)) rfl ?_
    exact ⟨_, rfl, Kd.R_nil _ _ _ _ _, qa (qa (qa HBW4.out hgs) hgs) hgs⟩
set_option maxHeartbeats 16000000 in
set_option maxRecDepth 100000 in
theorem impl_CloseBlock.yes (k : Nat) (a0_0 : Int) (a0_1 : Int) (A0_2 : Option Addr) (c0_2 : Nat) (l0_2 : List S58) (a1_0 : Int) (a1_1 : Int) (a1_2 : Bool) (l s' : List S58) (w : World) (hr0_2 : Kd.C k58 w A0_2 l0_2.length l0_2) (hc0_2 : l0_2.length ≤ c0_2) (h : impl_CloseBlock.ask k a0_0 a0_1 l0_2 a1_0 a1_1 a1_2 = some true) (hl : impl_Block_55.f l0_2 = some l) (hln : l.length < 500000) (hs' : s' = impl_Block_66.sorted (l ++ [⟨a1_0, a1_1, a1_2⟩])) :
  Calls Try.prog 37 #[.agg #[.int .i64 a0_0, .int .i64 a0_1, .slice A0_2 l0_2.length c0_2], .agg #[.int .i64 a1_0, .int .i64 a1_1, .bool a1_2]] w fun e w' => ∃ v2_ : Value, e = .returned (.tuple #[.agg #[.int .i64 a0_0, .int .i64 a0_1, v2_], .bool true]) ∧ Kd.R k58 58 w' w.heap.size (fun _ => True) v2_ s' ∧ Below w.heap.size w w' := by
 have HL := Lib.hid (Kd.zi hr0_2 (Below.refl w.heap.size w))
 have hH : impl_IsCity.f k a0_0 a0_1 l0_2 = some true ∧ impl_isBlock.f a0_0 a0_1 l0_2 a1_0 a1_1 a1_2 = some true ∧ impl_isClosed.f k a0_0 a0_1 l0_2 a1_0 a1_1 a1_2 = some false ∧ ¬ l0_2.length = 30 := by
  unfold impl_CloseBlock.ask at h
  obtain ⟨t1, h1, h⟩ := Option.bind_eq_some_iff.mp h
  cases t1 with
  | false => cases h
  | true =>
   rw [if_pos rfl] at h
   obtain ⟨t2, h2, h⟩ := Option.bind_eq_some_iff.mp h
   cases t2 with
   | false => cases h
   | true =>
    rw [if_pos rfl] at h
    obtain ⟨t3, h3, h⟩ := Option.bind_eq_some_iff.mp h
    cases t3 with
    | true => cases h
    | false => exact ⟨h1, h2, h3, by simpa using h⟩
 obtain ⟨h1, h2, h3, hlen⟩ := hH
 have H_IsCity := Lib.hid h1
 have H_isBlock := Lib.hid h2
 have H_isClosed := Lib.hid h3
 have HCL := Lib.hid hl
 have HLN := Lib.hid hln
 obtain ⟨ys, hys⟩ : ∃ ys : List S58, ys = l ++ [⟨a1_0, a1_1, a1_2⟩] := ⟨_, rfl⟩
 rw [← hys] at hs'
 have HYS := Lib.hid hys
 have HSS := Lib.hid hs'
 clear h hr0_2 h1 h2 h3 hl hln hs' hys
 have hu := Try.underlying31
 have hub := Try.underlying58
 go_enter Try.func37, Try.ntmps37
 go_upto_region 1 with (fail)
 have HC0 := Lib.hid (qc (qc (blk_new w (.cells #[.int .i64 a0_0, .int .i64 a0_1, .slice A0_2 l0_2.length c0_2] 31)) (.cells #[.int .i64 a1_0, .int .i64 a1_1, .bool a1_2] 58)) (.cells #[.int .i64 0, .int .i64 0, .slice none 0 0] 31))
 have HC1 := Lib.hid (qc (blk_new (w.alloc (.cells #[.int .i64 a0_0, .int .i64 a0_1, .slice A0_2 l0_2.length c0_2] 31)) (.cells #[.int .i64 a1_0, .int .i64 a1_1, .bool a1_2] 58)) (.cells #[.int .i64 0, .int .i64 0, .slice none 0 0] 31))
 have HC2 := Lib.hid (blk_new ((w.alloc (.cells #[.int .i64 a0_0, .int .i64 a0_1, .slice A0_2 l0_2.length c0_2] 31)).alloc (.cells #[.int .i64 a1_0, .int .i64 a1_1, .bool a1_2] 58)) (.cells #[.int .i64 0, .int .i64 0, .slice none 0 0] 31))
 have hal : ∀ (W : World) (o : Obj), Below W.heap.size W (W.alloc o) := fun W o => qi (Below.refl _ _) o
 have HB := Lib.hid (((hal w (.cells #[.int .i64 a0_0, .int .i64 a0_1, .slice A0_2 l0_2.length c0_2] 31)).trans ((hal _ (.cells #[.int .i64 a1_0, .int .i64 a1_1, .bool a1_2] 58)).mono (by simp))).trans ((hal _ (.cells #[.int .i64 0, .int .i64 0, .slice none 0 0] 31)).mono (by simp; omega)))
 have HSZ := Lib.hid (show (((w.alloc (.cells #[.int .i64 a0_0, .int .i64 a0_1, .slice A0_2 l0_2.length c0_2] 31)).alloc (.cells #[.int .i64 a1_0, .int .i64 a1_1, .bool a1_2] 58)).alloc (.cells #[.int .i64 0, .int .i64 0, .slice none 0 0] 31)).heap.size = w.heap.size + 1 + 1 + 1 by simp)
 have hs1 : (w.alloc (.cells #[.int .i64 a0_0, .int .i64 a0_1, .slice A0_2 l0_2.length c0_2] 31)).heap.size = w.heap.size + 1 := by simp
 have hs2 : ((w.alloc (.cells #[.int .i64 a0_0, .int .i64 a0_1, .slice A0_2 l0_2.length c0_2] 31)).alloc (.cells #[.int .i64 a1_0, .int .i64 a1_1, .bool a1_2] 58)).heap.size = w.heap.size + 1 + 1 := by simp
 rw [hs1] at HC1
 rw [hs2] at HC2
 clear hal hs1 hs2
 have HL1 := Lib.hid (Kd.zg (Kd.zg (Kd.zg HL.out (.cells #[.int .i64 a0_0, .int .i64 a0_1, .slice A0_2 l0_2.length c0_2] 31)) (.cells #[.int .i64 a1_0, .int .i64 a1_1, .bool a1_2] 58)) (.cells #[.int .i64 0, .int .i64 0, .slice none 0 0] 31))
 generalize ((w.alloc (.cells #[.int .i64 a0_0, .int .i64 a0_1, .slice A0_2 l0_2.length c0_2] 31)).alloc (.cells #[.int .i64 a1_0, .int .i64 a1_1, .bool a1_2] 58)).alloc (.cells #[.int .i64 0, .int .i64 0, .slice none 0 0] 31) = W1 at HC0 HC1 HC2 HB HSZ HL1 ⊢
 obtain ⟨s, hs⟩ : ∃ s, s = w.heap.size := ⟨_, rfl⟩
 have HSW := Lib.hid hs
 rw [← hs] at HC0 HC1 HC2 HSZ ⊢
 clear hs
 have hcz0 : W1.cell? ⟨s, 0, none⟩ = some (.int .i64 a0_0) := (qf HC0.out 0).trans rfl
 have hcz1 : W1.cell? ⟨s, 1, none⟩ = some (.int .i64 a0_1) := (qf HC0.out 1).trans rfl
 have hcz2 : W1.cell? ⟨s, 2, none⟩ = some (.slice A0_2 l0_2.length c0_2) := (qf HC0.out 2).trans rfl
 have hbz0 : W1.cell? ⟨s + 1, 0, none⟩ = some (.int .i64 a1_0) := (qf HC1.out 0).trans rfl
 have hbz1 : W1.cell? ⟨s + 1, 1, none⟩ = some (.int .i64 a1_1) := (qf HC1.out 1).trans rfl
 have hbz2 : W1.cell? ⟨s + 1, 2, none⟩ = some (.bool a1_2) := (qf HC1.out 2).trans rfl
 clear HL
 have HL := HL1
 clear HL1
 have HBR := Below.refl W1.heap.size W1
 have hlb0 : ((l0_2.length : Int) == 30) = false := beq_eq_false_iff_ne.mpr (by exact_mod_cast hlen)
 have hlb1 : ((l0_2.length : Int) != 30) = true := bne_iff_ne.mpr (by exact_mod_cast hlen)
 go_upto_region 3 with (first | (go_at_call 65; (with_reducible refine (impl_IsCity.calls k a0_0 a0_1 A0_2 c0_2 l0_2 true _ (Kd.zi HL.out HBR) hc0_2 H_IsCity.out).mono ?_); rintro e w2 ⟨rfl, hb2⟩; have HB2 := Lib.hid (zu HBR HBR.size hb2); have hcz0 := qr hb2 hcz0; have hcz1 := qr hb2 hcz1; have hcz2 := qr hb2 hcz2; have hbz0 := qr hb2 hbz0; have hbz1 := qr hb2 hbz1; have hbz2 := qr hb2 hbz2) | (go_at_call 68; (with_reducible refine (impl_isBlock.calls a0_0 a0_1 A0_2 c0_2 l0_2 a1_0 a1_1 a1_2 true _ (Kd.zi HL.out HB2.out) hc0_2 H_isBlock.out).mono ?_); rintro e w3 ⟨rfl, hb3⟩; have HB3 := Lib.hid (zu HB2.out HB2.out.size hb3); have hcz0 := qr hb3 hcz0; have hcz1 := qr hb3 hcz1; have hcz2 := qr hb3 hcz2; have hbz0 := qr hb3 hbz0; have hbz1 := qr hb3 hbz1; have hbz2 := qr hb3 hbz2) | (go_at_call 54; (with_reducible refine (impl_isClosed.calls k a0_0 a0_1 A0_2 c0_2 l0_2 a1_0 a1_1 a1_2 false _ (Kd.zi HL.out HB3.out) hc0_2 H_isClosed.out).mono ?_); rintro e w4 ⟨rfl, hb4⟩; have HB4 := Lib.hid (zu HB3.out HB3.out.size hb4); have hcz0 := qr hb4 hcz0; have hcz1 := qr hb4 hcz1; have hcz2 := qr hb4 hcz2; have hbz0 := qr hb4 hbz0; have hbz1 := qr hb4 hbz1; have hbz2 := qr hb4 hbz2))
 have HBW := Lib.hid (HB.out.trans (HB4.out.mono HB.out.size))
 have HLW := Lib.hid (Kd.zi HL.out HB4.out)
 have HX2 := Lib.hid ((HB4.out.block _ (qw HC2.out)).trans HC2.out)
 clear HL HB HB2 HB3 HBR hb2 hb3 hb4 HC0 HC1 HC2 hlb0 hlb1 hlen H_IsCity H_isBlock H_isClosed HSZ
 have HBW := HBW
 clear HB4
 generalize w4 = W0 at hcz0 hcz1 hcz2 hbz0 hbz1 hbz2 HBW HLW HX2 ⊢
 refine jd (n := 13) (S := fun w' => Below W0.heap.size W0 w') (ds := []) #[false, false, false, false, false, false, false, false, false, false, false, false, false] (by kernel_rfl) rfl rfl (qh (Below.refl W0.heap.size W0)) (fun hHeld => ?_); refine zx impl_CloseBlock.tab3 impl_CloseBlock.bits3 (fun HT_ HW_ => ?_)
 generalize W0.drew = wX at hHeld ⊢
 refine pure_ (i := 0) (N := some 28) (v := ?_) (a' := ?_) #[true, false, false, false, false, false, false, false, false, false, false, false, false] rfl rfl (qt HT_.out (by kernel_rfl)) (fun _ _ _ h => h) (Or.inl ⟨by rfl, ?_⟩) ?_ ?_
 rotate_left
 ·intro w'
  go_simp
  with_reducible rfl
 rotate_left
 ·simp only [Act.put, sA_, sB_, sC_, i64_w, i32_w]
  rfl
 refine pure_ (i := 2) (N := some 30) (v := ?_) (a' := ?_) #[true, false, true, false, false, false, false, false, false, false, false, false, false] rfl rfl (qt HT_.out (by kernel_rfl)) (fun _ _ _ h => h) (Or.inl ⟨by rfl, ?_⟩) ?_ ?_
 rotate_left
 ·intro w'
  go_simp
  with_reducible rfl
 rotate_left
 ·simp only [Act.put, sA_, sB_, sC_, i64_w, i32_w]
  rfl
 refine pure_ (i := 4) (N := some 32) (v := ?_) (a' := ?_) #[true, false, true, false, true, false, false, false, false, false, false, false, false] rfl rfl (qt HT_.out (by kernel_rfl)) (fun _ _ _ h => h) (Or.inl ⟨by rfl, ?_⟩) ?_ ?_
 rotate_left
 ·intro w'
  go_simp
  with_reducible rfl
 rotate_left
 ·simp only [Act.put, sA_, sB_, sC_, i64_w, i32_w]
  rfl
 refine take_ (i := 1) (N := some 29) (v := ?_) (a' := ?_) #[true, true, true, false, true, false, false, false, false, false, false, false, false] rfl rfl (ze HT_.out HW_.out (by kernel_rfl)) (fun _ _ _ h => h) (Or.inl ⟨by rfl, ?_⟩) hHeld ?_ ?_
 rotate_left
 ·intro w' hS_
  have s0 := qr hS_ hcz0; have s1 := qr hS_ hcz1; have s2 := qr hS_ hcz2; have s3 := qr hS_ hbz0; have s4 := qr hS_ hbz1; have s5 := qr hS_ hbz2
  go_simp
  with_reducible rfl
 rotate_left
 ·simp only [Act.put, sA_, sB_, sC_, i64_w, i32_w]
  rfl
 refine take_ (i := 3) (N := some 31) (v := ?_) (a' := ?_) #[true, true, true, true, true, false, false, false, false, false, false, false, false] rfl rfl (ze HT_.out HW_.out (by kernel_rfl)) (fun _ _ _ h => h) (Or.inl ⟨by rfl, ?_⟩) hHeld ?_ ?_
 rotate_left
 ·intro w' hS_
  have s0 := qr hS_ hcz0; have s1 := qr hS_ hcz1; have s2 := qr hS_ hcz2; have s3 := qr hS_ hbz0; have s4 := qr hS_ hbz1; have s5 := qr hS_ hbz2
  go_simp
  with_reducible rfl
 rotate_left
 ·simp only [Act.put, sA_, sB_, sC_, i64_w, i32_w]
  rfl
 refine take_ (i := 5) (N := some 33) (v := ?_) (a' := ?_) #[true, true, true, true, true, true, false, false, false, false, false, false, false] rfl rfl (ze HT_.out HW_.out (by kernel_rfl)) (fun _ _ _ h => h) (Or.inl ⟨by rfl, ?_⟩) hHeld ?_ ?_
 rotate_left
 ·intro w' hS_
  have s0 := qr hS_ hcz0; have s1 := qr hS_ hcz1; have s2 := qr hS_ hcz2; have s3 := qr hS_ hbz0; have s4 := qr hS_ hbz1; have s5 := qr hS_ hbz2
  go_simp
  with_reducible rfl
 rotate_left
 ·simp only [Act.put, sA_, sB_, sC_, i64_w, i32_w]
  rfl
 refine take_ (i := 7) (N := some 35) (v := ?_) (a' := ?_) #[true, true, true, true, true, true, false, true, false, false, false, false, false] rfl rfl (ze HT_.out HW_.out (by kernel_rfl)) (fun _ _ _ h => h) (Or.inl ⟨by rfl, ?_⟩) hHeld ?_ ?_
 rotate_left
 ·intro w' hS_
  have s0 := qr hS_ hcz0; have s1 := qr hS_ hcz1; have s2 := qr hS_ hcz2; have s3 := qr hS_ hbz0; have s4 := qr hS_ hbz1; have s5 := qr hS_ hbz2
  go_simp
  with_reducible rfl
 rotate_left
 ·simp only [Act.put, sA_, sB_, sC_, i64_w, i32_w]
  rfl
 refine join_ (σ := Value × Value × Value × Nat) 1 #[true, true, true, true, true, true, true, true, true, true, true, true, false] (fun s_ => [(34, s_.1), (36, s_.2.1), (37, s_.2.2.1), (6, .pointer (some ⟨s_.2.2.2, 0, none⟩)), (38, .agg #[.int .i64 a0_0, .int .i64 a0_1, s_.2.2.1])]) (fun s_ w' => (Below W0.heap.size W0 w') ∧ (Kd.R k58 58 w' W0.heap.size (fun _ => True) s_.2.2.1 ys) ∧ (W0.heap.size ≤ s_.2.2.2) ∧ (w'.heap[s_.2.2.2]? = some (.cells #[.int .i64 0, .int .i64 0, .slice none 0 0] 31 (0, 0)))) ?_ ?_
 rotate_left
 ·intro hJCSAL
  refine join_ (σ := Value × Value × Value) 2 #[true, true, true, true, true, true, true, true, true, true, true, false, false] (fun s_ => [(34, s_.1), (36, s_.2.1), (37, s_.2.2), (38, .agg #[.int .i64 a0_0, .int .i64 a0_1, s_.2.2])]) (fun s_ w' => (Below W0.heap.size W0 w') ∧ (Kd.R k58 58 w' W0.heap.size (fun _ => True) s_.2.2 ys)) ?_ ?_
  rotate_left
  ·intro hJCSA
   refine join_ (σ := Value × Value × Nat) 3 #[true, true, true, true, true, true, true, true, true, false, false, true, false] (fun s_ => [(34, s_.1), (36, s_.2.1), (6, .pointer (some ⟨s_.2.2, 0, none⟩))]) (fun s_ w' => (Below W0.heap.size W0 w') ∧ (Kd.R k58 58 w' W0.heap.size (fun _ => True) s_.1 l) ∧ (Kd.R k58 58 w' W0.heap.size (fun _ => True) s_.2.1 [(⟨a1_0, a1_1, a1_2⟩ : S58)]) ∧ (W0.heap.size ≤ s_.2.2) ∧ (w'.heap[s_.2.2]? = some (.cells #[.int .i64 0, .int .i64 0, .slice none 0 0] 31 (0, 0)))) ?_ ?_
   rotate_left
   ·intro hJCSL
    refine join_ (σ := Value × Nat) 4 #[true, true, true, true, true, true, false, true, true, false, false, true, false] (fun s_ => [(36, s_.1), (6, .pointer (some ⟨s_.2, 0, none⟩))]) (fun s_ w' => (Below W0.heap.size W0 w') ∧ (Kd.R k58 58 w' W0.heap.size (fun _ => True) s_.1 [(⟨a1_0, a1_1, a1_2⟩ : S58)]) ∧ (W0.heap.size ≤ s_.2) ∧ (w'.heap[s_.2]? = some (.cells #[.int .i64 0, .int .i64 0, .slice none 0 0] 31 (0, 0)))) ?_ ?_
    rotate_left
    ·intro hJSL
     refine join_ (σ := Value × Nat) 4 #[true, true, true, true, true, true, true, true, false, false, false, true, false] (fun s_ => [(34, s_.1), (6, .pointer (some ⟨s_.2, 0, none⟩))]) (fun s_ w' => (Below W0.heap.size W0 w') ∧ (Kd.R k58 58 w' W0.heap.size (fun _ => True) s_.1 l) ∧ (W0.heap.size ≤ s_.2) ∧ (w'.heap[s_.2]? = some (.cells #[.int .i64 0, .int .i64 0, .slice none 0 0] 31 (0, 0)))) ?_ ?_
     rotate_left
     ·intro hJCL
      refine join_ (σ := Value × Value) 4 #[true, true, true, true, true, true, true, true, true, false, false, false, false] (fun s_ => [(34, s_.1), (36, s_.2)]) (fun s_ w' => (Below W0.heap.size W0 w') ∧ (Kd.R k58 58 w' W0.heap.size (fun _ => True) s_.1 l) ∧ (Kd.R k58 58 w' W0.heap.size (fun _ => True) s_.2 [(⟨a1_0, a1_1, a1_2⟩ : S58)])) ?_ ?_
      rotate_left
      ·intro hJCS
       refine join_ (σ := Nat) 5 #[true, true, true, true, true, true, false, true, false, false, false, true, false] (fun s_ => [(6, .pointer (some ⟨s_, 0, none⟩))]) (fun s_ w' => (Below W0.heap.size W0 w') ∧ (W0.heap.size ≤ s_) ∧ (w'.heap[s_]? = some (.cells #[.int .i64 0, .int .i64 0, .slice none 0 0] 31 (0, 0)))) ?_ ?_
       rotate_left
       ·intro hJL
        refine join_ (σ := Value) 5 #[true, true, true, true, true, true, false, true, true, false, false, false, false] (fun s_ => [(36, s_)]) (fun s_ w' => (Below W0.heap.size W0 w') ∧ (Kd.R k58 58 w' W0.heap.size (fun _ => True) s_ [(⟨a1_0, a1_1, a1_2⟩ : S58)])) ?_ ?_
        rotate_left
        ·intro hJS
         refine join_ (σ := Value) 5 #[true, true, true, true, true, true, true, true, false, false, false, false, false] (fun s_ => [(34, s_)]) (fun s_ w' => (Below W0.heap.size W0 w') ∧ (Kd.R k58 58 w' W0.heap.size (fun _ => True) s_ l)) ?_ ?_
         rotate_left
         ·intro hJC
          refine three_ (i := 6) (j := 8) (k := 11) (Ni := some 34) (Nj := some 36) (Nk := some 6) #[true, true, true, true, true, true, true, true, false, false, false, false, false] #[true, true, true, true, true, true, false, true, true, false, false, false, false] #[true, true, true, true, true, true, false, true, false, false, false, true, false] rfl rfl rfl rfl rfl rfl (three_of HT_.out (by kernel_rfl)) (by decide) (by decide) (by decide) (fun K hK => ?_) (fun K hK => ?_) (fun K hK => ?_)
          ·skip
           refine goes_ Try.func55 (by kernel_rfl) rfl #[.slice A0_2 l0_2.length c0_2] (by rfl) rfl rfl (by (try simp only [List.map_toArray, List.map_cons, List.map_nil]); first | done | rfl | (simp only [List.length_drop, List.length_take]; rfl)) ?_
           with_reducible refine (impl_Block_55.calls _ _ l0_2 l _ (Kd.zi HLW.out hHeld) hc0_2 HCL.out).mono ?_
           rintro e w9 ⟨vC, rfl, ho, hb⟩
           refine ⟨_, rfl, ?_⟩
           have nC := Kd.zb (Kd.zq ho hHeld.size) (fun _ _ => trivial)
           have hB2 := zu hHeld hHeld.size hb
           refine hK.out _ _ hB2 (fun hHeld => ?_)
           clear hK K
           refine norm_ (a' := ?_) ?_ ?_
           rotate_left
           ·show Act.put _ (some 34) _ = _
            simp only [Act.put, sA_, sB_, sC_, i64_w, i32_w]
            rfl
           exact norm_ (by first | (simp only [zm, Act.put, sA_, sB_, sC_]; done) | (simp only [zm, Act.put, sA_, sB_, sC_]; rfl)) (hJC vC _ ⟨hB2, nC⟩)
          ·skip
           refine Kd.R_lit_step k58 _ 58 ?hg (N := 36) ?hd (xs := ([(⟨a1_0, a1_1, a1_2⟩ : S58)] : List (S58))) (inner := [.int .i64 a1_0, .int .i64 a1_1, .bool a1_2]) (ok := fun _ => True) (okp := fun _ => True) ?hr ?hp (fun _ hk => hk) trivial (Below.refl _ _) (Nat.le_refl _) (by simp) ?_; (case hd => rfl); (case hg => rfl); (case hr => first | (go_simp; done) | (go_simp; rfl)); (case hp => exact (Reps.c3 (show Kd.M k58 _ _ _ (⟨a1_0, a1_1, a1_2⟩ : S58) [.int .i64 a1_0, .int .i64 a1_1, .bool a1_2] from (k58_mkM _ _ _ (⟨a1_0, a1_1, a1_2⟩ : S58))) (Reps.none _ _)))
           intro vS w9 ho hb hg_ hnew_
           clear hg_ hnew_
           have nS := Kd.zq ho hHeld.size
           have hB2 := zu hHeld hHeld.size hb
           refine hK.out _ _ hB2 (fun hHeld => ?_)
           clear hK K
           refine norm_ (a' := ?_) ?_ ?_
           rotate_left
           ·show Act.put _ (some 36) _ = _
            simp only [Act.put, sA_, sB_, sC_, i64_w, i32_w]
            rfl
           exact norm_ (by first | (simp only [zm, Act.put, sA_, sB_, sC_]; done) | (simp only [zm, Act.put, sA_, sB_, sC_]; rfl)) (hJS vS _ ⟨hB2, nS⟩)
          ·skip
           refine box_step ?hg (N := 6) ?hd (cs := #[.int .i64 0, .int .i64 0, .slice none 0 0]) (t := 31) ?hr ?_; (case hd => rfl); (case hg => rfl); (case hr => first | (go_simp; done) | (go_simp; rfl))
           intro gL hgq w9 nbL hb
           have ngL : W0.heap.size ≤ gL := by rw [hgq]; exact hHeld.size
           have hB2 := zu hHeld hHeld.size hb
           refine hK.out _ _ hB2 (fun hHeld => ?_)
           clear hK K
           refine norm_ (a' := ?_) ?_ ?_
           rotate_left
           ·show Act.put _ (some 6) _ = _
            simp only [Act.put, sA_, sB_, sC_, i64_w, i32_w]
            rfl
           exact norm_ (by first | (simp only [zm, Act.put, sA_, sB_, sC_]; done) | (simp only [zm, Act.put, sA_, sB_, sC_]; rfl)) (hJL gL _ ⟨hB2, ngL, nbL⟩)
         ·skip
          clear hHeld
          rintro vC w8 ⟨hHeld, hC⟩
          refine norm_ (a' := ?_) ?_ ?_
          rotate_left
          ·simp only [zm, Act.put, sA_, sB_, sC_]
           rfl
          refine two_ (i := 8) (j := 11) (Ni := some 36) (Nj := some 6) #[true, true, true, true, true, true, true, true, true, false, false, false, false] #[true, true, true, true, true, true, true, true, false, false, false, true, false] rfl rfl rfl rfl (two_of HT_.out (by kernel_rfl)) (by decide) (by decide) (fun K hK => ?_) (fun K hK => ?_)
          ·skip
           refine Kd.R_lit_step k58 _ 58 ?hg (N := 36) ?hd (xs := ([(⟨a1_0, a1_1, a1_2⟩ : S58)] : List (S58))) (inner := [.int .i64 a1_0, .int .i64 a1_1, .bool a1_2]) (ok := fun _ => True) (okp := fun _ => True) ?hr ?hp (fun _ hk => hk) trivial (Below.refl _ _) (Nat.le_refl _) (by simp) ?_; (case hd => rfl); (case hg => rfl); (case hr => first | (go_simp; done) | (go_simp; rfl)); (case hp => exact (Reps.c3 (show Kd.M k58 _ _ _ (⟨a1_0, a1_1, a1_2⟩ : S58) [.int .i64 a1_0, .int .i64 a1_1, .bool a1_2] from (k58_mkM _ _ _ (⟨a1_0, a1_1, a1_2⟩ : S58))) (Reps.none _ _)))
           intro vS w9 ho hb hg_ hnew_
           clear hg_ hnew_
           have nS := Kd.zq ho hHeld.size
           have hB2 := zu hHeld hHeld.size hb
           have nC := Kd.qy hC hb
           refine hK.out _ _ hB2 (fun hHeld => ?_)
           clear hK K
           refine norm_ (a' := ?_) ?_ ?_
           rotate_left
           ·show Act.put _ (some 36) _ = _
            simp only [Act.put, sA_, sB_, sC_, i64_w, i32_w]
            rfl
           exact norm_ (by first | (simp only [zm, Act.put, sA_, sB_, sC_]; done) | (simp only [zm, Act.put, sA_, sB_, sC_]; rfl)) (hJCS ⟨vC, vS⟩ _ ⟨hB2, nC, nS⟩)
          ·skip
           refine box_step ?hg (N := 6) ?hd (cs := #[.int .i64 0, .int .i64 0, .slice none 0 0]) (t := 31) ?hr ?_; (case hd => rfl); (case hg => rfl); (case hr => first | (go_simp; done) | (go_simp; rfl))
           intro gL hgq w9 nbL hb
           have ngL : W0.heap.size ≤ gL := by rw [hgq]; exact hHeld.size
           have hB2 := zu hHeld hHeld.size hb
           have nC := Kd.qy hC hb
           refine hK.out _ _ hB2 (fun hHeld => ?_)
           clear hK K
           refine norm_ (a' := ?_) ?_ ?_
           rotate_left
           ·show Act.put _ (some 6) _ = _
            simp only [Act.put, sA_, sB_, sC_, i64_w, i32_w]
            rfl
           exact norm_ (by first | (simp only [zm, Act.put, sA_, sB_, sC_]; done) | (simp only [zm, Act.put, sA_, sB_, sC_]; rfl)) (hJCL ⟨vC, gL⟩ _ ⟨hB2, nC, ngL, nbL⟩)
        ·skip
         clear hHeld
         rintro vS w8 ⟨hHeld, hS⟩
         refine norm_ (a' := ?_) ?_ ?_
         rotate_left
         ·simp only [zm, Act.put, sA_, sB_, sC_]
          rfl
         refine two_ (i := 6) (j := 11) (Ni := some 34) (Nj := some 6) #[true, true, true, true, true, true, true, true, true, false, false, false, false] #[true, true, true, true, true, true, false, true, true, false, false, true, false] rfl rfl rfl rfl (two_of HT_.out (by kernel_rfl)) (by decide) (by decide) (fun K hK => ?_) (fun K hK => ?_)
         ·skip
          refine goes_ Try.func55 (by kernel_rfl) rfl #[.slice A0_2 l0_2.length c0_2] (by rfl) rfl rfl (by (try simp only [List.map_toArray, List.map_cons, List.map_nil]); first | done | rfl | (simp only [List.length_drop, List.length_take]; rfl)) ?_
          with_reducible refine (impl_Block_55.calls _ _ l0_2 l _ (Kd.zi HLW.out hHeld) hc0_2 HCL.out).mono ?_
          rintro e w9 ⟨vC, rfl, ho, hb⟩
          refine ⟨_, rfl, ?_⟩
          have nC := Kd.zb (Kd.zq ho hHeld.size) (fun _ _ => trivial)
          have hB2 := zu hHeld hHeld.size hb
          have nS := Kd.qy hS hb
          refine hK.out _ _ hB2 (fun hHeld => ?_)
          clear hK K
          refine norm_ (a' := ?_) ?_ ?_
          rotate_left
          ·show Act.put _ (some 34) _ = _
           simp only [Act.put, sA_, sB_, sC_, i64_w, i32_w]
           rfl
          exact norm_ (by first | (simp only [zm, Act.put, sA_, sB_, sC_]; done) | (simp only [zm, Act.put, sA_, sB_, sC_]; rfl)) (hJCS ⟨vC, vS⟩ _ ⟨hB2, nC, nS⟩)
         ·skip
          refine box_step ?hg (N := 6) ?hd (cs := #[.int .i64 0, .int .i64 0, .slice none 0 0]) (t := 31) ?hr ?_; (case hd => rfl); (case hg => rfl); (case hr => first | (go_simp; done) | (go_simp; rfl))
          intro gL hgq w9 nbL hb
          have ngL : W0.heap.size ≤ gL := by rw [hgq]; exact hHeld.size
          have hB2 := zu hHeld hHeld.size hb
          have nS := Kd.qy hS hb
          refine hK.out _ _ hB2 (fun hHeld => ?_)
          clear hK K
          refine norm_ (a' := ?_) ?_ ?_
          rotate_left
          ·show Act.put _ (some 6) _ = _
           simp only [Act.put, sA_, sB_, sC_, i64_w, i32_w]
           rfl
          exact norm_ (by first | (simp only [zm, Act.put, sA_, sB_, sC_]; done) | (simp only [zm, Act.put, sA_, sB_, sC_]; rfl)) (hJSL ⟨vS, gL⟩ _ ⟨hB2, nS, ngL, nbL⟩)
       ·skip
        clear hHeld
        rintro gL w8 ⟨hHeld, hgL, hbL⟩
        refine norm_ (a' := ?_) ?_ ?_
        rotate_left
        ·simp only [zm, Act.put, sA_, sB_, sC_]
         rfl
        refine two_ (i := 6) (j := 8) (Ni := some 34) (Nj := some 36) #[true, true, true, true, true, true, true, true, false, false, false, true, false] #[true, true, true, true, true, true, false, true, true, false, false, true, false] rfl rfl rfl rfl (two_of HT_.out (by kernel_rfl)) (by decide) (by decide) (fun K hK => ?_) (fun K hK => ?_)
        ·skip
         refine goes_ Try.func55 (by kernel_rfl) rfl #[.slice A0_2 l0_2.length c0_2] (by rfl) rfl rfl (by (try simp only [List.map_toArray, List.map_cons, List.map_nil]); first | done | rfl | (simp only [List.length_drop, List.length_take]; rfl)) ?_
         with_reducible refine (impl_Block_55.calls _ _ l0_2 l _ (Kd.zi HLW.out hHeld) hc0_2 HCL.out).mono ?_
         rintro e w9 ⟨vC, rfl, ho, hb⟩
         refine ⟨_, rfl, ?_⟩
         have nC := Kd.zb (Kd.zq ho hHeld.size) (fun _ _ => trivial)
         have hB2 := zu hHeld hHeld.size hb
         have nbL := (hb.block _ (qw hbL)).trans hbL
         have ngL := hgL
         refine hK.out _ _ hB2 (fun hHeld => ?_)
         clear hK K
         refine norm_ (a' := ?_) ?_ ?_
         rotate_left
         ·show Act.put _ (some 34) _ = _
          simp only [Act.put, sA_, sB_, sC_, i64_w, i32_w]
          rfl
         exact norm_ (by first | (simp only [zm, Act.put, sA_, sB_, sC_]; done) | (simp only [zm, Act.put, sA_, sB_, sC_]; rfl)) (hJCL ⟨vC, gL⟩ _ ⟨hB2, nC, ngL, nbL⟩)
        ·skip
         refine Kd.R_lit_step k58 _ 58 ?hg (N := 36) ?hd (xs := ([(⟨a1_0, a1_1, a1_2⟩ : S58)] : List (S58))) (inner := [.int .i64 a1_0, .int .i64 a1_1, .bool a1_2]) (ok := fun _ => True) (okp := fun _ => True) ?hr ?hp (fun _ hk => hk) trivial (Below.refl _ _) (Nat.le_refl _) (by simp) ?_; (case hd => rfl); (case hg => rfl); (case hr => first | (go_simp; done) | (go_simp; rfl)); (case hp => exact (Reps.c3 (show Kd.M k58 _ _ _ (⟨a1_0, a1_1, a1_2⟩ : S58) [.int .i64 a1_0, .int .i64 a1_1, .bool a1_2] from (k58_mkM _ _ _ (⟨a1_0, a1_1, a1_2⟩ : S58))) (Reps.none _ _)))
         intro vS w9 ho hb hg_ hnew_
         clear hg_ hnew_
         have nS := Kd.zq ho hHeld.size
         have hB2 := zu hHeld hHeld.size hb
         have nbL := (hb.block _ (qw hbL)).trans hbL
         have ngL := hgL
         refine hK.out _ _ hB2 (fun hHeld => ?_)
         clear hK K
         refine norm_ (a' := ?_) ?_ ?_
         rotate_left
         ·show Act.put _ (some 36) _ = _
          simp only [Act.put, sA_, sB_, sC_, i64_w, i32_w]
          rfl
         exact norm_ (by first | (simp only [zm, Act.put, sA_, sB_, sC_]; done) | (simp only [zm, Act.put, sA_, sB_, sC_]; rfl)) (hJSL ⟨vS, gL⟩ _ ⟨hB2, nS, ngL, nbL⟩)
      ·skip
       clear hHeld
       rintro ⟨vC, vS⟩ w8 ⟨hHeld, hC, hS⟩
       obtain ⟨AS, cS, eS⟩ := Kd.zy hS
       subst eS
       refine norm_ (a' := ?_) ?_ ?_
       rotate_left
       ·simp only [zm, Act.put, sA_, sB_, sC_]
        rfl
       refine two_ (i := 9) (j := 11) (Ni := some 37) (Nj := some 6) #[true, true, true, true, true, true, true, true, true, true, false, false, false] #[true, true, true, true, true, true, true, true, true, false, false, true, false] rfl rfl rfl rfl (two_of HT_.out (by kernel_rfl)) (by decide) (by decide) (fun K hK => ?_) (fun K hK => ?_)
       ·skip
        refine Kd.R_append_rows_step k58 (w0 := W0) W0.heap.size (by rfl) (.tmp 34) (.tmp 36) 29 58 (.agg #[(.int .i64 0), (.int .i64 0), (.bool false)]) 24 rfl Try.underlying29 info58 rfl (by decide) (by omega) vC l [(⟨a1_0, a1_1, a1_2⟩ : S58)] _ _ _ (fun _ => True) (fun _ => False) rfl rfl hC (Kd.za hS).2.2 (fun _ _ h => h) (fun _ h => h.elim) (fun _ _ => trivial) hHeld hHeld.size (by have := HLN.out; simp only [List.length_cons, List.length_nil] at *; omega) ?_
        intro vA w9 nA hB2 hg hat
        clear hat
        rw [← HYS.out] at nA
        obtain ⟨AA, cA, eA⟩ := Kd.zy nA
        subst eA
        refine hK.out _ _ hB2 (fun hHeld => ?_)
        clear hK K
        refine norm_ (a' := ?_) ?_ ?_
        rotate_left
        ·show Act.put _ (some 37) _ = _
         simp only [Act.put, sA_, sB_, sC_, i64_w, i32_w]
         rfl
        refine pure_ (i := 10) (N := some 38) (v := ?_) (a' := ?_) #[true, true, true, true, true, true, true, true, true, true, true, false, false] rfl rfl (qt HT_.out (by kernel_rfl)) (fun _ _ _ h => h) (Or.inl ⟨by rfl, ?_⟩) ?_ ?_
        rotate_left
        ·intro w'
         go_simp
         with_reducible rfl
        rotate_left
        ·simp only [Act.put, sA_, sB_, sC_, i64_w, i32_w]
         rfl
        exact norm_ (by first | (simp only [zm, Act.put, sA_, sB_, sC_]; done) | (simp only [zm, Act.put, sA_, sB_, sC_]; rfl)) (hJCSA ⟨vC, (.slice AS [(⟨a1_0, a1_1, a1_2⟩ : S58)].length cS : Value), (.slice AA ys.length cA : Value)⟩ _ ⟨hB2, nA⟩)
       ·skip
        refine box_step ?hg (N := 6) ?hd (cs := #[.int .i64 0, .int .i64 0, .slice none 0 0]) (t := 31) ?hr ?_; (case hd => rfl); (case hg => rfl); (case hr => first | (go_simp; done) | (go_simp; rfl))
        intro gL hgq w9 nbL hb
        have ngL : W0.heap.size ≤ gL := by rw [hgq]; exact hHeld.size
        have hB2 := zu hHeld hHeld.size hb
        have nC := Kd.qy hC hb
        have nS := Kd.qy hS hb
        refine hK.out _ _ hB2 (fun hHeld => ?_)
        clear hK K
        refine norm_ (a' := ?_) ?_ ?_
        rotate_left
        ·show Act.put _ (some 6) _ = _
         simp only [Act.put, sA_, sB_, sC_, i64_w, i32_w]
         rfl
        exact norm_ (by first | (simp only [zm, Act.put, sA_, sB_, sC_]; done) | (simp only [zm, Act.put, sA_, sB_, sC_]; rfl)) (hJCSL ⟨vC, (.slice AS [(⟨a1_0, a1_1, a1_2⟩ : S58)].length cS : Value), gL⟩ _ ⟨hB2, nC, nS, ngL, nbL⟩)
     ·skip
      clear hHeld
      rintro ⟨vC, gL⟩ w8 ⟨hHeld, hC, hgL, hbL⟩
      refine norm_ (a' := ?_) ?_ ?_
      rotate_left
      ·simp only [zm, Act.put, sA_, sB_, sC_]
       rfl
      refine one_ (i := 8) (N := some 36) #[true, true, true, true, true, true, true, true, true, false, false, true, false] rfl rfl (zl HT_.out (by kernel_rfl)) (by decide) (fun K hK => ?_)
      ·skip
       refine Kd.R_lit_step k58 _ 58 ?hg (N := 36) ?hd (xs := ([(⟨a1_0, a1_1, a1_2⟩ : S58)] : List (S58))) (inner := [.int .i64 a1_0, .int .i64 a1_1, .bool a1_2]) (ok := fun _ => True) (okp := fun _ => True) ?hr ?hp (fun _ hk => hk) trivial (Below.refl _ _) (Nat.le_refl _) (by simp) ?_; (case hd => rfl); (case hg => rfl); (case hr => first | (go_simp; done) | (go_simp; rfl)); (case hp => exact (Reps.c3 (show Kd.M k58 _ _ _ (⟨a1_0, a1_1, a1_2⟩ : S58) [.int .i64 a1_0, .int .i64 a1_1, .bool a1_2] from (k58_mkM _ _ _ (⟨a1_0, a1_1, a1_2⟩ : S58))) (Reps.none _ _)))
       intro vS w9 ho hb hg_ hnew_
       clear hg_ hnew_
       have nS := Kd.zq ho hHeld.size
       have hB2 := zu hHeld hHeld.size hb
       have nC := Kd.qy hC hb
       have nbL := (hb.block _ (qw hbL)).trans hbL
       have ngL := hgL
       refine hK.out _ _ hB2 (fun hHeld => ?_)
       clear hK K
       refine norm_ (a' := ?_) ?_ ?_
       rotate_left
       ·show Act.put _ (some 36) _ = _
        simp only [Act.put, sA_, sB_, sC_, i64_w, i32_w]
        rfl
       exact norm_ (by first | (simp only [zm, Act.put, sA_, sB_, sC_]; done) | (simp only [zm, Act.put, sA_, sB_, sC_]; rfl)) (hJCSL ⟨vC, vS, gL⟩ _ ⟨hB2, nC, nS, ngL, nbL⟩)
    ·skip
     clear hHeld
     rintro ⟨vS, gL⟩ w8 ⟨hHeld, hS, hgL, hbL⟩
     refine norm_ (a' := ?_) ?_ ?_
     rotate_left
     ·simp only [zm, Act.put, sA_, sB_, sC_]
      rfl
     refine one_ (i := 6) (N := some 34) #[true, true, true, true, true, true, true, true, true, false, false, true, false] rfl rfl (zl HT_.out (by kernel_rfl)) (by decide) (fun K hK => ?_)
     ·skip
      refine goes_ Try.func55 (by kernel_rfl) rfl #[.slice A0_2 l0_2.length c0_2] (by rfl) rfl rfl (by (try simp only [List.map_toArray, List.map_cons, List.map_nil]); first | done | rfl | (simp only [List.length_drop, List.length_take]; rfl)) ?_
      with_reducible refine (impl_Block_55.calls _ _ l0_2 l _ (Kd.zi HLW.out hHeld) hc0_2 HCL.out).mono ?_
      rintro e w9 ⟨vC, rfl, ho, hb⟩
      refine ⟨_, rfl, ?_⟩
      have nC := Kd.zb (Kd.zq ho hHeld.size) (fun _ _ => trivial)
      have hB2 := zu hHeld hHeld.size hb
      have nS := Kd.qy hS hb
      have nbL := (hb.block _ (qw hbL)).trans hbL
      have ngL := hgL
      refine hK.out _ _ hB2 (fun hHeld => ?_)
      clear hK K
      refine norm_ (a' := ?_) ?_ ?_
      rotate_left
      ·show Act.put _ (some 34) _ = _
       simp only [Act.put, sA_, sB_, sC_, i64_w, i32_w]
       rfl
      exact norm_ (by first | (simp only [zm, Act.put, sA_, sB_, sC_]; done) | (simp only [zm, Act.put, sA_, sB_, sC_]; rfl)) (hJCSL ⟨vC, vS, gL⟩ _ ⟨hB2, nC, nS, ngL, nbL⟩)
   ·skip
    clear hHeld
    rintro ⟨vC, vS, gL⟩ w8 ⟨hHeld, hC, hS, hgL, hbL⟩
    obtain ⟨AS, cS, eS⟩ := Kd.zy hS
    subst eS
    refine norm_ (a' := ?_) ?_ ?_
    rotate_left
    ·simp only [zm, Act.put, sA_, sB_, sC_]
     rfl
    refine one_ (i := 9) (N := some 37) #[true, true, true, true, true, true, true, true, true, true, false, true, false] rfl rfl (zl HT_.out (by kernel_rfl)) (by decide) (fun K hK => ?_)
    ·skip
     refine Kd.R_append_rows_step k58 (w0 := W0) W0.heap.size (by rfl) (.tmp 34) (.tmp 36) 29 58 (.agg #[(.int .i64 0), (.int .i64 0), (.bool false)]) 24 rfl Try.underlying29 info58 rfl (by decide) (by omega) vC l [(⟨a1_0, a1_1, a1_2⟩ : S58)] _ _ _ (fun _ => True) (fun _ => False) rfl rfl hC (Kd.za hS).2.2 (fun _ _ h => h) (fun _ h => h.elim) (fun _ _ => trivial) hHeld hHeld.size (by have := HLN.out; simp only [List.length_cons, List.length_nil] at *; omega) ?_
     intro vA w9 nA hB2 hg hat
     clear hat
     rw [← HYS.out] at nA
     have nbL := zo hbL hg (Kd.R_ne hC hbL (by decide))
     have ngL := hgL
     obtain ⟨AA, cA, eA⟩ := Kd.zy nA
     subst eA
     refine hK.out _ _ hB2 (fun hHeld => ?_)
     clear hK K
     refine norm_ (a' := ?_) ?_ ?_
     rotate_left
     ·show Act.put _ (some 37) _ = _
      simp only [Act.put, sA_, sB_, sC_, i64_w, i32_w]
      rfl
     refine pure_ (i := 10) (N := some 38) (v := ?_) (a' := ?_) #[true, true, true, true, true, true, true, true, true, true, true, true, false] rfl rfl (qt HT_.out (by kernel_rfl)) (fun _ _ _ h => h) (Or.inl ⟨by rfl, ?_⟩) ?_ ?_
     rotate_left
     ·intro w'
      go_simp
      with_reducible rfl
     rotate_left
     ·simp only [Act.put, sA_, sB_, sC_, i64_w, i32_w]
      rfl
     exact norm_ (by first | (simp only [zm, Act.put, sA_, sB_, sC_]; done) | (simp only [zm, Act.put, sA_, sB_, sC_]; rfl)) (hJCSAL ⟨vC, (.slice AS [(⟨a1_0, a1_1, a1_2⟩ : S58)].length cS : Value), (.slice AA ys.length cA : Value), gL⟩ _ ⟨hB2, nA, ngL, nbL⟩)
  ·skip
   clear hHeld
   rintro ⟨vC, vS, vA⟩ w8 ⟨hHeld, hA⟩
   refine norm_ (a' := ?_) ?_ ?_
   rotate_left
   ·simp only [zm, Act.put, sA_, sB_, sC_]
    rfl
   refine one_ (i := 11) (N := some 6) #[true, true, true, true, true, true, true, true, true, true, true, true, false] rfl rfl (zl HT_.out (by kernel_rfl)) (by decide) (fun K hK => ?_)
   ·skip
    refine box_step ?hg (N := 6) ?hd (cs := #[.int .i64 0, .int .i64 0, .slice none 0 0]) (t := 31) ?hr ?_; (case hd => rfl); (case hg => rfl); (case hr => first | (go_simp; done) | (go_simp; rfl))
    intro gL hgq w9 nbL hb
    have ngL : W0.heap.size ≤ gL := by rw [hgq]; exact hHeld.size
    have hB2 := zu hHeld hHeld.size hb
    have nA := Kd.qy hA hb
    refine hK.out _ _ hB2 (fun hHeld => ?_)
    clear hK K
    refine norm_ (a' := ?_) ?_ ?_
    rotate_left
    ·show Act.put _ (some 6) _ = _
     simp only [Act.put, sA_, sB_, sC_, i64_w, i32_w]
     rfl
    exact norm_ (by first | (simp only [zm, Act.put, sA_, sB_, sC_]; done) | (simp only [zm, Act.put, sA_, sB_, sC_]; rfl)) (hJCSAL ⟨vC, vS, vA, gL⟩ _ ⟨hB2, nA, ngL, nbL⟩)
 ·skip
  clear hHeld
  rintro ⟨vC, vS, vA, gL⟩ w8 ⟨hHeld, hA, hgL, hbL⟩
  obtain ⟨AZ, cZ, eZ⟩ := Kd.zy hA
  subst eZ
  refine norm_ (a' := ?_) ?_ ?_
  rotate_left
  ·simp only [zm, Act.put, sA_, sB_, sC_]
   rfl
  refine one_ (i := 12) (N := none) #[true, true, true, true, true, true, true, true, true, true, true, true, true] rfl rfl (zl HT_.out (by kernel_rfl)) (by decide) (fun K hK => ?_)
  have hz0 : w8.cell? ⟨gL, 0, none⟩ = some (.int .i64 0) := (qf hbL 0).trans rfl
  have hf0 := qj hbL 0
  have hz1 : w8.cell? ⟨gL, 1, none⟩ = some (.int .i64 0) := (qf hbL 1).trans rfl
  have hf1 := qj hbL 1
  have hz2 : w8.cell? ⟨gL, 2, none⟩ = some (.slice none 0 0) := (qf hbL 2).trans rfl
  have hf2 := qj hbL 2
  refine skip_ (w1 := ?_) (by rfl) rfl ?_ ?_
  rotate_left
  ·go_simp
   rfl
  have hB2 := qa (j := 2) (qa (j := 1) (qa (j := 0) hHeld hgL (v := .int .i64 a0_0)) hgL (v := .int .i64 a0_1)) hgL (v := .slice AZ ys.length cZ)
  refine hK.out _ _ hB2 (fun hHeld2 => ?_)
  clear hK K
  refine done_ (jc HT_.out (by kernel_rfl)) ?_
  have HH := Lib.hid (show (((w8.setCell ⟨gL, 0, none⟩ (.int .i64 a0_0)).setCell ⟨gL, 1, none⟩ (.int .i64 a0_1)).setCell ⟨gL, 2, none⟩ (.slice AZ ys.length cZ)).heap[gL]? = some (.cells #[.int .i64 a0_0, .int .i64 a0_1, .slice AZ ys.length cZ] 31 (0, 0)) by
   refine zf (cs := #[.int .i64 a0_0, .int .i64 a0_1, .slice none 0 0]) ?_ 2 _ rfl
   refine zf (cs := #[.int .i64 a0_0, .int .i64 0, .slice none 0 0]) ?_ 1 _ rfl
   refine zf (cs := #[.int .i64 0, .int .i64 0, .slice none 0 0]) ?_ 0 _ rfl
   exact hbL)
  have HR5 := Lib.hid (Kd.zb (Kd.R_far (p := ⟨gL, 2, none⟩) (Kd.R_far (p := ⟨gL, 1, none⟩) (Kd.R_far (p := ⟨gL, 0, none⟩) (Kd.R_far1 hA rfl (Kd.R_ne hA hbL (by decide))) (fun _ hk => hk.2) (.int .i64 a0_0)) (fun _ hk => hk.2) (.int .i64 a0_1)) (fun _ hk => hk.2) (.slice AZ ys.length cZ)) (fun _ _ => trivial))
  have HB5 := Lib.hid hHeld2
  generalize ((w8.setCell ⟨gL, 0, none⟩ (.int .i64 a0_0)).setCell ⟨gL, 1, none⟩ (.int .i64 a0_1)).setCell ⟨gL, 2, none⟩ (.slice AZ ys.length cZ) = W5 at HH HR5 HB5 ⊢
  clear hz0 hz1 hz2 hf0 hf1 hf2 hB2 hHeld2 hHeld hA hbL HT_ HW_
  have hd0 : W5.cell? ⟨gL, 0, none⟩ = some (.int .i64 a0_0) := (qf HH.out 0).trans rfl
  have hd1 : W5.cell? ⟨gL, 1, none⟩ = some (.int .i64 a0_1) := (qf HH.out 1).trans rfl
  have hd2 : W5.cell? ⟨gL, 2, none⟩ = some (.slice AZ ys.length cZ) := (qf HH.out 2).trans rfl
  go_upto_region 5 with (go_at_call 66; (with_reducible refine (impl_Block_66.sort HR5.out (by have := HLN.out; rw [HYS.out]; simp only [List.length_append, List.length_cons, List.length_nil]; omega)).mono ?_); rintro e w6 ⟨rfl, hR6, hg6⟩)
  have HB6 := Lib.hid (pw_below_grown HB5.out _ HB5.out.size hg6 (Kd.zr HR5.out))
  have HH6 := Lib.hid (zo HH.out hg6 (Kd.R_ne HR5.out HH.out (by decide)))
  have HX6 := Lib.hid ((HB6.out.block _ (qw HX2.out)).trans HX2.out)
  have hln6 : (impl_Block_66.sorted ys).length = ys.length := List.length_mergeSort _
  rw [← HSS.out] at hR6
  clear hln6
  have hgs : w.heap.size ≤ s + 1 + 1 := by have := HSW.out; omega
  have HBF := Lib.hid (HBW.out.trans (HB6.out.mono HBW.out.size))
  have hlt := qw HX2.out
  clear hd0 hd1 hd2 hg6
  have hd0 : w6.cell? ⟨gL, 0, none⟩ = some (.int .i64 a0_0) := (qf HH6.out 0).trans rfl
  have hd1 : w6.cell? ⟨gL, 1, none⟩ = some (.int .i64 a0_1) := (qf HH6.out 1).trans rfl
  have hd2 : w6.cell? ⟨gL, 2, none⟩ = some (.slice AZ ys.length cZ) := (qf HH6.out 2).trans rfl
  have hq0 : w6.cell? ⟨s + 1 + 1, 0, none⟩ = some (.int .i64 0) := (qf HX6.out 0).trans rfl
  have hq1 : w6.cell? ⟨s + 1 + 1, 1, none⟩ = some (.int .i64 0) := (qf HX6.out 1).trans rfl
  have hq2 : w6.cell? ⟨s + 1 + 1, 2, none⟩ = some (.slice none 0 0) := (qf HX6.out 2).trans rfl
  have hz0 := qj HX6.out 0
  have hz1 := qj HX6.out 1
  have hz2 := qj HX6.out 2
  go_wp2
  have HH7 := Lib.hid (show (((w6.setCell ⟨s + 1 + 1, 0, none⟩ (.int .i64 a0_0)).setCell ⟨s + 1 + 1, 1, none⟩ (.int .i64 a0_1)).setCell ⟨s + 1 + 1, 2, none⟩ (.slice AZ ys.length cZ)).heap[s + 1 + 1]? = some (.cells #[.int .i64 a0_0, .int .i64 a0_1, .slice AZ ys.length cZ] 31 (0, 0)) by
   refine zf (cs := #[.int .i64 a0_0, .int .i64 a0_1, .slice none 0 0]) ?_ 2 _ rfl
   refine zf (cs := #[.int .i64 a0_0, .int .i64 0, .slice none 0 0]) ?_ 1 _ rfl
   refine zf (cs := #[.int .i64 0, .int .i64 0, .slice none 0 0]) ?_ 0 _ rfl
   exact HX6.out)
  refine bodyPost_ret (results_ct rfl _ _ (s + 1 + 1) 31 #[.int .i64 a0_0, .int .i64 a0_1, .slice AZ ys.length cZ] (0, 0) _ rfl HH7.out Try.underlying31 rfl (by kernel_rfl)) rfl ?_
  exact ⟨_, rfl, Kd.zq (Kd.zb (Kd.R_far (p := ⟨s + 1 + 1, 2, none⟩) (Kd.R_far (p := ⟨s + 1 + 1, 1, none⟩) (Kd.R_far (p := ⟨s + 1 + 1, 0, none⟩) (Kd.R_far1 hR6 rfl (Kd.R_ne hR6 HX6.out (by decide))) (fun _ hk => hk.2) (.int .i64 a0_0)) (fun _ hk => hk.2) (.int .i64 a0_1)) (fun _ hk => hk.2) (.slice AZ ys.length cZ)) (fun _ _ => trivial)) HBW.out.size, qa (qa (qa HBF.out hgs) hgs) hgs⟩
theorem impl_CloseBlock.calls (k : Nat) (a0_0 : Int) (a0_1 : Int) (A0_2 : Option Addr) (c0_2 : Nat) (l0_2 : List S58) (a1_0 : Int) (a1_1 : Int) (a1_2 : Bool) (r1 : Int) (r2 : Int) (r3 : List S58) (r4 : Bool) (w : World) (hr0_2 : Kd.C k58 w A0_2 l0_2.length l0_2) (hc0_2 : l0_2.length ≤ c0_2) (h : impl_CloseBlock.f k a0_0 a0_1 l0_2 a1_0 a1_1 a1_2 = some (r1, r2, r3, r4)) :
  Calls Try.prog 37 #[.agg #[.int .i64 a0_0, .int .i64 a0_1, .slice A0_2 l0_2.length c0_2], .agg #[.int .i64 a1_0, .int .i64 a1_1, .bool a1_2]] w fun e w' => ∃ v2_ : Value, e = .returned (.tuple #[.agg #[.int .i64 r1, .int .i64 r2, v2_], .bool r4]) ∧ Kd.R k58 58 w' w.heap.size (fun _ => True) v2_ r3 ∧ Below w.heap.size w w' := by
 unfold impl_CloseBlock.f at h
 obtain ⟨t, ht, h⟩ := Option.bind_eq_some_iff.mp h
 cases t with
 | false =>
  rw [if_neg (by decide)] at h
  simp only [Option.some.injEq, Prod.mk.injEq] at h
  obtain ⟨rfl, rfl, rfl, rfl⟩ := h
  exact impl_CloseBlock.no k a0_0 a0_1 A0_2 c0_2 l0_2 a1_0 a1_1 a1_2 w hr0_2 hc0_2 ht
 | true =>
  rw [if_pos rfl] at h
  obtain ⟨l, hl, h⟩ := Option.bind_eq_some_iff.mp h
  by_cases hln : l.length < 500000
  ·rw [if_pos hln] at h
   obtain ⟨s', hs', h⟩ := Option.bind_eq_some_iff.mp h
   simp only [Option.some.injEq, Prod.mk.injEq] at h
   obtain ⟨rfl, rfl, rfl, rfl⟩ := h
   unfold impl_Block_66.f at hs'
   rw [if_pos (by simp only [List.length_append, List.length_cons, List.length_nil]; omega)] at hs'
   exact impl_CloseBlock.yes k a0_0 a0_1 A0_2 c0_2 l0_2 a1_0 a1_1 a1_2 l s' w hr0_2 hc0_2 ht hl hln (Option.some.inj hs').symm
  ·rw [if_neg hln] at h; cases h
end Go.Proofs.Ytpedofomfhmnfaa.PFnExactCloseBlock
