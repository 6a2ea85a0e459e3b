/- Cut by wip/cut.py out of the texts of this claim (printed by the kit's printer, or this session's own): what the row's theorem does not reach is struck. Not trusted: Lean checks it. -/
import Derived.Test.YtpedofomfhmnfaaZFnExactNeededBlocksPx0
import Derived.Test.YtpedofomfhmnfaaZFnExactNeededBlocksPx11
import Derived.Test.YtpedofomfhmnfaaZFnExactNeededBlocksPx14
namespace Go.Proofs.Ytpedofomfhmnfaa.PFnExactNeededBlocks
open Go.RowKit Go.Proofs.YtpedofomfhmnfaaW.PrintWords Go.Proofs.YtpedofomfhmnfaaW.PrintLast Go.Proofs.YtpedofomfhmnfaaW.PrintMore
attribute [local go_sem] max2_int min2_int max_two min_two max_three min_three max_four min_four
set_option linter.unusedVariables false
set_option linter.unusedSimpArgs false
def impl_NeededBlocks.go (k : Nat) (w h : Int) (l : List S58) (l1 l2 : List Int) : List S58 → List S58 → Option (List S58)
 | [], acc => some acc
 | b :: bs, acc => (impl_isClosed.f k w h l b.f0 b.f1 b.f2).bind fun t => if t = true then impl_NeededBlocks.go k w h l l1 l2 bs acc else (impl_Block_55.f l).bind fun c => if c.length < 500000 then (impl_distanceIn.f k w h (c ++ [b]) l1 l2).bind fun d => if d.2 = true then impl_NeededBlocks.go k w h l l1 l2 bs acc else if acc.length < 500000 then impl_NeededBlocks.go k w h l l1 l2 bs (acc ++ [b]) else none else none
theorem impl_NeededBlocks.mono_go (k : Nat) (w h : Int) (l : List S58) (l1 l2 : List Int) : ∀ bs acc, LeO (impl_NeededBlocks.go k w h l l1 l2 bs acc) (impl_NeededBlocks.go (k + 1) w h l l1 l2 bs acc)
 | [], acc => LeO.refl _
 | b :: bs, acc => by
  unfold impl_NeededBlocks.go
  exact LeO.bind (impl_isClosed.mono _ _ _ _ _ _ _) fun _ => LeO.ite (impl_NeededBlocks.mono_go k w h l l1 l2 bs acc) (LeO.bind (LeO.refl _) fun _ => LeO.ite (LeO.bind (impl_distanceIn.mono _ _ _ _ _ _) fun _ => LeO.ite (impl_NeededBlocks.mono_go k w h l l1 l2 bs acc) (LeO.ite (impl_NeededBlocks.mono_go k w h l l1 l2 bs _) (LeO.refl _))) (LeO.refl _))
def impl_NeededBlocks.f (k : Nat) (a0_0 : Int) (a0_1 : Int) (l0_2 : List S58) (l1 : List Int) (l2 : List Int) : Option (List S58 × Bool) := (impl_areCorners.f k a0_0 a0_1 l0_2 [l1, l2]).bind fun t => if t = true then ((impl_distanceIn.f k a0_0 a0_1 l0_2 l1 l2).bind fun d => if d.2 = true then ((impl_blocksOf.f k a0_0 a0_1 l0_2).bind fun bs => if bs.length < 500000 then ((impl_NeededBlocks.go k a0_0 a0_1 l0_2 l1 l2 bs []).bind fun r => some (r, true)) else none) else some ([], false)) else some ([], false)
theorem impl_NeededBlocks.mono : ∀ a0 a1 a2 a3 a4 k, LeO (impl_NeededBlocks.f k a0 a1 a2 a3 a4) (impl_NeededBlocks.f (k + 1) a0 a1 a2 a3 a4) := fun a0 a1 a2 a3 a4 k => LeO.bind (impl_areCorners.mono _ _ _ _ _) fun _ => LeO.ite (LeO.bind (impl_distanceIn.mono _ _ _ _ _ _) fun _ => LeO.ite (LeO.bind (impl_blocksOf.mono _ _ _ _) fun _ => LeO.ite (LeO.bind (impl_NeededBlocks.mono_go _ _ _ _ _ _ _ _) fun _ => LeO.refl _) (LeO.refl _)) (LeO.refl _)) (LeO.refl _)
theorem impl_NeededBlocks.row2 (w : World) (A : Option Addr) (c : Nat) (a : List Int) (A' : Option Addr) (c' : Nat) (a' : List Int) (hC : Kd.C (Kd.int .i64) w A a.length a) (hl : a.length ≤ c) (hC' : Kd.C (Kd.int .i64) w A' a'.length a') (hl' : a'.length ≤ c') : Kd.C (Kd.slice 3 (Kd.int .i64)) (w.alloc (.cells #[.slice A a.length c, .slice A' a'.length c'] 25)) (some ⟨w.heap.size, 0, none⟩) 2 [a, a'] := by
 refine ⟨rfl, by decide, fun _ => ⟨_, rfl, fun j p hj => ?_⟩⟩
 match j, hj with
 | 0, hj =>
  obtain rfl : a = p := Option.some.inj hj
  refine ⟨[.slice A a.length c], rfl, ⟨A, c, rfl, hl, Kd.za hC _⟩, fun i u hu => ?_⟩
  match i, hu with
  | 0, hu => exact (qc (blk_new w (.cells #[.slice A a.length c, .slice A' a'.length c'] 25)) 0).trans hu
 | 1, hj =>
  obtain rfl : a' = p := Option.some.inj hj
  refine ⟨[.slice A' a'.length c'], rfl, ⟨A', c', rfl, hl', Kd.za hC' _⟩, fun i u hu => ?_⟩
  match i, hu with
  | 0, hu => exact (qc (blk_new w (.cells #[.slice A a.length c, .slice A' a'.length c'] 25)) 1).trans hu
def impl_NeededBlocks.T11 : Bool × List (List Nat × List Nat) := (true, [([], []), ([0], [0]), ([], []), ([2], [2]), ([], []), ([4], [4]), ([5], [5]), ([], []), ([7], [7]), ([6, 8, 6], [6, 8]), ([1, 3, 9], [1, 3, 9]), ([], []), ([11, 10, 9, 0, 1, 2, 3, 4, 5, 6, 7, 8, 9, 10, 11], [10, 11])])
def impl_NeededBlocks.B11 : List Nat := [0, 1, 0, 4, 0, 16, 48, 0, 128, 496, 1023, 0, 4095]
theorem impl_NeededBlocks.tab11 : rtab .any (opsOf Try.f19 11) = impl_NeededBlocks.T11 := by kernel_rfl
theorem impl_NeededBlocks.bits11 : waitsOk impl_NeededBlocks.T11.2 impl_NeededBlocks.B11 = true := by kernel_rfl
theorem impl_NeededBlocks.elem {W : World} {base g n cap : Nat} {ok : Nat → Prop} {xs : List S58} (h : Kd.R k58 58 W base ok (.slice (some ⟨g, 0, none⟩) n cap) xs) (i : Nat) (hi : i < n) :
  W.cell? ⟨g, i * 3, none⟩ = some (.int .i64 (xs.getD i z58).f0) ∧ W.cell? ⟨g, i * 3 + 1, none⟩ = some (.int .i64 (xs.getD i z58).f1) ∧ W.cell? ⟨g, i * 3 + 2, none⟩ = some (.bool (xs.getD i z58).f2) := by
 obtain ⟨c, hcl, hM, hcc, hfr⟩ := Kd.R_elem h z58 (i : Int) (by omega) (by omega)
 obtain rfl := k58_openM hM
 rw [Int.toNat_natCast] at hcc hfr
 exact ⟨hcc 0 _ rfl, hcc 1 _ rfl, hcc 2 _ rfl⟩
set_option maxHeartbeats 16000000 in
set_option maxRecDepth 100000 in
theorem impl_NeededBlocks.calls (k : Nat) (a0_0 : Int) (a0_1 : Int) (A0_2 : Option Addr) (c0_2 : Nat) (l0_2 : List S58) (A1 : Option Addr) (c1 : Nat) (l1 : List Int) (A2 : Option Addr) (c2 : Nat) (l2 : List Int) (r1 : List S58) (r2 : Bool) (w : World) (hr0_2 : Kd.C k58 w A0_2 l0_2.length l0_2) (hc0_2 : l0_2.length ≤ c0_2) (hr1 : Kd.C (Kd.int .i64) w A1 l1.length l1) (hc1 : l1.length ≤ c1) (hr2 : Kd.C (Kd.int .i64) w A2 l2.length l2) (hc2 : l2.length ≤ c2) (h : impl_NeededBlocks.f k a0_0 a0_1 l0_2 l1 l2 = some (r1, r2)) :
  Calls Try.prog 19 #[.agg #[.int .i64 a0_0, .int .i64 a0_1, .slice A0_2 l0_2.length c0_2], .slice A1 l1.length c1, .slice A2 l2.length c2] w fun e w' => ∃ v0_ : Value, e = .returned (.tuple #[v0_, .bool r2]) ∧ Kd.R k58 58 w' w.heap.size (fun _ => True) v0_ r1 ∧ Below w.heap.size w w' := by
 unfold impl_NeededBlocks.f at h
 obtain ⟨t, ht, h⟩ := Option.bind_eq_some_iff.mp h;have HT := Lib.hid ht;have HL := Lib.hid hr0_2;have HA := Lib.hid hr1;have HA2 := Lib.hid hr2;clear ht hr0_2 hr1 hr2;cases t with
 | false =>
  rw [if_neg (by decide)] at h
  simp only [Option.some.injEq, Prod.mk.injEq] at h
  obtain ⟨rfl, rfl⟩ := h;have hu := Try.underlying31;have hub := Try.underlying58
  go_enter Try.func19, Try.ntmps19
  go_upto_region 1 with (fail)
  have HV := Lib.hid (blk_new w (.cells #[.int .i64 a0_0, .int .i64 a0_1, .slice A0_2 l0_2.length c0_2] 31));have HB := Lib.hid (qd (Below.refl w.heap.size w) (.cells #[.int .i64 a0_0, .int .i64 a0_1, .slice A0_2 l0_2.length c0_2] 31))
  generalize w.alloc (.cells #[.int .i64 a0_0, .int .i64 a0_1, .slice A0_2 l0_2.length c0_2] 31) = W1 at HV HB ⊢
  obtain ⟨s, hs⟩ : ∃ s, s = w.heap.size := ⟨_, rfl⟩;rw [← hs] at HV ⊢;clear hs;have hcz0 : W1.cell? ⟨s, 0, none⟩ = some (.int .i64 a0_0) := (qc HV.out 0).trans rfl;have hcz1 : W1.cell? ⟨s, 1, none⟩ = some (.int .i64 a0_1) := (qc HV.out 1).trans rfl;have hcz2 : W1.cell? ⟨s, 2, none⟩ = some (.slice A0_2 l0_2.length c0_2) := (qc HV.out 2).trans rfl
  go_wp2_with (go_at_call 44; refine (impl_areCorners.calls k a0_0 a0_1 A0_2 c0_2 l0_2 (some ⟨W1.heap.size, 0, none⟩) 2 [l1, l2] false _ (Kd.za (Kd.qz HL.out HB.out) _) hc0_2 (impl_NeededBlocks.row2 W1 A1 c1 l1 A2 c2 l2 (Kd.qz HA.out HB.out) hc1 (Kd.qz HA2.out HB.out) hc2) (by simp) HT.out).mono ?_; rintro e w2 ⟨rfl, hb2⟩; have HB2 := Lib.hid (zi (qd HB.out _) (qd HB.out _).size hb2); have hb20 := zi (qd (Below.refl W1.heap.size W1) _) (qd (Below.refl W1.heap.size W1) _).size hb2; have HX2 := Lib.hid ((hb20.block _ (zd HV.out)).trans HV.out); have hcz0 := (qc HX2.out 0).trans rfl; have hcz1 := (qc HX2.out 1).trans rfl; have hcz2 := (qc HX2.out 2).trans rfl; clear hb2 hb20)
  go_ret2
  exact ⟨_, rfl, Kd.R_nil _ _ _ _ _, HB2.out⟩
 | true =>
  rw [if_pos rfl] at h;obtain ⟨⟨d, u⟩, hdi, h⟩ := Option.bind_eq_some_iff.mp h;have HDI := Lib.hid hdi;clear hdi;cases u with
  | false =>
   rw [if_neg (show ¬ (d, false).2 = true by simp)] at h
   simp only [Option.some.injEq, Prod.mk.injEq] at h
   obtain ⟨rfl, rfl⟩ := h;have hu := Try.underlying31;have hub := Try.underlying58
   go_enter Try.func19, Try.ntmps19
   go_upto_region 1 with (fail)
   have HV := Lib.hid (blk_new w (.cells #[.int .i64 a0_0, .int .i64 a0_1, .slice A0_2 l0_2.length c0_2] 31));have HB := Lib.hid (qd (Below.refl w.heap.size w) (.cells #[.int .i64 a0_0, .int .i64 a0_1, .slice A0_2 l0_2.length c0_2] 31))
   generalize w.alloc (.cells #[.int .i64 a0_0, .int .i64 a0_1, .slice A0_2 l0_2.length c0_2] 31) = W1 at HV HB ⊢
   obtain ⟨s, hs⟩ : ∃ s, s = w.heap.size := ⟨_, rfl⟩;rw [← hs] at HV ⊢;clear hs;have hcz0 : W1.cell? ⟨s, 0, none⟩ = some (.int .i64 a0_0) := (qc HV.out 0).trans rfl;have hcz1 : W1.cell? ⟨s, 1, none⟩ = some (.int .i64 a0_1) := (qc HV.out 1).trans rfl;have hcz2 : W1.cell? ⟨s, 2, none⟩ = some (.slice A0_2 l0_2.length c0_2) := (qc HV.out 2).trans rfl
   go_wp2_with (first | (go_at_call 44; refine (impl_areCorners.calls k a0_0 a0_1 A0_2 c0_2 l0_2 (some ⟨W1.heap.size, 0, none⟩) 2 [l1, l2] true _ (Kd.za (Kd.qz HL.out HB.out) _) hc0_2 (impl_NeededBlocks.row2 W1 A1 c1 l1 A2 c2 l2 (Kd.qz HA.out HB.out) hc1 (Kd.qz HA2.out HB.out) hc2) (by simp) HT.out).mono ?_; rintro e w2 ⟨rfl, hb2⟩; have HB2 := Lib.hid (zi (qd HB.out _) (qd HB.out _).size hb2); have hb20 := zi (qd (Below.refl W1.heap.size W1) _) (qd (Below.refl W1.heap.size W1) _).size hb2; have HX2 := Lib.hid ((hb20.block _ (zd HV.out)).trans HV.out); have hcz0 := (qc HX2.out 0).trans rfl; have hcz1 := (qc HX2.out 1).trans rfl; have hcz2 := (qc HX2.out 2).trans rfl; clear hb2 hb20) | (go_at_call 45; refine (impl_distanceIn.calls k a0_0 a0_1 A0_2 c0_2 l0_2 A1 c1 l1 A2 c2 l2 d false _ (Kd.qz HL.out HB2.out) hc0_2 (Kd.qz HA.out HB2.out) hc1 (Kd.qz HA2.out HB2.out) hc2 HDI.out).mono ?_; rintro e w3 ⟨rfl, hb3⟩; have HB3 := Lib.hid (zi HB2.out HB2.out.size hb3); have HX3 := Lib.hid ((hb3.block _ (zd HX2.out)).trans HX2.out); have hcz0 := (qc HX3.out 0).trans rfl; have hcz1 := (qc HX3.out 1).trans rfl; have hcz2 := (qc HX3.out 2).trans rfl; clear hb3))
   go_ret2
   exact ⟨_, rfl, Kd.R_nil _ _ _ _ _, HB3.out⟩
  | true =>
   rw [if_pos rfl] at h;obtain ⟨bs, hbs, h⟩ := Option.bind_eq_some_iff.mp h
   by_cases hlb : bs.length < 500000
   case neg => rw [if_neg hlb] at h; cases h
   rw [if_pos hlb] at h;obtain ⟨r, hgo, h⟩ := Option.bind_eq_some_iff.mp h
   simp only [Option.some.injEq, Prod.mk.injEq] at h
   obtain ⟨rfl, rfl⟩ := h;have HBS := Lib.hid hbs;have HLB := Lib.hid hlb;have HGO := Lib.hid hgo;clear hbs hlb hgo;have hu := Try.underlying31;have hub := Try.underlying58
   go_enter Try.func19, Try.ntmps19
   go_upto_region 1 with (fail)
   have HV := Lib.hid (blk_new w (.cells #[.int .i64 a0_0, .int .i64 a0_1, .slice A0_2 l0_2.length c0_2] 31));have HB := Lib.hid (qd (Below.refl w.heap.size w) (.cells #[.int .i64 a0_0, .int .i64 a0_1, .slice A0_2 l0_2.length c0_2] 31))
   generalize w.alloc (.cells #[.int .i64 a0_0, .int .i64 a0_1, .slice A0_2 l0_2.length c0_2] 31) = W1 at HV HB ⊢
   obtain ⟨s, hs⟩ : ∃ s, s = w.heap.size := ⟨_, rfl⟩;rw [← hs] at HV ⊢;clear hs;have hcz0 : W1.cell? ⟨s, 0, none⟩ = some (.int .i64 a0_0) := (qc HV.out 0).trans rfl;have hcz1 : W1.cell? ⟨s, 1, none⟩ = some (.int .i64 a0_1) := (qc HV.out 1).trans rfl;have hcz2 : W1.cell? ⟨s, 2, none⟩ = some (.slice A0_2 l0_2.length c0_2) := (qc HV.out 2).trans rfl
   go_upto_region 8 with (first | (go_at_call 44; refine (impl_areCorners.calls k a0_0 a0_1 A0_2 c0_2 l0_2 (some ⟨W1.heap.size, 0, none⟩) 2 [l1, l2] true _ (Kd.za (Kd.qz HL.out HB.out) _) hc0_2 (impl_NeededBlocks.row2 W1 A1 c1 l1 A2 c2 l2 (Kd.qz HA.out HB.out) hc1 (Kd.qz HA2.out HB.out) hc2) (by simp) HT.out).mono ?_; rintro e w2 ⟨rfl, hb2⟩; have HB2 := Lib.hid (zi (qd HB.out _) (qd HB.out _).size hb2); have hb20 := zi (qd (Below.refl W1.heap.size W1) _) (qd (Below.refl W1.heap.size W1) _).size hb2; have HX2 := Lib.hid ((hb20.block _ (zd HV.out)).trans HV.out); have hcz0 := (qc HX2.out 0).trans rfl; have hcz1 := (qc HX2.out 1).trans rfl; have hcz2 := (qc HX2.out 2).trans rfl; clear hb2 hb20) | (go_at_call 45; refine (impl_distanceIn.calls k a0_0 a0_1 A0_2 c0_2 l0_2 A1 c1 l1 A2 c2 l2 d true _ (Kd.qz HL.out HB2.out) hc0_2 (Kd.qz HA.out HB2.out) hc1 (Kd.qz HA2.out HB2.out) hc2 HDI.out).mono ?_; rintro e w3 ⟨rfl, hb3⟩; have HB3 := Lib.hid (zi HB2.out HB2.out.size hb3); have HX3 := Lib.hid ((hb3.block _ (zd HX2.out)).trans HX2.out); have hcz0 := (qc HX3.out 0).trans rfl; have hcz1 := (qc HX3.out 1).trans rfl; have hcz2 := (qc HX3.out 2).trans rfl; clear hb3) | (go_at_call 53; refine (impl_blocksOf.calls k a0_0 a0_1 A0_2 c0_2 l0_2 bs _ (Kd.qz HL.out HB3.out) hc0_2 HBS.out).mono ?_; rintro e w4 ⟨v4, rfl, hR4, hb4⟩; obtain ⟨AB, cB, eB⟩ := Kd.zn hR4; subst eB; have HR4 := Lib.hid hR4; have HB4 := Lib.hid (zi HB3.out HB3.out.size hb4); have HX4 := Lib.hid ((hb4.block _ (zd HX3.out)).trans HX3.out); clear hb4 hR4))
   clear hcz0 hcz1 hcz2 HV HB HX2 HX3 HB2 HB3;have HL4 := Lib.hid (Kd.qz HL.out HB4.out);have HA4 := Lib.hid (Kd.qz HA.out HB4.out);have HA5 := Lib.hid (Kd.qz HA2.out HB4.out);clear HL HA HA2
   generalize w4 = V0 at HR4 HB4 HX4 HL4 HA4 HA5 ⊢
   go_upto_block 1 with (fail)
   go_loopg [10, 34] bs.length (fun kq v10 v34 wr => ∃ (i : Nat) (acc : List S58), v34 = .int .i64 i ∧ kq = bs.length - i ∧ i ≤ bs.length ∧ Hid (impl_NeededBlocks.go k a0_0 a0_1 l0_2 l1 l2 (bs.drop i) acc = some r) ∧ Hid (Kd.R k58 58 wr V0.heap.size (fun _ => True) v10 acc) ∧ Hid (Below V0.heap.size V0 wr))
   case atStart => exact ⟨0, [], rfl, by omega, by omega, Lib.hid (by simpa using HGO.out), Lib.hid (Kd.R_nil _ _ _ _ _), Lib.hid (Below.refl _ _)⟩
   case round =>
    clear HGO;obtain ⟨i, acc, rfl, hk, hin, HG, HR6, HB6⟩ := hrel
    by_cases hi : i < bs.length
    ·have cb1 : decide ((i : Int) < (bs.length : Int)) = true := decide_eq_true (by omega)
     have hR5 := Kd.qv HR4.out HB6.out;obtain ⟨g, cap, ev, _, _, _⟩ := Kd.R_form hR5 (by omega)
     injection ev with ea_ en_ ec_
     clear en_;subst ea_;subst ec_;obtain ⟨e0, e1, e2⟩ := impl_NeededBlocks.elem hR5 i hi;obtain ⟨b, hb⟩ : ∃ b, bs.getD i z58 = b := ⟨_, rfl⟩;have hg := HG.out;rw [List.drop_eq_getElem_cons hi, show bs[i] = b by rw [← hb]; simp [hi]] at hg;rw [hb] at e0 e1 e2;clear hb HG hR5
     unfold impl_NeededBlocks.go at hg
     obtain ⟨t, ht, hg⟩ := Option.bind_eq_some_iff.mp hg;have HIC := Lib.hid ht;clear ht;have p1 : (0 : Int) ≤ (i : Int) := by omega
     have p2 : (i : Int) < (bs.length : Int) := by omega
     have hi6 : i < 1000000 := by have := HLB.out; omega
     go_upto_region 10 with (fail)
     have HG7 := Lib.hid (blk_new wr (.cells #[.int .i64 b.f0, .int .i64 b.f1, .bool b.f2] 58));have hb7 : Below wr.heap.size wr (wr.alloc (.cells #[.int .i64 b.f0, .int .i64 b.f1, .bool b.f2] 58)) := qd (Below.refl _ _) _
     generalize wr.alloc (.cells #[.int .i64 b.f0, .int .i64 b.f1, .bool b.f2] 58) = W7 at HG7 hb7 ⊢
     have HR7 := Lib.hid (Kd.qv HR6.out hb7);have HB7 := Lib.hid (zi HB6.out HB6.out.size hb7)
     generalize wr.heap.size = G at HG7 ⊢
     clear HR6 HB6 hb7 e0 e1 e2;have HX7 := Lib.hid ((HB7.out.block _ (zd HX4.out)).trans HX4.out);have hcz0 : W7.cell? ⟨s, 0, none⟩ = some (.int .i64 a0_0) := (qc HX7.out 0).trans rfl;have hcz1 : W7.cell? ⟨s, 1, none⟩ = some (.int .i64 a0_1) := (qc HX7.out 1).trans rfl;have hcz2 : W7.cell? ⟨s, 2, none⟩ = some (.slice A0_2 l0_2.length c0_2) := (qc HX7.out 2).trans rfl;have hbz0 : W7.cell? ⟨G, 0, none⟩ = some (.int .i64 b.f0) := (qc HG7.out 0).trans rfl;have hbz1 : W7.cell? ⟨G, 1, none⟩ = some (.int .i64 b.f1) := (qc HG7.out 1).trans rfl;have hbz2 : W7.cell? ⟨G, 2, none⟩ = some (.bool b.f2) := (qc HG7.out 2).trans rfl;cases t with
     | true =>
      rw [if_pos rfl] at hg;have HGO := Lib.hid hg;clear hg
      go_wp2_with (go_at_call 54; (with_reducible refine (impl_isClosed.calls k a0_0 a0_1 A0_2 c0_2 l0_2 b.f0 b.f1 b.f2 true _ (Kd.qz HL4.out HB7.out) hc0_2 HIC.out).mono ?_); rintro e w8 ⟨rfl, hb8⟩; have HB8 := Lib.hid (zi HB7.out HB7.out.size hb8); have HR8 := Lib.hid (Kd.qv HR7.out hb8); clear hb8)
      go_roundg (bs.length - (i + 1))
      case measure => omega
      case rel => exact ⟨i + 1, acc, by go_num, rfl, by omega, HGO, HR8, HB8⟩
     | false =>
      rw [if_neg (show ¬ (false = true) by decide)] at hg;obtain ⟨l, hl, hg⟩ := Option.bind_eq_some_iff.mp hg
      by_cases hln : l.length < 500000
      case neg => rw [if_neg hln] at hg; cases hg
      rw [if_pos hln] at hg;obtain ⟨⟨d2, u2⟩, hd2, hg⟩ := Option.bind_eq_some_iff.mp hg;obtain ⟨ys, hys⟩ : ∃ ys : List S58, ys = l ++ [⟨b.f0, b.f1, b.f2⟩] := ⟨_, rfl⟩;rw [show l ++ [b] = ys from hys.symm] at hd2;have HYS := Lib.hid hys;have HCL := Lib.hid hl;have HLN := Lib.hid hln;have HD2 := Lib.hid hd2;have HGO := Lib.hid hg;clear hys hl hln hd2 hg
      go_upto_region 11 with (go_at_call 54; (with_reducible refine (impl_isClosed.calls k a0_0 a0_1 A0_2 c0_2 l0_2 b.f0 b.f1 b.f2 false _ (Kd.qz HL4.out HB7.out) hc0_2 HIC.out).mono ?_); rintro e w8 ⟨rfl, hb8⟩; have HB8 := Lib.hid (zi HB7.out HB7.out.size hb8); have HR8 := Lib.hid (Kd.qv HR7.out hb8))
      have HG9 := Lib.hid ((hb8.block _ (zd HG7.out)).trans HG7.out);clear hcz0 hcz1 hcz2 hbz0 hbz1 hbz2 hb8 HG7 HX7 HR7 HB7;have HLW := Lib.hid (Kd.qz HL4.out HB8.out);have HX9 := Lib.hid ((HB8.out.block _ (zd HX4.out)).trans HX4.out)
      generalize w8 = W0 at HLW HR8 HB8 HG9 HX9 ⊢
      have hcz0 : W0.cell? ⟨s, 0, none⟩ = some (.int .i64 a0_0) := (qc HX9.out 0).trans rfl;have hcz1 : W0.cell? ⟨s, 1, none⟩ = some (.int .i64 a0_1) := (qc HX9.out 1).trans rfl;have hcz2 : W0.cell? ⟨s, 2, none⟩ = some (.slice A0_2 l0_2.length c0_2) := (qc HX9.out 2).trans rfl;have hbz0 : W0.cell? ⟨G, 0, none⟩ = some (.int .i64 b.f0) := (qc HG9.out 0).trans rfl;have hbz1 : W0.cell? ⟨G, 1, none⟩ = some (.int .i64 b.f1) := (qc HG9.out 1).trans rfl;have hbz2 : W0.cell? ⟨G, 2, none⟩ = some (.bool b.f2) := (qc HG9.out 2).trans rfl
      refine jf (n := 13) (S := fun w' => Below W0.heap.size W0 w') (ds := []) #[false, false, false, false, false, false, false, false, false, false, false, false, false] (by kernel_rfl) rfl rfl (qe (Below.refl W0.heap.size W0)) (fun hHeld => ?_); refine zy impl_NeededBlocks.tab11 impl_NeededBlocks.bits11 (fun HT_ HW_ => ?_)
      generalize W0.drew = wX at hHeld ⊢
      refine pure_ (i := 0) (N := some 41) (v := ?_) (a' := ?_) #[true, false, false, false, false, false, false, false, false, false, false, false, false] rfl rfl (qu HT_.out (by kernel_rfl)) (fun _ _ _ h => h) (Or.inl ⟨by rfl, ?_⟩) ?_ ?_
      rotate_left
      ·intro w'
       go_simp
       with_reducible rfl
      rotate_left
      ·simp only [Act.put, sA_, sB_, sC_, i64_w, i32_w]
       rfl
      refine pure_ (i := 2) (N := some 43) (v := ?_) (a' := ?_) #[true, false, true, false, false, false, false, false, false, false, false, false, false] rfl rfl (qu HT_.out (by kernel_rfl)) (fun _ _ _ h => h) (Or.inl ⟨by rfl, ?_⟩) ?_ ?_
      rotate_left
      ·intro w'
       go_simp
       with_reducible rfl
      rotate_left
      ·simp only [Act.put, sA_, sB_, sC_, i64_w, i32_w]
       rfl
      refine pure_ (i := 4) (N := some 45) (v := ?_) (a' := ?_) #[true, false, true, false, true, false, false, false, false, false, false, false, false] rfl rfl (qu HT_.out (by kernel_rfl)) (fun _ _ _ h => h) (Or.inl ⟨by rfl, ?_⟩) ?_ ?_
      rotate_left
      ·intro w'
       go_simp
       with_reducible rfl
      rotate_left
      ·simp only [Act.put, sA_, sB_, sC_, i64_w, i32_w]
       rfl
      refine take_ (i := 1) (N := some 42) (v := ?_) (a' := ?_) #[true, true, true, false, true, false, false, false, false, false, false, false, false] rfl rfl (zg HT_.out HW_.out (by kernel_rfl)) (fun _ _ _ h => h) (Or.inl ⟨by rfl, ?_⟩) hHeld ?_ ?_
      rotate_left
      ·intro w' hS_
       have s0 := qy hS_ hcz0; have s1 := qy hS_ hcz1; have s2 := qy hS_ hcz2; have s3 := qy hS_ hbz0; have s4 := qy hS_ hbz1; have s5 := qy hS_ hbz2
       go_simp
       with_reducible rfl
      rotate_left
      ·simp only [Act.put, sA_, sB_, sC_, i64_w, i32_w]
       rfl
      refine take_ (i := 3) (N := some 44) (v := ?_) (a' := ?_) #[true, true, true, true, true, false, false, false, false, false, false, false, false] rfl rfl (zg HT_.out HW_.out (by kernel_rfl)) (fun _ _ _ h => h) (Or.inl ⟨by rfl, ?_⟩) hHeld ?_ ?_
      rotate_left
      ·intro w' hS_
       have s0 := qy hS_ hcz0; have s1 := qy hS_ hcz1; have s2 := qy hS_ hcz2; have s3 := qy hS_ hbz0; have s4 := qy hS_ hbz1; have s5 := qy hS_ hbz2
       go_simp
       with_reducible rfl
      rotate_left
      ·simp only [Act.put, sA_, sB_, sC_, i64_w, i32_w]
       rfl
      refine take_ (i := 5) (N := some 46) (v := ?_) (a' := ?_) #[true, true, true, true, true, true, false, false, false, false, false, false, false] rfl rfl (zg HT_.out HW_.out (by kernel_rfl)) (fun _ _ _ h => h) (Or.inl ⟨by rfl, ?_⟩) hHeld ?_ ?_
      rotate_left
      ·intro w' hS_
       have s0 := qy hS_ hcz0; have s1 := qy hS_ hcz1; have s2 := qy hS_ hcz2; have s3 := qy hS_ hbz0; have s4 := qy hS_ hbz1; have s5 := qy hS_ hbz2
       go_simp
       with_reducible rfl
      rotate_left
      ·simp only [Act.put, sA_, sB_, sC_, i64_w, i32_w]
       rfl
      refine take_ (i := 7) (N := some 48) (v := ?_) (a' := ?_) #[true, true, true, true, true, true, false, true, false, false, false, false, false] rfl rfl (zg HT_.out HW_.out (by kernel_rfl)) (fun _ _ _ h => h) (Or.inl ⟨by rfl, ?_⟩) hHeld ?_ ?_
      rotate_left
      ·intro w' hS_
       have s0 := qy hS_ hcz0; have s1 := qy hS_ hcz1; have s2 := qy hS_ hcz2; have s3 := qy hS_ hbz0; have s4 := qy hS_ hbz1; have s5 := qy hS_ hbz2
       go_simp
       with_reducible rfl
      rotate_left
      ·simp only [Act.put, sA_, sB_, sC_, i64_w, i32_w]
       rfl
      refine join_ (σ := Value × Value × Value × Nat) 1 #[true, true, true, true, true, true, true, true, true, true, true, true, false] (fun s_ => [(47, s_.1), (49, s_.2.1), (50, s_.2.2.1), (13, .pointer (some ⟨s_.2.2.2, 0, none⟩)), (51, .agg #[.int .i64 a0_0, .int .i64 a0_1, s_.2.2.1])]) (fun s_ w' => (Below W0.heap.size W0 w') ∧ (Kd.R k58 58 w' W0.heap.size (fun _ => True) s_.2.2.1 ys) ∧ (W0.heap.size ≤ s_.2.2.2) ∧ (w'.heap[s_.2.2.2]? = some (.cells #[.int .i64 0, .int .i64 0, .slice none 0 0] 31 (0, 0)))) ?_ ?_
      rotate_left
      ·intro hJCSAL
       refine join_ (σ := Value × Value × Value) 2 #[true, true, true, true, true, true, true, true, true, true, true, false, false] (fun s_ => [(47, s_.1), (49, s_.2.1), (50, s_.2.2), (51, .agg #[.int .i64 a0_0, .int .i64 a0_1, s_.2.2])]) (fun s_ w' => (Below W0.heap.size W0 w') ∧ (Kd.R k58 58 w' W0.heap.size (fun _ => True) s_.2.2 ys)) ?_ ?_
       rotate_left
       ·intro hJCSA
        refine join_ (σ := Value × Value × Nat) 3 #[true, true, true, true, true, true, true, true, true, false, false, true, false] (fun s_ => [(47, s_.1), (49, s_.2.1), (13, .pointer (some ⟨s_.2.2, 0, none⟩))]) (fun s_ w' => (Below W0.heap.size W0 w') ∧ (Kd.R k58 58 w' W0.heap.size (fun _ => True) s_.1 l) ∧ (Kd.R k58 58 w' W0.heap.size (fun _ => True) s_.2.1 [(⟨b.f0, b.f1, b.f2⟩ : S58)]) ∧ (W0.heap.size ≤ s_.2.2) ∧ (w'.heap[s_.2.2]? = some (.cells #[.int .i64 0, .int .i64 0, .slice none 0 0] 31 (0, 0)))) ?_ ?_
        rotate_left
        ·intro hJCSL
         refine join_ (σ := Value × Nat) 4 #[true, true, true, true, true, true, false, true, true, false, false, true, false] (fun s_ => [(49, s_.1), (13, .pointer (some ⟨s_.2, 0, none⟩))]) (fun s_ w' => (Below W0.heap.size W0 w') ∧ (Kd.R k58 58 w' W0.heap.size (fun _ => True) s_.1 [(⟨b.f0, b.f1, b.f2⟩ : S58)]) ∧ (W0.heap.size ≤ s_.2) ∧ (w'.heap[s_.2]? = some (.cells #[.int .i64 0, .int .i64 0, .slice none 0 0] 31 (0, 0)))) ?_ ?_
         rotate_left
         ·intro hJSL
          refine join_ (σ := Value × Nat) 4 #[true, true, true, true, true, true, true, true, false, false, false, true, false] (fun s_ => [(47, s_.1), (13, .pointer (some ⟨s_.2, 0, none⟩))]) (fun s_ w' => (Below W0.heap.size W0 w') ∧ (Kd.R k58 58 w' W0.heap.size (fun _ => True) s_.1 l) ∧ (W0.heap.size ≤ s_.2) ∧ (w'.heap[s_.2]? = some (.cells #[.int .i64 0, .int .i64 0, .slice none 0 0] 31 (0, 0)))) ?_ ?_
          rotate_left
          ·intro hJCL
           refine join_ (σ := Value × Value) 4 #[true, true, true, true, true, true, true, true, true, false, false, false, false] (fun s_ => [(47, s_.1), (49, s_.2)]) (fun s_ w' => (Below W0.heap.size W0 w') ∧ (Kd.R k58 58 w' W0.heap.size (fun _ => True) s_.1 l) ∧ (Kd.R k58 58 w' W0.heap.size (fun _ => True) s_.2 [(⟨b.f0, b.f1, b.f2⟩ : S58)])) ?_ ?_
           rotate_left
           ·intro hJCS
            refine join_ (σ := Nat) 5 #[true, true, true, true, true, true, false, true, false, false, false, true, false] (fun s_ => [(13, .pointer (some ⟨s_, 0, none⟩))]) (fun s_ w' => (Below W0.heap.size W0 w') ∧ (W0.heap.size ≤ s_) ∧ (w'.heap[s_]? = some (.cells #[.int .i64 0, .int .i64 0, .slice none 0 0] 31 (0, 0)))) ?_ ?_
            rotate_left
            ·intro hJL
             refine join_ (σ := Value) 5 #[true, true, true, true, true, true, false, true, true, false, false, false, false] (fun s_ => [(49, s_)]) (fun s_ w' => (Below W0.heap.size W0 w') ∧ (Kd.R k58 58 w' W0.heap.size (fun _ => True) s_ [(⟨b.f0, b.f1, b.f2⟩ : S58)])) ?_ ?_
             rotate_left
             ·intro hJS
              refine join_ (σ := Value) 5 #[true, true, true, true, true, true, true, true, false, false, false, false, false] (fun s_ => [(47, s_)]) (fun s_ w' => (Below W0.heap.size W0 w') ∧ (Kd.R k58 58 w' W0.heap.size (fun _ => True) s_ l)) ?_ ?_
              rotate_left
              ·intro hJC
               refine three_ (i := 6) (j := 8) (k := 11) (Ni := some 47) (Nj := some 49) (Nk := some 13) #[true, true, true, true, true, true, true, true, false, false, false, false, false] #[true, true, true, true, true, true, false, true, true, false, false, false, false] #[true, true, true, true, true, true, false, true, false, false, false, true, false] rfl rfl rfl rfl rfl rfl (three_of HT_.out (by kernel_rfl)) (by decide) (by decide) (by decide) (fun K hK => ?_) (fun K hK => ?_) (fun K hK => ?_)
               ·skip
                refine goes_ Try.func55 (by kernel_rfl) rfl #[.slice A0_2 l0_2.length c0_2] (by rfl) rfl rfl (by (try simp only [List.map_toArray, List.map_cons, List.map_nil]); first | done | rfl | (simp only [List.length_drop, List.length_take]; rfl)) ?_
                with_reducible refine (impl_Block_55.calls _ _ l0_2 l _ (Kd.qz HLW.out hHeld) hc0_2 HCL.out).mono ?_
                rintro e w9 ⟨vC, rfl, ho, hb⟩
                refine ⟨_, rfl, ?_⟩
                have nC := Kd.zh (Kd.zp ho hHeld.size) (fun _ _ => trivial);have hB2 := zi hHeld hHeld.size hb
                refine hK.out _ _ hB2 (fun hHeld => ?_)
                clear hK K
                refine norm_ (a' := ?_) ?_ ?_
                rotate_left
                ·show Act.put _ (some 47) _ = _
                 simp only [Act.put, sA_, sB_, sC_, i64_w, i32_w]
                 rfl
                exact norm_ (by first | (simp only [zx, Act.put, sA_, sB_, sC_]; done) | (simp only [zx, Act.put, sA_, sB_, sC_]; rfl)) (hJC vC _ ⟨hB2, nC⟩)
               ·skip
                refine Kd.zz k58 _ 58 ?hg (N := 49) ?hd (xs := ([(⟨b.f0, b.f1, b.f2⟩ : S58)] : List (S58))) (inner := [.int .i64 b.f0, .int .i64 b.f1, .bool b.f2]) (ok := fun _ => True) (okp := fun _ => True) ?hr ?hp (fun _ hk => hk) trivial (Below.refl _ _) (Nat.le_refl _) (by simp) ?_; (case hd => rfl); (case hg => rfl); (case hr => first | (go_simp; done) | (go_simp; rfl)); (case hp => exact (Reps.c3 (show Kd.M k58 _ _ _ (⟨b.f0, b.f1, b.f2⟩ : S58) [.int .i64 b.f0, .int .i64 b.f1, .bool b.f2] from (k58_mkM _ _ _ (⟨b.f0, b.f1, b.f2⟩ : S58))) (Reps.none _ _)))
                intro vS w9 ho hb hg_ hnew_
                clear hg_ hnew_;have nS := Kd.zp ho hHeld.size;have hB2 := zi hHeld hHeld.size hb
                refine hK.out _ _ hB2 (fun hHeld => ?_)
                clear hK K
                refine norm_ (a' := ?_) ?_ ?_
                rotate_left
                ·show Act.put _ (some 49) _ = _
                 simp only [Act.put, sA_, sB_, sC_, i64_w, i32_w]
                 rfl
                exact norm_ (by first | (simp only [zx, Act.put, sA_, sB_, sC_]; done) | (simp only [zx, Act.put, sA_, sB_, sC_]; rfl)) (hJS vS _ ⟨hB2, nS⟩)
               ·skip
                refine box_step ?hg (N := 13) ?hd (cs := #[.int .i64 0, .int .i64 0, .slice none 0 0]) (t := 31) ?hr ?_; (case hd => rfl); (case hg => rfl); (case hr => first | (go_simp; done) | (go_simp; rfl))
                intro gL hgq w9 nbL hb
                have ngL : W0.heap.size ≤ gL := by rw [hgq]; exact hHeld.size
                have hB2 := zi hHeld hHeld.size hb
                refine hK.out _ _ hB2 (fun hHeld => ?_)
                clear hK K
                refine norm_ (a' := ?_) ?_ ?_
                rotate_left
                ·show Act.put _ (some 13) _ = _
                 simp only [Act.put, sA_, sB_, sC_, i64_w, i32_w]
                 rfl
                exact norm_ (by first | (simp only [zx, Act.put, sA_, sB_, sC_]; done) | (simp only [zx, Act.put, sA_, sB_, sC_]; rfl)) (hJL gL _ ⟨hB2, ngL, nbL⟩)
              ·skip
               clear hHeld
               rintro vC w8 ⟨hHeld, hC⟩
               refine norm_ (a' := ?_) ?_ ?_
               rotate_left
               ·simp only [zx, Act.put, sA_, sB_, sC_]
                rfl
               refine two_ (i := 8) (j := 11) (Ni := some 49) (Nj := some 13) #[true, true, true, true, true, true, true, true, true, false, false, false, false] #[true, true, true, true, true, true, true, true, false, false, false, true, false] rfl rfl rfl rfl (two_of HT_.out (by kernel_rfl)) (by decide) (by decide) (fun K hK => ?_) (fun K hK => ?_)
               ·skip
                refine Kd.zz k58 _ 58 ?hg (N := 49) ?hd (xs := ([(⟨b.f0, b.f1, b.f2⟩ : S58)] : List (S58))) (inner := [.int .i64 b.f0, .int .i64 b.f1, .bool b.f2]) (ok := fun _ => True) (okp := fun _ => True) ?hr ?hp (fun _ hk => hk) trivial (Below.refl _ _) (Nat.le_refl _) (by simp) ?_; (case hd => rfl); (case hg => rfl); (case hr => first | (go_simp; done) | (go_simp; rfl)); (case hp => exact (Reps.c3 (show Kd.M k58 _ _ _ (⟨b.f0, b.f1, b.f2⟩ : S58) [.int .i64 b.f0, .int .i64 b.f1, .bool b.f2] from (k58_mkM _ _ _ (⟨b.f0, b.f1, b.f2⟩ : S58))) (Reps.none _ _)))
                intro vS w9 ho hb hg_ hnew_
                clear hg_ hnew_;have nS := Kd.zp ho hHeld.size;have hB2 := zi hHeld hHeld.size hb;have nC := Kd.qv hC hb
                refine hK.out _ _ hB2 (fun hHeld => ?_)
                clear hK K
                refine norm_ (a' := ?_) ?_ ?_
                rotate_left
                ·show Act.put _ (some 49) _ = _
                 simp only [Act.put, sA_, sB_, sC_, i64_w, i32_w]
                 rfl
                exact norm_ (by first | (simp only [zx, Act.put, sA_, sB_, sC_]; done) | (simp only [zx, Act.put, sA_, sB_, sC_]; rfl)) (hJCS ⟨vC, vS⟩ _ ⟨hB2, nC, nS⟩)
               ·skip
                refine box_step ?hg (N := 13) ?hd (cs := #[.int .i64 0, .int .i64 0, .slice none 0 0]) (t := 31) ?hr ?_; (case hd => rfl); (case hg => rfl); (case hr => first | (go_simp; done) | (go_simp; rfl))
                intro gL hgq w9 nbL hb
                have ngL : W0.heap.size ≤ gL := by rw [hgq]; exact hHeld.size
                have hB2 := zi hHeld hHeld.size hb;have nC := Kd.qv hC hb
                refine hK.out _ _ hB2 (fun hHeld => ?_)
                clear hK K
                refine norm_ (a' := ?_) ?_ ?_
                rotate_left
                ·show Act.put _ (some 13) _ = _
                 simp only [Act.put, sA_, sB_, sC_, i64_w, i32_w]
                 rfl
                exact norm_ (by first | (simp only [zx, Act.put, sA_, sB_, sC_]; done) | (simp only [zx, Act.put, sA_, sB_, sC_]; rfl)) (hJCL ⟨vC, gL⟩ _ ⟨hB2, nC, ngL, nbL⟩)
             ·skip
              clear hHeld
              rintro vS w8 ⟨hHeld, hS⟩
              refine norm_ (a' := ?_) ?_ ?_
              rotate_left
              ·simp only [zx, Act.put, sA_, sB_, sC_]
               rfl
              refine two_ (i := 6) (j := 11) (Ni := some 47) (Nj := some 13) #[true, true, true, true, true, true, true, true, true, false, false, false, false] #[true, true, true, true, true, true, false, true, true, false, false, true, false] rfl rfl rfl rfl (two_of HT_.out (by kernel_rfl)) (by decide) (by decide) (fun K hK => ?_) (fun K hK => ?_)
              ·skip
               refine goes_ Try.func55 (by kernel_rfl) rfl #[.slice A0_2 l0_2.length c0_2] (by rfl) rfl rfl (by (try simp only [List.map_toArray, List.map_cons, List.map_nil]); first | done | rfl | (simp only [List.length_drop, List.length_take]; rfl)) ?_
               with_reducible refine (impl_Block_55.calls _ _ l0_2 l _ (Kd.qz HLW.out hHeld) hc0_2 HCL.out).mono ?_
               rintro e w9 ⟨vC, rfl, ho, hb⟩
               refine ⟨_, rfl, ?_⟩
               have nC := Kd.zh (Kd.zp ho hHeld.size) (fun _ _ => trivial);have hB2 := zi hHeld hHeld.size hb;have nS := Kd.qv hS hb
               refine hK.out _ _ hB2 (fun hHeld => ?_)
               clear hK K
               refine norm_ (a' := ?_) ?_ ?_
               rotate_left
               ·show Act.put _ (some 47) _ = _
                simp only [Act.put, sA_, sB_, sC_, i64_w, i32_w]
                rfl
               exact norm_ (by first | (simp only [zx, Act.put, sA_, sB_, sC_]; done) | (simp only [zx, Act.put, sA_, sB_, sC_]; rfl)) (hJCS ⟨vC, vS⟩ _ ⟨hB2, nC, nS⟩)
              ·skip
               refine box_step ?hg (N := 13) ?hd (cs := #[.int .i64 0, .int .i64 0, .slice none 0 0]) (t := 31) ?hr ?_; (case hd => rfl); (case hg => rfl); (case hr => first | (go_simp; done) | (go_simp; rfl))
               intro gL hgq w9 nbL hb
               have ngL : W0.heap.size ≤ gL := by rw [hgq]; exact hHeld.size
               have hB2 := zi hHeld hHeld.size hb;have nS := Kd.qv hS hb
               refine hK.out _ _ hB2 (fun hHeld => ?_)
               clear hK K
               refine norm_ (a' := ?_) ?_ ?_
               rotate_left
               ·show Act.put _ (some 13) _ = _
                simp only [Act.put, sA_, sB_, sC_, i64_w, i32_w]
                rfl
               exact norm_ (by first | (simp only [zx, Act.put, sA_, sB_, sC_]; done) | (simp only [zx, Act.put, sA_, sB_, sC_]; rfl)) (hJSL ⟨vS, gL⟩ _ ⟨hB2, nS, ngL, nbL⟩)
            ·skip
             clear hHeld
             rintro gL w8 ⟨hHeld, hgL, hbL⟩
             refine norm_ (a' := ?_) ?_ ?_
             rotate_left
             ·simp only [zx, Act.put, sA_, sB_, sC_]
              rfl
             refine two_ (i := 6) (j := 8) (Ni := some 47) (Nj := some 49) #[true, true, true, true, true, true, true, true, false, false, false, true, false] #[true, true, true, true, true, true, false, true, true, false, false, true, false] rfl rfl rfl rfl (two_of HT_.out (by kernel_rfl)) (by decide) (by decide) (fun K hK => ?_) (fun K hK => ?_)
             ·skip
              refine goes_ Try.func55 (by kernel_rfl) rfl #[.slice A0_2 l0_2.length c0_2] (by rfl) rfl rfl (by (try simp only [List.map_toArray, List.map_cons, List.map_nil]); first | done | rfl | (simp only [List.length_drop, List.length_take]; rfl)) ?_
              with_reducible refine (impl_Block_55.calls _ _ l0_2 l _ (Kd.qz HLW.out hHeld) hc0_2 HCL.out).mono ?_
              rintro e w9 ⟨vC, rfl, ho, hb⟩
              refine ⟨_, rfl, ?_⟩
              have nC := Kd.zh (Kd.zp ho hHeld.size) (fun _ _ => trivial);have hB2 := zi hHeld hHeld.size hb;have nbL := (hb.block _ (zd hbL)).trans hbL;have ngL := hgL
              refine hK.out _ _ hB2 (fun hHeld => ?_)
              clear hK K
              refine norm_ (a' := ?_) ?_ ?_
              rotate_left
              ·show Act.put _ (some 47) _ = _
               simp only [Act.put, sA_, sB_, sC_, i64_w, i32_w]
               rfl
              exact norm_ (by first | (simp only [zx, Act.put, sA_, sB_, sC_]; done) | (simp only [zx, Act.put, sA_, sB_, sC_]; rfl)) (hJCL ⟨vC, gL⟩ _ ⟨hB2, nC, ngL, nbL⟩)
             ·skip
              refine Kd.zz k58 _ 58 ?hg (N := 49) ?hd (xs := ([(⟨b.f0, b.f1, b.f2⟩ : S58)] : List (S58))) (inner := [.int .i64 b.f0, .int .i64 b.f1, .bool b.f2]) (ok := fun _ => True) (okp := fun _ => True) ?hr ?hp (fun _ hk => hk) trivial (Below.refl _ _) (Nat.le_refl _) (by simp) ?_; (case hd => rfl); (case hg => rfl); (case hr => first | (go_simp; done) | (go_simp; rfl)); (case hp => exact (Reps.c3 (show Kd.M k58 _ _ _ (⟨b.f0, b.f1, b.f2⟩ : S58) [.int .i64 b.f0, .int .i64 b.f1, .bool b.f2] from (k58_mkM _ _ _ (⟨b.f0, b.f1, b.f2⟩ : S58))) (Reps.none _ _)))
              intro vS w9 ho hb hg_ hnew_
              clear hg_ hnew_;have nS := Kd.zp ho hHeld.size;have hB2 := zi hHeld hHeld.size hb;have nbL := (hb.block _ (zd hbL)).trans hbL;have ngL := hgL
              refine hK.out _ _ hB2 (fun hHeld => ?_)
              clear hK K
              refine norm_ (a' := ?_) ?_ ?_
              rotate_left
              ·show Act.put _ (some 49) _ = _
               simp only [Act.put, sA_, sB_, sC_, i64_w, i32_w]
               rfl
              exact norm_ (by first | (simp only [zx, Act.put, sA_, sB_, sC_]; done) | (simp only [zx, Act.put, sA_, sB_, sC_]; rfl)) (hJSL ⟨vS, gL⟩ _ ⟨hB2, nS, ngL, nbL⟩)
           ·skip
            clear hHeld
            rintro ⟨vC, vS⟩ w8 ⟨hHeld, hC, hS⟩
            obtain ⟨AS, cS, eS⟩ := Kd.zn hS;subst eS
            refine norm_ (a' := ?_) ?_ ?_
            rotate_left
            ·simp only [zx, Act.put, sA_, sB_, sC_]
             rfl
            refine two_ (i := 9) (j := 11) (Ni := some 50) (Nj := some 13) #[true, true, true, true, true, true, true, true, true, true, false, false, false] #[true, true, true, true, true, true, true, true, true, false, false, true, false] rfl rfl rfl rfl (two_of HT_.out (by kernel_rfl)) (by decide) (by decide) (fun K hK => ?_) (fun K hK => ?_)
            ·skip
             refine Kd.R_append_rows_step k58 (w0 := W0) W0.heap.size (by rfl) (.tmp 47) (.tmp 49) 29 58 (.agg #[(.int .i64 0), (.int .i64 0), (.bool false)]) 24 rfl Try.underlying29 jg rfl (by decide) (by omega) vC l [(⟨b.f0, b.f1, b.f2⟩ : S58)] _ _ _ (fun _ => True) (fun _ => False) rfl rfl hC (Kd.qw hS).2.2 (fun _ _ h => h) (fun _ h => h.elim) (fun _ _ => trivial) hHeld hHeld.size (by have := HLN.out; simp only [List.length_cons, List.length_nil] at *; omega) ?_
             intro vA w9 nA hB2 hg hat
             clear hat;rw [← HYS.out] at nA;obtain ⟨AA, cA, eA⟩ := Kd.zn nA;subst eA
             refine hK.out _ _ hB2 (fun hHeld => ?_)
             clear hK K
             refine norm_ (a' := ?_) ?_ ?_
             rotate_left
             ·show Act.put _ (some 50) _ = _
              simp only [Act.put, sA_, sB_, sC_, i64_w, i32_w]
              rfl
             refine pure_ (i := 10) (N := some 51) (v := ?_) (a' := ?_) #[true, true, true, true, true, true, true, true, true, true, true, false, false] rfl rfl (qu HT_.out (by kernel_rfl)) (fun _ _ _ h => h) (Or.inl ⟨by rfl, ?_⟩) ?_ ?_
             rotate_left
             ·intro w'
              go_simp
              with_reducible rfl
             rotate_left
             ·simp only [Act.put, sA_, sB_, sC_, i64_w, i32_w]
              rfl
             exact norm_ (by first | (simp only [zx, Act.put, sA_, sB_, sC_]; done) | (simp only [zx, Act.put, sA_, sB_, sC_]; rfl)) (hJCSA ⟨vC, (.slice AS [(⟨b.f0, b.f1, b.f2⟩ : S58)].length cS : Value), (.slice AA ys.length cA : Value)⟩ _ ⟨hB2, nA⟩)
            ·skip
             refine box_step ?hg (N := 13) ?hd (cs := #[.int .i64 0, .int .i64 0, .slice none 0 0]) (t := 31) ?hr ?_; (case hd => rfl); (case hg => rfl); (case hr => first | (go_simp; done) | (go_simp; rfl))
             intro gL hgq w9 nbL hb
             have ngL : W0.heap.size ≤ gL := by rw [hgq]; exact hHeld.size
             have hB2 := zi hHeld hHeld.size hb;have nC := Kd.qv hC hb;have nS := Kd.qv hS hb
             refine hK.out _ _ hB2 (fun hHeld => ?_)
             clear hK K
             refine norm_ (a' := ?_) ?_ ?_
             rotate_left
             ·show Act.put _ (some 13) _ = _
              simp only [Act.put, sA_, sB_, sC_, i64_w, i32_w]
              rfl
             exact norm_ (by first | (simp only [zx, Act.put, sA_, sB_, sC_]; done) | (simp only [zx, Act.put, sA_, sB_, sC_]; rfl)) (hJCSL ⟨vC, (.slice AS [(⟨b.f0, b.f1, b.f2⟩ : S58)].length cS : Value), gL⟩ _ ⟨hB2, nC, nS, ngL, nbL⟩)
          ·skip
           clear hHeld
           rintro ⟨vC, gL⟩ w8 ⟨hHeld, hC, hgL, hbL⟩
           refine norm_ (a' := ?_) ?_ ?_
           rotate_left
           ·simp only [zx, Act.put, sA_, sB_, sC_]
            rfl
           refine one_ (i := 8) (N := some 49) #[true, true, true, true, true, true, true, true, true, false, false, true, false] rfl rfl (zw HT_.out (by kernel_rfl)) (by decide) (fun K hK => ?_)
           ·skip
            refine Kd.zz k58 _ 58 ?hg (N := 49) ?hd (xs := ([(⟨b.f0, b.f1, b.f2⟩ : S58)] : List (S58))) (inner := [.int .i64 b.f0, .int .i64 b.f1, .bool b.f2]) (ok := fun _ => True) (okp := fun _ => True) ?hr ?hp (fun _ hk => hk) trivial (Below.refl _ _) (Nat.le_refl _) (by simp) ?_; (case hd => rfl); (case hg => rfl); (case hr => first | (go_simp; done) | (go_simp; rfl)); (case hp => exact (Reps.c3 (show Kd.M k58 _ _ _ (⟨b.f0, b.f1, b.f2⟩ : S58) [.int .i64 b.f0, .int .i64 b.f1, .bool b.f2] from (k58_mkM _ _ _ (⟨b.f0, b.f1, b.f2⟩ : S58))) (Reps.none _ _)))
            intro vS w9 ho hb hg_ hnew_
            clear hg_ hnew_;have nS := Kd.zp ho hHeld.size;have hB2 := zi hHeld hHeld.size hb;have nC := Kd.qv hC hb;have nbL := (hb.block _ (zd hbL)).trans hbL;have ngL := hgL
            refine hK.out _ _ hB2 (fun hHeld => ?_)
            clear hK K
            refine norm_ (a' := ?_) ?_ ?_
            rotate_left
            ·show Act.put _ (some 49) _ = _
             simp only [Act.put, sA_, sB_, sC_, i64_w, i32_w]
             rfl
            exact norm_ (by first | (simp only [zx, Act.put, sA_, sB_, sC_]; done) | (simp only [zx, Act.put, sA_, sB_, sC_]; rfl)) (hJCSL ⟨vC, vS, gL⟩ _ ⟨hB2, nC, nS, ngL, nbL⟩)
         ·skip
          clear hHeld
          rintro ⟨vS, gL⟩ w8 ⟨hHeld, hS, hgL, hbL⟩
          refine norm_ (a' := ?_) ?_ ?_
          rotate_left
          ·simp only [zx, Act.put, sA_, sB_, sC_]
           rfl
          refine one_ (i := 6) (N := some 47) #[true, true, true, true, true, true, true, true, true, false, false, true, false] rfl rfl (zw HT_.out (by kernel_rfl)) (by decide) (fun K hK => ?_)
          ·skip
           refine goes_ Try.func55 (by kernel_rfl) rfl #[.slice A0_2 l0_2.length c0_2] (by rfl) rfl rfl (by (try simp only [List.map_toArray, List.map_cons, List.map_nil]); first | done | rfl | (simp only [List.length_drop, List.length_take]; rfl)) ?_
           with_reducible refine (impl_Block_55.calls _ _ l0_2 l _ (Kd.qz HLW.out hHeld) hc0_2 HCL.out).mono ?_
           rintro e w9 ⟨vC, rfl, ho, hb⟩
           refine ⟨_, rfl, ?_⟩
           have nC := Kd.zh (Kd.zp ho hHeld.size) (fun _ _ => trivial);have hB2 := zi hHeld hHeld.size hb;have nS := Kd.qv hS hb;have nbL := (hb.block _ (zd hbL)).trans hbL;have ngL := hgL
           refine hK.out _ _ hB2 (fun hHeld => ?_)
           clear hK K
           refine norm_ (a' := ?_) ?_ ?_
           rotate_left
           ·show Act.put _ (some 47) _ = _
            simp only [Act.put, sA_, sB_, sC_, i64_w, i32_w]
            rfl
           exact norm_ (by first | (simp only [zx, Act.put, sA_, sB_, sC_]; done) | (simp only [zx, Act.put, sA_, sB_, sC_]; rfl)) (hJCSL ⟨vC, vS, gL⟩ _ ⟨hB2, nC, nS, ngL, nbL⟩)
        ·skip
         clear hHeld
         rintro ⟨vC, vS, gL⟩ w8 ⟨hHeld, hC, hS, hgL, hbL⟩
         obtain ⟨AS, cS, eS⟩ := Kd.zn hS;subst eS
         refine norm_ (a' := ?_) ?_ ?_
         rotate_left
         ·simp only [zx, Act.put, sA_, sB_, sC_]
          rfl
         refine one_ (i := 9) (N := some 50) #[true, true, true, true, true, true, true, true, true, true, false, true, false] rfl rfl (zw HT_.out (by kernel_rfl)) (by decide) (fun K hK => ?_)
         ·skip
          refine Kd.R_append_rows_step k58 (w0 := W0) W0.heap.size (by rfl) (.tmp 47) (.tmp 49) 29 58 (.agg #[(.int .i64 0), (.int .i64 0), (.bool false)]) 24 rfl Try.underlying29 jg rfl (by decide) (by omega) vC l [(⟨b.f0, b.f1, b.f2⟩ : S58)] _ _ _ (fun _ => True) (fun _ => False) rfl rfl hC (Kd.qw hS).2.2 (fun _ _ h => h) (fun _ h => h.elim) (fun _ _ => trivial) hHeld hHeld.size (by have := HLN.out; simp only [List.length_cons, List.length_nil] at *; omega) ?_
          intro vA w9 nA hB2 hg hat
          clear hat;rw [← HYS.out] at nA;have nbL := zq hbL hg (Kd.R_ne hC hbL (by decide));have ngL := hgL;obtain ⟨AA, cA, eA⟩ := Kd.zn nA;subst eA
          refine hK.out _ _ hB2 (fun hHeld => ?_)
          clear hK K
          refine norm_ (a' := ?_) ?_ ?_
          rotate_left
          ·show Act.put _ (some 50) _ = _
           simp only [Act.put, sA_, sB_, sC_, i64_w, i32_w]
           rfl
          refine pure_ (i := 10) (N := some 51) (v := ?_) (a' := ?_) #[true, true, true, true, true, true, true, true, true, true, true, true, false] rfl rfl (qu HT_.out (by kernel_rfl)) (fun _ _ _ h => h) (Or.inl ⟨by rfl, ?_⟩) ?_ ?_
          rotate_left
          ·intro w'
           go_simp
           with_reducible rfl
          rotate_left
          ·simp only [Act.put, sA_, sB_, sC_, i64_w, i32_w]
           rfl
          exact norm_ (by first | (simp only [zx, Act.put, sA_, sB_, sC_]; done) | (simp only [zx, Act.put, sA_, sB_, sC_]; rfl)) (hJCSAL ⟨vC, (.slice AS [(⟨b.f0, b.f1, b.f2⟩ : S58)].length cS : Value), (.slice AA ys.length cA : Value), gL⟩ _ ⟨hB2, nA, ngL, nbL⟩)
       ·skip
        clear hHeld
        rintro ⟨vC, vS, vA⟩ w8 ⟨hHeld, hA⟩
        refine norm_ (a' := ?_) ?_ ?_
        rotate_left
        ·simp only [zx, Act.put, sA_, sB_, sC_]
         rfl
        refine one_ (i := 11) (N := some 13) #[true, true, true, true, true, true, true, true, true, true, true, true, false] rfl rfl (zw HT_.out (by kernel_rfl)) (by decide) (fun K hK => ?_)
        ·skip
         refine box_step ?hg (N := 13) ?hd (cs := #[.int .i64 0, .int .i64 0, .slice none 0 0]) (t := 31) ?hr ?_; (case hd => rfl); (case hg => rfl); (case hr => first | (go_simp; done) | (go_simp; rfl))
         intro gL hgq w9 nbL hb
         have ngL : W0.heap.size ≤ gL := by rw [hgq]; exact hHeld.size
         have hB2 := zi hHeld hHeld.size hb;have nA := Kd.qv hA hb
         refine hK.out _ _ hB2 (fun hHeld => ?_)
         clear hK K
         refine norm_ (a' := ?_) ?_ ?_
         rotate_left
         ·show Act.put _ (some 13) _ = _
          simp only [Act.put, sA_, sB_, sC_, i64_w, i32_w]
          rfl
         exact norm_ (by first | (simp only [zx, Act.put, sA_, sB_, sC_]; done) | (simp only [zx, Act.put, sA_, sB_, sC_]; rfl)) (hJCSAL ⟨vC, vS, vA, gL⟩ _ ⟨hB2, nA, ngL, nbL⟩)
      ·skip
       clear hHeld
       rintro ⟨vC, vS, vA, gL⟩ w8 ⟨hHeld, hA, hgL, hbL⟩
       obtain ⟨AZ, cZ, eZ⟩ := Kd.zn hA;subst eZ
       refine norm_ (a' := ?_) ?_ ?_
       rotate_left
       ·simp only [zx, Act.put, sA_, sB_, sC_]
        rfl
       refine one_ (i := 12) (N := none) #[true, true, true, true, true, true, true, true, true, true, true, true, true] rfl rfl (zw HT_.out (by kernel_rfl)) (by decide) (fun K hK => ?_)
       have hz0 : w8.cell? ⟨gL, 0, none⟩ = some (.int .i64 0) := (qc hbL 0).trans rfl;have hf0 := qj hbL 0;have hz1 : w8.cell? ⟨gL, 1, none⟩ = some (.int .i64 0) := (qc hbL 1).trans rfl;have hf1 := qj hbL 1;have hz2 : w8.cell? ⟨gL, 2, none⟩ = some (.slice none 0 0) := (qc hbL 2).trans rfl;have hf2 := qj hbL 2
       refine skip_ (w1 := ?_) (by rfl) rfl ?_ ?_
       rotate_left
       ·go_simp
        rfl
       have hB2 := qf (j := 2) (qf (j := 1) (qf (j := 0) hHeld hgL (v := .int .i64 a0_0)) hgL (v := .int .i64 a0_1)) hgL (v := .slice AZ ys.length cZ)
       refine hK.out _ _ hB2 (fun hHeld2 => ?_)
       clear hK K
       refine done_ (je HT_.out (by kernel_rfl)) ?_
       have HH := Lib.hid (show (((w8.setCell ⟨gL, 0, none⟩ (.int .i64 a0_0)).setCell ⟨gL, 1, none⟩ (.int .i64 a0_1)).setCell ⟨gL, 2, none⟩ (.slice AZ ys.length cZ)).heap[gL]? = some (.cells #[.int .i64 a0_0, .int .i64 a0_1, .slice AZ ys.length cZ] 31 (0, 0)) by
        refine zj (cs := #[.int .i64 a0_0, .int .i64 a0_1, .slice none 0 0]) ?_ 2 _ rfl
        refine zj (cs := #[.int .i64 a0_0, .int .i64 0, .slice none 0 0]) ?_ 1 _ rfl
        refine zj (cs := #[.int .i64 0, .int .i64 0, .slice none 0 0]) ?_ 0 _ rfl
        exact hbL)
       have HR5 := Lib.hid (Kd.zh (Kd.R_far (p := ⟨gL, 2, none⟩) (Kd.R_far (p := ⟨gL, 1, none⟩) (Kd.R_far (p := ⟨gL, 0, none⟩) (Kd.R_far1 hA rfl (Kd.R_ne hA hbL (by decide))) (fun _ hk => hk.2) (.int .i64 a0_0)) (fun _ hk => hk.2) (.int .i64 a0_1)) (fun _ hk => hk.2) (.slice AZ ys.length cZ)) (fun _ _ => trivial));have HB5 := Lib.hid hHeld2
       generalize ((w8.setCell ⟨gL, 0, none⟩ (.int .i64 a0_0)).setCell ⟨gL, 1, none⟩ (.int .i64 a0_1)).setCell ⟨gL, 2, none⟩ (.slice AZ ys.length cZ) = W5 at HH HR5 HB5 ⊢
       clear hz0 hz1 hz2 hf0 hf1 hf2 hB2 hHeld2 hHeld hA hbL HT_ HW_ hcz0 hcz1 hcz2 hbz0 hbz1 hbz2;have hd0 : W5.cell? ⟨gL, 0, none⟩ = some (.int .i64 a0_0) := (qc HH.out 0).trans rfl;have hd1 : W5.cell? ⟨gL, 1, none⟩ = some (.int .i64 a0_1) := (qc HH.out 1).trans rfl;have hd2 : W5.cell? ⟨gL, 2, none⟩ = some (.slice AZ ys.length cZ) := (qc HH.out 2).trans rfl;obtain ⟨_, hl5, hC5⟩ := Kd.qw HR5.out;have HRV := Lib.hid (Kd.qv HR8.out HB5.out);have HBV := Lib.hid (zi HB8.out HB8.out.size HB5.out);have HGV := Lib.hid ((HB5.out.block _ (zd HG9.out)).trans HG9.out);cases u2 with
       | true =>
        have hgo := HGO.out;rw [if_pos rfl] at hgo;have HGN := Lib.hid hgo;clear hgo HGO
        go_wp2_with (go_at_call 45; (with_reducible refine (impl_distanceIn.calls k a0_0 a0_1 AZ cZ ys A1 c1 l1 A2 c2 l2 d2 true _ hC5 hl5 (Kd.qz HA4.out HBV.out) hc1 (Kd.qz HA5.out HBV.out) hc2 HD2.out).mono ?_); rintro e w6 ⟨rfl, hb6⟩; have HB9 := Lib.hid (zi HBV.out HBV.out.size hb6); have HR9 := Lib.hid (Kd.qv HRV.out hb6); clear hb6)
        go_roundg (bs.length - (i + 1))
        case measure => omega
        case rel => exact ⟨i + 1, acc, by go_num, rfl, by omega, HGN, HR9, HB9⟩
       | false =>
        have hgo := HGO.out;rw [if_neg (show ¬ ((d2, false).2 = true) by simp)] at hgo
        by_cases hq : acc.length < 500000
        case neg => rw [if_neg hq] at hgo; cases hgo
        rw [if_pos hq] at hgo;have HGN := Lib.hid hgo;have HQ := Lib.hid hq;clear hgo hq HGO;obtain ⟨A6, c6, e6⟩ := Kd.zn HRV.out;subst e6
        go_wp2_with (first | (go_at_call 45; (with_reducible refine (impl_distanceIn.calls k a0_0 a0_1 AZ cZ ys A1 c1 l1 A2 c2 l2 d2 false _ hC5 hl5 (Kd.qz HA4.out HBV.out) hc1 (Kd.qz HA5.out HBV.out) hc2 HD2.out).mono ?_); rintro e w6 ⟨rfl, hb6⟩; have HB9 := Lib.hid (zi HBV.out HBV.out.size hb6); have HR9 := Lib.hid (Kd.qv HRV.out hb6); have HG10 := Lib.hid ((hb6.block _ (zd HGV.out)).trans HGV.out); have hbz0 := (qc HG10.out 0).trans rfl; have hbz1 := (qc HG10.out 1).trans rfl; have hbz2 := (qc HG10.out 2).trans rfl; clear hb6) | ((with_reducible refine gate_builtin (b := .append) (xs := #[.tmp 61, .tmp 63]) rfl ?_); at_builtin; refine Kd.R_append k58 (w0 := V0) V0.heap.size rfl (.tmp 61) (.tmp 63) 29 58 (.agg #[(.int .i64 0), (.int .i64 0), (.bool false)]) 24 rfl Try.underlying29 jg rfl (by decide) (by omega) _ acc (⟨b.f0, b.f1, b.f2⟩ : S58) [.int .i64 b.f0, .int .i64 b.f1, .bool b.f2] (fun _ => True) (fun _ => False) rfl rfl ?aP (fun _ hk => hk.elim) ?aF ?aO ?aB ?aS ?aL ?_; (case aP => exact k58_mkM _ _ _ (⟨b.f0, b.f1, b.f2⟩ : S58)); (case aB => exact HB9.out); (case aF => exact (fun _ _ => trivial)); (case aO => exact HR9.out); (case aS => exact (ql HB9.out)); (case aL => have := HQ.out; omega); intro v10 w10 ho hb hg hat; have HR10 := Lib.hid ho; have HB10 := Lib.hid hb; clear ho hb hg hat))
        go_roundg (bs.length - (i + 1))
        case measure => omega
        case rel => exact ⟨i + 1, acc ++ [b], by go_num, rfl, by omega, HGN, HR10, HB10⟩
    ·have cb1 : decide ((i : Int) < (bs.length : Int)) = false := decide_eq_false (by omega)
     have hg := HG.out;rw [List.drop_eq_nil_of_le (by omega)] at hg;obtain rfl : acc = r := Option.some.inj hg;clear hg;obtain ⟨AF, cF, eF⟩ := Kd.zn HR6.out;subst eF
     go_wp2
     go_ret2
     exact ⟨_, rfl, Kd.zp HR6.out HB4.out.size, HB4.out.trans (HB6.out.mono HB4.out.size)⟩
def laws_markBlockS.l0 : Nat → List (S58) → Int → Int → Option (Int × (List (S58)))
 | 0, _, _, _ => none
 | k + 1, x0, x1, x5 => if x5 < (x0.length : Int) then (if 0 ≤ x5 then ((some (x0.set (x5 : Int).toNat (⟨x1, (qk x0 x5).f1, (qk x0 x5).f2⟩ : S58) : List (S58))).bind fun y302 => ((some (y302.set (x5 : Int).toNat (⟨(qk y302 x5).f0, wrap64 (x1 + 1), (qk y302 x5).f2⟩ : S58) : List (S58))).bind fun y303 => (laws_markBlockS.l0 k (y303.set (x5 : Int).toNat (⟨(qk y303 x5).f0, (qk y303 x5).f1, ((Int.tmod (wrap64 ((wrap64 (x1 + 1)) + 1)) 3) == 0)⟩ : S58)) (wrap64 ((wrap64 ((wrap64 (x1 + 1)) + 1)) + 1)) (wrap64 (x5 + 1))))) else (none)) else (some (x1, x0))
def laws_markBlockS.f (k : Nat) (l0 : List (S58)) (a1 : Int) : Option (Int × (List (S58))) := laws_markBlockS.l0 k l0 a1 0
theorem laws_markBlockS.zt : ∀ k, (∀ y0 y1 y2, LeO (laws_markBlockS.l0 k y0 y1 y2) (laws_markBlockS.l0 (k + 1) y0 y1 y2))
 | 0 => fun _ _ _ r h => by simp [laws_markBlockS.l0] at h
 | k + 1 => by
  have ih0 := laws_markBlockS.zt k
  ·intro y0 y1 y2
   unfold laws_markBlockS.l0
   repeat' first
   | (with_reducible exact ih0 _ _ _)
   | (with_reducible exact LeO.refl _)
   | (with_reducible exact LeO.none _)
   | (with_reducible refine LeO.ite ?_ ?_)
   | (with_reducible refine LeO.bind ?_ (fun _ => ?_))
   | exact ih0 _ _ _
   | exact LeO.none _
   | refine LeO.ite ?_ ?_
   | refine LeO.bind ?_ (fun _ => ?_)
theorem laws_markBlockS.mono : ∀ a0 a1 k, LeO (laws_markBlockS.f k a0 a1) (laws_markBlockS.f (k + 1) a0 a1) := by
 intro a0 a1 k
 have ih0 := laws_markBlockS.zt k
 unfold laws_markBlockS.f
 repeat' first
   | (with_reducible exact ih0 _ _ _)
   | (with_reducible exact LeO.refl _)
   | (with_reducible exact LeO.none _)
   | (with_reducible refine LeO.ite ?_ ?_)
   | (with_reducible refine LeO.bind ?_ (fun _ => ?_))
   | exact ih0 _ _ _
   | exact LeO.none _
   | refine LeO.ite ?_ ?_
   | refine LeO.bind ?_ (fun _ => ?_)
set_option maxHeartbeats 8000000 in
set_option maxRecDepth 100000 in
theorem laws_markBlockS.calls (k : Nat) (P0_ : Nat → Prop) (u9000_ : Value) (l0 : List (S58)) (a1 : Int) (r1 : Int) (r2 : List (S58)) (w0 w : World) (hB : Below w0.heap.size w0 w) (ho0 : Kd.R k58 58 w w0.heap.size P0_ u9000_ l0) (h : laws_markBlockS.f k l0 a1 = some (r1, r2)) :
  Calls Try.prog 23 #[u9000_, .int .i64 a1] w fun e w' => e = .returned (.int .i64 r1) ∧ Kd.R k58 58 w' w0.heap.size (fun k_ => (P0_ k_ ∨ w.heap.size ≤ k_)) u9000_ r2 ∧ Below w0.heap.size w0 w' ∧ Kept w w' (fun k_ => P0_ k_) := by
 have b8 := qb.mk (show Kd.R k58 58 w w0.heap.size (fun k_ => (P0_ k_ ∨ w.heap.size ≤ k_)) u9000_ l0 from Kd.zh ho0 (fun k_ hk => (.inl hk)));have HK := qb.mk (Kept.refl w (fun k_ => P0_ k_));have HW0 := qb.mk hB.size;have HB := qb.mk hB;clear hB;have H : (laws_markBlockS.l0 k l0 a1 0) = some (r1, r2) := h;clear h;have H' := qb.mk H;clear H
 go_enter Try.func23, Try.ntmps23
 go_wp2
 go_loopg [1, 5] k (fun kq v1 v5 w' => ∃ (x0_1 : List (S58)) (x1_1 : Int) (x5_1 : Int), v1 = .int .i64 x1_1 ∧ v5 = .int .i64 x5_1 ∧ qb (laws_markBlockS.l0 kq x0_1 x1_1 x5_1 = some (r1, r2)) ∧ qb (kq ≤ k) ∧ qb (Kd.R k58 58 w' w0.heap.size (fun k_ => (P0_ k_ ∨ w.heap.size ≤ k_)) u9000_ x0_1) ∧ qb (Kept w w' (fun k_ => P0_ k_)) ∧ qb (Below w0.heap.size w0 w'))
 case atStart => exact ⟨(l0), (a1), (0), (by first | rfl | (simp; done) | (simp [*]; done)), (by first | rfl | (simp; done) | (simp [*]; done)), H', ⟨Nat.le_refl _⟩, ⟨kr_ b8⟩, ⟨by repeat (first | (with_reducible first | exact HK.out | apply Kept.alloc | apply Kept.drewN | apply Kept.drew) | exact HK.out)⟩, ⟨be0_ HB⟩⟩
 case round =>
  clear H';obtain ⟨x0_1, x1_1, x5_1, rfl, rfl, HA, HK1, b0, HK, HB⟩ := hrel;cases gk with
  | zero => exact absurd HA.out (by simp [laws_markBlockS.l0])
  | succ k1 =>
   have H := HA.out;clear HA
   simp only [laws_markBlockS.l0] at H
   by_cases c3 : x5_1 < (x0_1.length : Int)
   ·rw [if_pos c3] at H
    have c3b0 : decide (x5_1 < (x0_1.length : Int)) = true := decide_eq_true c3;clear c3
    by_cases c4 : 0 ≤ x5_1
    ·rw [if_pos c4] at H
     have c4b0 : decide (0 ≤ x5_1) = true := decide_eq_true c4;clear c4;obtain ⟨b2, hy302⟩ : ∃ y_ : List (S58), y_ = (x0_1.set (x5_1 : Int).toNat (⟨x1_1, (qk x0_1 x5_1).f1, (qk x0_1 x5_1).f2⟩ : S58)) := ⟨_, rfl⟩;replace H : ((some (b2.set (x5_1 : Int).toNat (⟨(qk b2 x5_1).f0, wrap64 (x1_1 + 1), (qk b2 x5_1).f2⟩ : S58) : List (S58))).bind fun b1 => (laws_markBlockS.l0 k1 (b1.set (x5_1 : Int).toNat (⟨(qk b1 x5_1).f0, (qk b1 x5_1).f1, ((Int.tmod (wrap64 ((wrap64 (x1_1 + 1)) + 1)) 3) == 0)⟩ : S58)) (wrap64 ((wrap64 ((wrap64 (x1_1 + 1)) + 1)) + 1)) (wrap64 (x5_1 + 1)))) = some (r1, r2) := by first | (rw [hy302]; with_reducible exact H) | (have H2_ := (Option.bind_some _ _).symm.trans H; rw [hy302]; with_reducible exact H2_) | (have H2_ := (Option.bind_some _ _).symm.trans H; with_reducible exact H2_) | with_reducible exact H | (rw [hy302]; exact H) | exact H
     have b4 := qb.mk hy302;clear hy302;obtain ⟨b1, hy303⟩ : ∃ y_ : List (S58), y_ = (b2.set (x5_1 : Int).toNat (⟨(qk b2 x5_1).f0, wrap64 (x1_1 + 1), (qk b2 x5_1).f2⟩ : S58)) := ⟨_, rfl⟩;replace H : (laws_markBlockS.l0 k1 (b1.set (x5_1 : Int).toNat (⟨(qk b1 x5_1).f0, (qk b1 x5_1).f1, ((Int.tmod (wrap64 ((wrap64 (x1_1 + 1)) + 1)) 3) == 0)⟩ : S58)) (wrap64 ((wrap64 ((wrap64 (x1_1 + 1)) + 1)) + 1)) (wrap64 (x5_1 + 1))) = some (r1, r2) := by first | (rw [hy303]; with_reducible exact H) | (have H2_ := (Option.bind_some _ _).symm.trans H; rw [hy303]; with_reducible exact H2_) | (have H2_ := (Option.bind_some _ _).symm.trans H; with_reducible exact H2_) | with_reducible exact H | (rw [hy303]; exact H) | exact H
     have b5 := qb.mk hy303;clear hy303;obtain ⟨b3, hy304⟩ : ∃ y_ : List (S58), y_ = (b1.set (x5_1 : Int).toNat (⟨(qk b1 x5_1).f0, (qk b1 x5_1).f1, ((Int.tmod (wrap64 ((wrap64 (x1_1 + 1)) + 1)) 3) == 0)⟩ : S58)) := ⟨_, rfl⟩;replace H : (laws_markBlockS.l0 k1 b3 (wrap64 ((wrap64 ((wrap64 (x1_1 + 1)) + 1)) + 1)) (wrap64 (x5_1 + 1))) = some (r1, r2) := by first | (rw [hy304]; with_reducible exact H) | (have H2_ := (Option.bind_some _ _).symm.trans H; rw [hy304]; with_reducible exact H2_) | (have H2_ := (Option.bind_some _ _).symm.trans H; with_reducible exact H2_) | with_reducible exact H | (rw [hy304]; exact H) | exact H
     have b6 := qb.mk hy304;clear hy304;have H' := qb.mk H;clear H;obtain ⟨Ao8, co8, eo8⟩ := Kd.zn b0.out;subst eo8;have p5 : 0 ≤ (x5_1 : Int) := of_decide_eq_true (by first | (with_reducible assumption) | assumption);have q5 : (x5_1 : Int) < ((x0_1.length : Int) : Int) := of_decide_eq_true (by first | (with_reducible assumption) | assumption);obtain ⟨go5, co5, eo5, b7, gl5, cl5, HG5⟩ := Kd.R_form b0.out (by omega)
     (first | cases eo5 | (injection eo5 with ea_ en_ ec_; (first | subst ea_ | (injection ea_ with ea_; subst ea_)); subst ec_; clear en_))
     have GB5 := qb.mk b7;have GG5 := qb.mk HG5;clear b7 gl5 HG5;have HMgo5 := qb.mk (show (P0_ go5 ∨ w.heap.size ≤ go5) from (b0.out.1 _ rfl));obtain ⟨ce5, hcl5, hM5, hcc5, hfr5⟩ := Kd.R_elem b0.out z58 (x5_1 : Int) p5 q5;obtain rfl := k58_openM hM5;have hx5_0 : wr.cell? ⟨go5, (x5_1 : Int).toNat * 3, none⟩ = some (.int .i64 ((qk x0_1 x5_1).f0)) := hcc5 0 _ rfl;have hx5_1 : wr.cell? ⟨go5, (x5_1 : Int).toNat * 3 + 1, none⟩ = some (.int .i64 ((qk x0_1 x5_1).f1)) := hcc5 1 _ rfl;have hx5_2 : wr.cell? ⟨go5, (x5_1 : Int).toNat * 3 + 2, none⟩ = some (.bool ((qk x0_1 x5_1).f2)) := hcc5 2 _ rfl;have hf5_0 : wr.frozen? ⟨go5, (x5_1 : Int).toNat * 3, none⟩ = false := hfr5 0;have hf5_1 : wr.frozen? ⟨go5, (x5_1 : Int).toNat * 3 + 1, none⟩ = false := hfr5 1;have hf5_2 : wr.frozen? ⟨go5, (x5_1 : Int).toNat * 3 + 2, none⟩ = false := hfr5 2;(try clear hM5); clear hcl5 hcc5 hfr5;replace p5 := eq_true p5;replace q5 := eq_true q5;have HX9 := qb.mk (show Kd.R k58 58 wr w0.heap.size (fun k_ => (P0_ k_ ∨ w.heap.size ≤ k_)) (.slice (some ⟨go5, 0, none⟩) x0_1.length co8) x0_1 from (kr_ b0));obtain ⟨ce9, hcl9, hM9, hcc9, hfr9⟩ := Kd.R_elem HX9.out z58 (x5_1 : Int) (of_decide_eq_true (by first | (with_reducible assumption) | assumption)) (by have h_ : (x5_1 : Int) < ((x0_1.length : Int) : Int) := of_decide_eq_true (by first | (with_reducible assumption) | assumption); first | exact h_ | (have e_ := (Kd.qw b0.out).1; omega) | simpa using h_);obtain rfl := k58_openM hM9;have HP9 := Kd.R_seg HX9.out (x5_1 : Int) (of_decide_eq_true (by first | (with_reducible assumption) | assumption)) (by have h_ : (x5_1 : Int) < ((x0_1.length : Int) : Int) := of_decide_eq_true (by first | (with_reducible assumption) | assumption); first | exact h_ | (have e_ := (Kd.qw b0.out).1; omega) | simpa using h_) (seg := [.int .i64 x1_1]) (j := 0) hcl9 hcc9 (show 1 ≤ 3 from by decide) (x' := (⟨x1_1, (qk x0_1 x5_1).f1, (qk x0_1 x5_1).f2⟩ : S58)) (k58_mkM _ _ _ (⟨x1_1, (qk x0_1 x5_1).f1, (qk x0_1 x5_1).f2⟩ : S58) ) (fun _ hk => hk)
     have hx9_0 := hcc9 0 _ rfl
     (try simp only [show (k58).sz = 3 from rfl, Nat.mul_one, Nat.add_zero] at hx9_0)
     have hf9_0 := hfr9 0
     (try simp only [show (k58).sz = 3 from rfl, Nat.mul_one, Nat.add_zero] at hf9_0)
     (try clear hM9); clear hcl9 hcc9 hfr9
     go_wp2_with (first | ((with_reducible refine gate_store (t := 3) (p := 16) rfl ?_); refine store_event (t := 3) (p := 16) (v := ?vo_w10) (w1 := (wr.setCell ⟨go5, (x5_1 : Int).toNat * 3, none⟩ (.int .i64 x1_1))) ?hg ?ho ?hn ?hr ?_; (case ho => rfl); (case hg => rfl); (case hn => rfl); (case hr => first | (go_simp; done) | (go_simp; rfl)); intro w10 hw; have hg : wr.grownBy w10 (some go5) := (by rw [hw]; exact HP9.2); have hp_ : Kd.R k58 58 w10 w0.heap.size (fun k_ => (P0_ k_ ∨ w.heap.size ≤ k_)) (.slice (some ⟨go5, 0, none⟩) x0_1.length co8) b2 := (by rw [hw, b4.out]; exact HP9.1); clear HP9; have n0_ := qb.mk (hp_); have n1_ := qb.mk ((by rw [hw]; exact qf (HB.out) GB5.out : Below w0.heap.size w0 w10)); have n2_ := qb.mk (Kept.of_grown (S := (fun k_ => P0_ k_)) hg (by repeat (first | (with_reducible first | exact HK.out | apply Kept.alloc | apply Kept.drewN | apply Kept.drew) | exact HK.out)) (fun k_ e_ => (b0.out.1 k_ e_))); clear b0; clear HB; clear HK; have b0 := n0_; have HB := n1_; have HK := n2_; clear n0_ n1_ n2_; clear hg hw hp_; have p6 : 0 ≤ (x5_1 : Int) := of_decide_eq_true (by first | (with_reducible assumption) | assumption); have q6 : (x5_1 : Int) < ((x0_1.length : Int) : Int) := of_decide_eq_true (by first | (with_reducible assumption) | assumption); obtain ⟨ce6, hcl6, hM6, hcc6, hfr6⟩ := Kd.R_elem b0.out z58 (x5_1 : Int) p6 q6; obtain rfl := k58_openM hM6; have hx6_0 : w10.cell? ⟨go5, (x5_1 : Int).toNat * 3, none⟩ = some (.int .i64 ((qk b2 x5_1).f0)) := hcc6 0 _ rfl; have hx6_1 : w10.cell? ⟨go5, (x5_1 : Int).toNat * 3 + 1, none⟩ = some (.int .i64 ((qk b2 x5_1).f1)) := hcc6 1 _ rfl; have hx6_2 : w10.cell? ⟨go5, (x5_1 : Int).toNat * 3 + 2, none⟩ = some (.bool ((qk b2 x5_1).f2)) := hcc6 2 _ rfl; have hf6_0 : w10.frozen? ⟨go5, (x5_1 : Int).toNat * 3, none⟩ = false := hfr6 0; have hf6_1 : w10.frozen? ⟨go5, (x5_1 : Int).toNat * 3 + 1, none⟩ = false := hfr6 1; have hf6_2 : w10.frozen? ⟨go5, (x5_1 : Int).toNat * 3 + 2, none⟩ = false := hfr6 2; (try clear hM6); clear hcl6 hcc6 hfr6; replace p6 := eq_true p6; replace q6 := eq_true q6; have HX11 := qb.mk (show Kd.R k58 58 w10 w0.heap.size (fun k_ => (P0_ k_ ∨ w.heap.size ≤ k_)) (.slice (some ⟨go5, 0, none⟩) x0_1.length co8) b2 from (kr_ b0)); obtain ⟨ce11, hcl11, hM11, hcc11, hfr11⟩ := Kd.R_elem HX11.out z58 (x5_1 : Int) (of_decide_eq_true (by first | (with_reducible assumption) | assumption)) (by have h_ : (x5_1 : Int) < ((x0_1.length : Int) : Int) := of_decide_eq_true (by first | (with_reducible assumption) | assumption); first | exact h_ | (have e_ := (Kd.qw b0.out).1; omega) | simpa using h_); obtain rfl := k58_openM hM11; have HP11 := Kd.R_seg HX11.out (x5_1 : Int) (of_decide_eq_true (by first | (with_reducible assumption) | assumption)) (by have h_ : (x5_1 : Int) < ((x0_1.length : Int) : Int) := of_decide_eq_true (by first | (with_reducible assumption) | assumption); first | exact h_ | (have e_ := (Kd.qw b0.out).1; omega) | simpa using h_) (seg := [.int .i64 (wrap64 (x1_1 + 1))]) (j := 1) hcl11 hcc11 (show 2 ≤ 3 from by decide) (x' := (⟨(qk b2 x5_1).f0, wrap64 (x1_1 + 1), (qk b2 x5_1).f2⟩ : S58)) (k58_mkM _ _ _ (⟨(qk b2 x5_1).f0, wrap64 (x1_1 + 1), (qk b2 x5_1).f2⟩ : S58) ) (fun _ hk => hk); have hx11_1 := hcc11 1 _ rfl; (try simp only [show (k58).sz = 3 from rfl, Nat.mul_one, Nat.add_zero] at hx11_1); have hf11_1 := hfr11 1; (try simp only [show (k58).sz = 3 from rfl, Nat.mul_one, Nat.add_zero] at hf11_1); (try clear hM11); clear hcl11 hcc11 hfr11) | ((with_reducible refine gate_store (t := 3) (p := 23) rfl ?_); refine store_event (t := 3) (p := 23) (v := ?vo_w12) (w1 := (w10.setCell ⟨go5, (x5_1 : Int).toNat * 3 + 1, none⟩ (.int .i64 (wrap64 (x1_1 + 1))))) ?hg ?ho ?hn ?hr ?_; (case ho => rfl); (case hg => rfl); (case hn => rfl); (case hr => first | (go_simp; done) | (go_simp; rfl)); intro w12 hw; have hg : w10.grownBy w12 (some go5) := (by rw [hw]; exact HP11.2); have hp_ : Kd.R k58 58 w12 w0.heap.size (fun k_ => (P0_ k_ ∨ w.heap.size ≤ k_)) (.slice (some ⟨go5, 0, none⟩) x0_1.length co8) b1 := (by rw [hw, b5.out]; exact HP11.1); clear HP11; have n0_ := qb.mk (hp_); have n1_ := qb.mk ((by rw [hw]; exact qf (HB.out) GB5.out : Below w0.heap.size w0 w12)); have n2_ := qb.mk (Kept.of_grown (S := (fun k_ => P0_ k_)) hg (by repeat (first | (with_reducible first | exact HK.out | apply Kept.alloc | apply Kept.drewN | apply Kept.drew) | exact HK.out)) (fun k_ e_ => (b0.out.1 k_ e_))); clear b0; clear HB; clear HK; have b0 := n0_; have HB := n1_; have HK := n2_; clear n0_ n1_ n2_; clear hg hw hp_; have p7 : 0 ≤ (x5_1 : Int) := of_decide_eq_true (by first | (with_reducible assumption) | assumption); have q7 : (x5_1 : Int) < ((x0_1.length : Int) : Int) := of_decide_eq_true (by first | (with_reducible assumption) | assumption); obtain ⟨ce7, hcl7, hM7, hcc7, hfr7⟩ := Kd.R_elem b0.out z58 (x5_1 : Int) p7 q7; obtain rfl := k58_openM hM7; have hx7_0 : w12.cell? ⟨go5, (x5_1 : Int).toNat * 3, none⟩ = some (.int .i64 ((qk b1 x5_1).f0)) := hcc7 0 _ rfl; have hx7_1 : w12.cell? ⟨go5, (x5_1 : Int).toNat * 3 + 1, none⟩ = some (.int .i64 ((qk b1 x5_1).f1)) := hcc7 1 _ rfl; have hx7_2 : w12.cell? ⟨go5, (x5_1 : Int).toNat * 3 + 2, none⟩ = some (.bool ((qk b1 x5_1).f2)) := hcc7 2 _ rfl; have hf7_0 : w12.frozen? ⟨go5, (x5_1 : Int).toNat * 3, none⟩ = false := hfr7 0; have hf7_1 : w12.frozen? ⟨go5, (x5_1 : Int).toNat * 3 + 1, none⟩ = false := hfr7 1; have hf7_2 : w12.frozen? ⟨go5, (x5_1 : Int).toNat * 3 + 2, none⟩ = false := hfr7 2; (try clear hM7); clear hcl7 hcc7 hfr7; replace p7 := eq_true p7; replace q7 := eq_true q7; have HX13 := qb.mk (show Kd.R k58 58 w12 w0.heap.size (fun k_ => (P0_ k_ ∨ w.heap.size ≤ k_)) (.slice (some ⟨go5, 0, none⟩) x0_1.length co8) b1 from (kr_ b0)); obtain ⟨ce13, hcl13, hM13, hcc13, hfr13⟩ := Kd.R_elem HX13.out z58 (x5_1 : Int) (of_decide_eq_true (by first | (with_reducible assumption) | assumption)) (by have h_ : (x5_1 : Int) < ((x0_1.length : Int) : Int) := of_decide_eq_true (by first | (with_reducible assumption) | assumption); first | exact h_ | (have e_ := (Kd.qw b0.out).1; omega) | simpa using h_); obtain rfl := k58_openM hM13; have HP13 := Kd.R_seg HX13.out (x5_1 : Int) (of_decide_eq_true (by first | (with_reducible assumption) | assumption)) (by have h_ : (x5_1 : Int) < ((x0_1.length : Int) : Int) := of_decide_eq_true (by first | (with_reducible assumption) | assumption); first | exact h_ | (have e_ := (Kd.qw b0.out).1; omega) | simpa using h_) (seg := [.bool ((Int.tmod (wrap64 ((wrap64 (x1_1 + 1)) + 1)) 3) == 0)]) (j := 2) hcl13 hcc13 (show 3 ≤ 3 from by decide) (x' := (⟨(qk b1 x5_1).f0, (qk b1 x5_1).f1, ((Int.tmod (wrap64 ((wrap64 (x1_1 + 1)) + 1)) 3) == 0)⟩ : S58)) (k58_mkM _ _ _ (⟨(qk b1 x5_1).f0, (qk b1 x5_1).f1, ((Int.tmod (wrap64 ((wrap64 (x1_1 + 1)) + 1)) 3) == 0)⟩ : S58) ) (fun _ hk => hk); have hx13_2 := hcc13 2 _ rfl; (try simp only [show (k58).sz = 3 from rfl, Nat.mul_one, Nat.add_zero] at hx13_2); have hf13_2 := hfr13 2; (try simp only [show (k58).sz = 3 from rfl, Nat.mul_one, Nat.add_zero] at hf13_2); (try clear hM13); clear hcl13 hcc13 hfr13) | ((with_reducible refine gate_store (t := 4) (p := 32) rfl ?_); refine store_event (t := 4) (p := 32) (v := ?vo_w14) (w1 := (w12.setCell ⟨go5, (x5_1 : Int).toNat * 3 + 2, none⟩ (.bool ((Int.tmod (wrap64 ((wrap64 (x1_1 + 1)) + 1)) 3) == 0)))) ?hg ?ho ?hn ?hr ?_; (case ho => rfl); (case hg => rfl); (case hn => rfl); (case hr => first | (go_simp; done) | (go_simp; rfl)); intro w14 hw; have hg : w12.grownBy w14 (some go5) := (by rw [hw]; exact HP13.2); have hp_ : Kd.R k58 58 w14 w0.heap.size (fun k_ => (P0_ k_ ∨ w.heap.size ≤ k_)) (.slice (some ⟨go5, 0, none⟩) x0_1.length co8) b3 := (by rw [hw, b6.out]; exact HP13.1); clear HP13; have n0_ := qb.mk (hp_); have n1_ := qb.mk ((by rw [hw]; exact qf (HB.out) GB5.out : Below w0.heap.size w0 w14)); have n2_ := qb.mk (Kept.of_grown (S := (fun k_ => P0_ k_)) hg (by repeat (first | (with_reducible first | exact HK.out | apply Kept.alloc | apply Kept.drewN | apply Kept.drew) | exact HK.out)) (fun k_ e_ => (b0.out.1 k_ e_))); clear b0; clear HB; clear HK; have b0 := n0_; have HB := n1_; have HK := n2_; clear n0_ n1_ n2_; clear hg hw hp_))
     go_roundg k1
     case measure => have := HK1.out; omega
     case rel => exact ⟨(b3), (wrap64 ((wrap64 ((wrap64 (x1_1 + 1)) + 1)) + 1)), (wrap64 (x5_1 + 1)), (by first | rfl | (simp; done) | (simp [*]; done)), (by first | rfl | (simp; done) | (simp [*]; done)), H', ⟨by have := HK1.out; omega⟩, ⟨kr_ b0⟩, ⟨by repeat (first | (with_reducible first | exact HK.out | apply Kept.alloc | apply Kept.drewN | apply Kept.drew) | exact HK.out)⟩, ⟨be0_ HB⟩⟩
    ·rw [if_neg c4] at H
     exact absurd H (by simp)
   ·rw [if_neg c3] at H
    have c3b0 : decide (x5_1 < (x0_1.length : Int)) = false := decide_eq_false c3;clear c3
    simp only [Option.some.injEq, Prod.mk.injEq] at H
    obtain ⟨rfl, rfl⟩ := H;obtain ⟨Ao15, co15, eo15⟩ := Kd.zn b0.out;subst eo15
    go_wp2
    go_ret
    exact ⟨by first | rfl | (simp [qt, qr] <;> rfl) | (simp [*, qt, qr] <;> rfl), kr_ b0, be0_ HB, by repeat (first | (with_reducible first | exact HK.out | apply Kept.alloc | apply Kept.drewN | apply Kept.drew) | exact HK.out)⟩
def laws_markCity.f (k : Nat) (a0_0 : Int) (a0_1 : Int) (l0_2 : List (S58)) (a1 : Int) : Option (Int × (List (S58))) := (laws_markBlockS.f k l0_2 a1).bind fun bt306 => (some (bt306.1, bt306.2))
theorem laws_markCity.mono : ∀ a0 a1 a2 a3 k, LeO (laws_markCity.f k a0 a1 a2 a3) (laws_markCity.f (k + 1) a0 a1 a2 a3) := by
 intro a0 a1 a2 a3 k
 unfold laws_markCity.f
 repeat' first
   | (with_reducible exact laws_markBlockS.mono _ _ _)
   | (with_reducible exact LeO.refl _)
   | (with_reducible exact LeO.none _)
   | (with_reducible refine LeO.ite ?_ ?_)
   | (with_reducible refine LeO.bind ?_ (fun _ => ?_))
   | exact laws_markBlockS.mono _ _ _
   | exact LeO.none _
   | refine LeO.ite ?_ ?_
   | refine LeO.bind ?_ (fun _ => ?_)
set_option maxHeartbeats 8000000 in
set_option maxRecDepth 100000 in
theorem laws_markCity.calls (k : Nat) (a0_0 : Int) (a0_1 : Int) (P0_2_ : Nat → Prop) (u9000_ : Value) (l0_2 : List (S58)) (a1 : Int) (r1 : Int) (r2 : List (S58)) (w0 w : World) (hB : Below w0.heap.size w0 w) (ho0_2 : Kd.R k58 58 w w0.heap.size P0_2_ u9000_ l0_2) (h : laws_markCity.f k a0_0 a0_1 l0_2 a1 = some (r1, r2)) :
  Calls Try.prog 21 #[.agg #[.int .i64 a0_0, .int .i64 a0_1, u9000_], .int .i64 a1] w fun e w' => e = .returned (.int .i64 r1) ∧ Kd.R k58 58 w' w0.heap.size (fun k_ => (P0_2_ k_ ∨ w.heap.size ≤ k_)) u9000_ r2 ∧ Below w0.heap.size w0 w' ∧ Kept w w' (fun k_ => P0_2_ k_) := by
 have hu31 := Try.underlying31
 have HO0_2 := qb.mk (show Kd.R k58 58 w w0.heap.size (fun k_ => (P0_2_ k_ ∨ w.heap.size ≤ k_)) u9000_ l0_2 from Kd.zh ho0_2 (fun k_ hk => (.inl hk)))
 have HK := qb.mk (Kept.refl w (fun k_ => P0_2_ k_))
 have HW0 := qb.mk hB.size
 have HB := qb.mk hB
 clear hB
 have H : ((laws_markBlockS.f k l0_2 a1).bind fun bt306 => (some (bt306.1, bt306.2))) = some (r1, r2) := h
 clear h
 replace H := Option.bind_eq_some_iff.mp H
 obtain ⟨⟨t306, t307⟩, A30, H⟩ := H
 replace H : (some (t306, t307)) = some (r1, r2) := H
 have A3 := qb.mk A30
 clear A30
 simp only [Option.some.injEq, Prod.mk.injEq] at H
 obtain ⟨rfl, rfl⟩ := H
 obtain ⟨Ao4, co4, eo4⟩ := Kd.zn HO0_2.out
 subst eo4
 go_enter Try.func21, Try.ntmps21
 go_wp2_with (first | ((with_reducible refine ze (N := 2) rfl ?_); refine zc ?hg (N := 2) ?hd (cs := #[.int .i64 a0_0, .int .i64 a0_1, .slice Ao4 l0_2.length co4]) (t := 31) ?hr ?_; (case hd => rfl); (case hg => rfl); (case hr => first | (go_simp; done) | (go_simp; rfl)); intro gb305 hg w5 hbox hb; have n0_ := qb.mk (Kd.qv (kr_ HO0_2) hb); have n1_ := qb.mk (Kept.below (S := (fun k_ => P0_2_ k_)) (by repeat (first | (with_reducible first | exact HK.out | apply Kept.alloc | apply Kept.drewN | apply Kept.drew) | exact HK.out)) hb); have n2_ := qb.mk (qp (be0_ HB) hb); have n3_ := qb.mk (hbox); have n4_ := qb.mk ((by rw [hg]; exact (by first | exact HK.out.1 | exact (show Kept w _ (fun k_ => P0_2_ k_) from by repeat (first | (with_reducible first | exact HK.out | apply Kept.alloc | apply Kept.drewN | apply Kept.drew) | exact HK.out)).1) : w.heap.size ≤ gb305)); have n5_ := qb.mk ((by rw [hg]; exact (ql (be0_ HB)) : w0.heap.size ≤ gb305)); clear HO0_2; clear HK; clear HB; have HO0_2 := n0_; have HK := n1_; have HB := n2_; have BK305 := n3_; have GW305 := n4_; have GE305 := n5_; clear n0_ n1_ n2_ n3_ n4_ n5_; clear hb hbox hg; have hcz6_0 : w5.cell? ⟨gb305, 0, none⟩ = some (.int .i64 a0_0) := (qc BK305.out 0).trans rfl; have hcz6_1 : w5.cell? ⟨gb305, 1, none⟩ = some (.int .i64 a0_1) := (qc BK305.out 1).trans rfl; have hcz6_2 : w5.cell? ⟨gb305, 2, none⟩ = some (.slice Ao4 l0_2.length co4) := (qc BK305.out 2).trans rfl; have hfz6_0 := qj BK305.out 0; have hfz6_1 := qj BK305.out 1; have hfz6_2 := qj BK305.out 2) | ((with_reducible refine qx (f := 23) rfl ?_); refine zl (some 8) rfl rfl Try.func23 (by kernel_rfl) rfl #[.slice Ao4 l0_2.length co4, .int .i64 a1] rfl (by (try simp only [List.map_toArray, List.map_cons, List.map_nil]); first | done | rfl | (simp only [List.length_drop, List.length_take]; rfl)) ?_; (with_reducible refine (laws_markBlockS.calls k (fun k_ => some k_ = (.slice Ao4 l0_2.length co4 : Value).ownBlock) (.slice Ao4 l0_2.length co4) l0_2 a1 t306 t307 w0 _ ?side1 ?side2 A3.out).mono ?_); (case side1 => repeat (first | (with_reducible first | exact HB.out | apply qd | apply qa | apply qe | refine qf ?_ GE305.out) | exact HB.out)); (case side2 => exact Kd.R_tight rfl HO0_2.out); rintro e w7 ⟨rfl, hy0, hb, hkp⟩; refine ⟨_, rfl, ?_⟩; have n0_ := qb.mk (Kd.R_reok rfl hy0 (fun k_ e_ => HO0_2.out.1 k_ e_)); have n1_ := qb.mk (blk_kept (bk_ BK305) hkp (fun hs_ => (fun e_ => (Kd.R_ne HO0_2.out BK305.out (by decide)) e_) hs_)); have n2_ := qb.mk (Kept.then_ (S := (fun k_ => P0_2_ k_)) (by repeat (first | (with_reducible first | exact HK.out | apply Kept.alloc | apply Kept.drewN | apply Kept.drew | refine Kept.setCell ?_ (.inr GW305.out) _) | exact HK.out)) hkp (fun k_ hs_ => (fun e_ => (HO0_2.out.1 k_ e_.symm)) hs_)); have n3_ := qb.mk (hb); clear HO0_2; clear BK305; clear HK; clear HB; have HO0_2 := n0_; have BK305 := n1_; have HK := n2_; have HB := n3_; clear n0_ n1_ n2_ n3_; (try clear hb); (try clear hkp); (try clear hy0)))
 go_ret
 exact ⟨by first | rfl | (simp [qt, qr] <;> rfl) | (simp [*, qt, qr] <;> rfl), kr_ HO0_2, be1_ HB GE305, by repeat (first | (with_reducible first | exact HK.out | apply Kept.alloc | apply Kept.drewN | apply Kept.drew | refine Kept.setCell ?_ (.inr GW305.out) _) | exact HK.out)⟩
end Go.Proofs.Ytpedofomfhmnfaa.PFnExactNeededBlocks
