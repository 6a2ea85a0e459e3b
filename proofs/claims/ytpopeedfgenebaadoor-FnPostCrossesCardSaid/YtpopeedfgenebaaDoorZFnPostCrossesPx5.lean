/- Cut by wip/cut.py out of the texts of this claim (printed by the kit's printer, or this session's own): what the row's theorem does not reach is struck. Not trusted: Lean checks it. -/
import Derived.Test.YtpopeedfgenebaaDoorZFnPostCrossesPx0
import Derived.Test.YtpopeedfgenebaaDoorZFnPostCrossesPx1
import Derived.Test.YtpopeedfgenebaaDoorZFnPostCrossesPx2
import Derived.Test.YtpopeedfgenebaaDoorZFnPostCrossesPx3
import Derived.Test.YtpopeedfgenebaaDoorZFnPostCrossesPx4
namespace Go.Proofs.YtpopeedfgenebaaDoor.PFnPostCrosses
open Go.RowKit Go.Proofs.YtpopeedfgenebaaDoorW.PrintWords Go.Proofs.YtpopeedfgenebaaDoorW.PrintLast Go.Proofs.YtpopeedfgenebaaDoorW.PrintMore
attribute [local go_sem] zb qz zf ze qw qv za qy
set_option linter.unusedVariables false
set_option linter.unusedSimpArgs false
def impl_AroundIsBetter.j0 : Nat → ByteArray → Int → Int → Bool → Option (Int × Bool)
 | 0, _, _, _, _ => none
 | k + 1, x0, x1, x2, x16 => if x16 = true then (some (0, false)) else ((impl_routeCost.f x0 x1 x2).bind fun t140 => ((impl_aroundCost.f x0 x2).bind fun t141 => ((cmp_Compare_int.f t140 t141).bind fun t142 => (some (t142, true)))))
def impl_AroundIsBetter.f (k : Nat) (a0 : ByteArray) (a1 : Int) (a2 : Int) : Option (Int × Bool) := (impl_isDelivered.f k a0 a1).bind fun t138 => (if t138 = true then ((impl_isWide.f a2).bind fun t139 => (impl_AroundIsBetter.j0 k a0 a1 a2 (!t139))) else (impl_AroundIsBetter.j0 k a0 a1 a2 true))
theorem impl_AroundIsBetter.zc : ∀ k, (∀ y0 y1 y2 y3, LeO (impl_AroundIsBetter.j0 k y0 y1 y2 y3) (impl_AroundIsBetter.j0 (k + 1) y0 y1 y2 y3))
 | 0 => fun _ _ _ _ r h => by simp [impl_AroundIsBetter.j0] at h
 | k + 1 => by
  have ih0 := impl_AroundIsBetter.zc k
  intro y0 y1 y2 y3
  unfold impl_AroundIsBetter.j0
  exact lc_
theorem impl_AroundIsBetter.mono : ∀ a0 a1 a2 k, LeO (impl_AroundIsBetter.f k a0 a1 a2) (impl_AroundIsBetter.f (k + 1) a0 a1 a2) := by
 intro a0 a1 a2 k
 have ih0 := impl_AroundIsBetter.zc k
 unfold impl_AroundIsBetter.f
 exact lc_
set_option maxHeartbeats 8000000 in
set_option maxRecDepth 100000 in
theorem impl_AroundIsBetter.calls (k : Nat) (a0 : ByteArray) (a1 : Int) (a2 : Int) (r1 : Int) (r2 : Bool) (w : World) (h : impl_AroundIsBetter.f k a0 a1 a2 = some (r1, r2)) :
  Calls Tryd.prog 9 #[.string a0, .int .i64 a1, .int .i64 a2] w fun e w' => e = .returned (.tuple #[.int .i64 r1, .bool r2]) ∧ Below w.heap.size w w' := by
 have HB := qa.mk (Below.refl w.heap.size w)
 have H := h; clear h; unfold impl_AroundIsBetter.f at H
 have HC4 := qa.mk H
 clear H
 go_enter Tryd.func9, Tryd.ntmps9
 go_upto_region 1 with (fail)
 go_cut [16] (fun v16 wc => ∃ (kq : Nat) (x16_3 : Bool), v16 = .bool x16_3 ∧ qa (impl_AroundIsBetter.j0 kq a0 a1 a2 x16_3 = some (r1, r2)) ∧ qa (kq ≤ k) ∧ qa (Below w.heap.size w wc))
 case first =>
  have H := HC4.out
  clear HC4
  replace H := bX_ H; obtain ⟨t138, A5, H⟩ := H
  replace H := iB_ H; obtain ⟨rfl, H⟩ | ⟨rfl, H⟩ := H
  ·replace H := bX_ H; obtain ⟨t139, A7, H⟩ := H
   have H' := qa.mk H
   clear H
   go_wp2_with (first | (refine gL_ 10 Tryd.func32 #[.string a0, .int .i64 a1] ?_; refine (impl_isDelivered.calls k a0 a1 true _ A5.out).mono ?_; rintro e w' ⟨rfl, ⟨nd, rfl⟩⟩; refine ⟨_, rfl, ?_⟩) | (go_at_call 30; refine (impl_isWide.calls a2 t139 _ A7.out).mono ?_; rintro e w' ⟨rfl, ⟨nd, rfl⟩⟩))
   go_meet
   case rel => exact ⟨_, (!t139), es_, H', ⟨by first | omega | exact Nat.le_refl _⟩, ⟨be0_ HB⟩⟩
  ·have H' := qa.mk H
   clear H
   go_wp2_with (first | (refine gL_ 10 Tryd.func32 #[.string a0, .int .i64 a1] ?_; refine (impl_isDelivered.calls k a0 a1 false _ A5.out).mono ?_; rintro e w' ⟨rfl, ⟨nd, rfl⟩⟩; refine ⟨_, rfl, ?_⟩))
   go_meet
   case rel => exact ⟨_, (true), es_, H', ⟨by first | omega | exact Nat.le_refl _⟩, ⟨be0_ HB⟩⟩
 case rest =>
  clear HC4
  obtain ⟨kq, x16_3, rfl, HA, HJ3, HB⟩ := hcut
  cases kq with
  | zero => exact absurd HA.out (by simp [impl_AroundIsBetter.j0])
  | succ kj3 =>
   have H := HA.out
   clear HA
   simp only [impl_AroundIsBetter.j0] at H
   replace H := iB_ H; obtain ⟨rfl, H⟩ | ⟨rfl, H⟩ := H
   ·simp only [Option.some.injEq, Prod.mk.injEq] at H
    obtain ⟨rfl, rfl⟩ := H
    go_wp2
    exact l5_
   ·replace H := bX_ H; obtain ⟨t140, A9, H⟩ := H
    replace H := bX_ H; obtain ⟨t141, A10, H⟩ := H
    replace H := bX_ H; obtain ⟨t142, A11, H⟩ := H
    simp only [Option.some.injEq, Prod.mk.injEq] at H
    obtain ⟨rfl, rfl⟩ := H
    go_wp2_with (first | (refine gL_ 20 Tryd.func34 #[.string a0, .int .i64 a1, .int .i64 a2] ?_; refine (impl_routeCost.calls a0 a1 a2 t140 _ A9.out).mono ?_; rintro e w12 ⟨rfl, hb⟩; refine ⟨_, rfl, ?_⟩; replace HB := qa.mk a5_; (try clear hb)) | (refine gL_ 23 Tryd.func31 #[.string a0, .int .i64 a2] ?_; refine (impl_aroundCost.calls a0 a2 t141 _ A10.out).mono ?_; rintro e w13 ⟨rfl, hb⟩; refine ⟨_, rfl, ?_⟩; replace HB := qa.mk a5_; (try clear hb)) | (refine gL_ 24 Tryd.func33 #[.int .i64 t140, .int .i64 t141] ?_; refine (cmp_Compare_int.calls t140 t141 t142 _ A11.out).mono ?_; rintro e w' ⟨rfl, ⟨nd, rfl⟩⟩; refine ⟨_, rfl, ?_⟩))
    exact l5_
def laws_big.f (l0 : List Int) (l1 : List Int) : Option (Bool) := if (l0.length : Int) > 1048576 then (some true) else (some (decide ((l1.length : Int) > (wrap64 (1048576 - (l0.length : Int))))))
set_option maxHeartbeats 8000000 in
set_option maxRecDepth 100000 in
theorem laws_big.calls (A0 : Option Addr) (c0 : Nat) (l0 : List Int) (A1 : Option Addr) (c1 : Nat) (l1 : List Int) (r : Bool) (w : World) (hr0 : Kd.C (Kd.int .u8) w A0 l0.length l0) (hc0 : l0.length ≤ c0) (hr1 : Kd.C (Kd.int .u8) w A1 l1.length l1) (hc1 : l1.length ≤ c1) (h : laws_big.f l0 l1 = some r) :
  Calls Tryd.prog 10 #[.slice A0 l0.length c0, .slice A1 l1.length c1] w fun e w' => e = .returned (.bool r) ∧ qg w w' := by
 have HR0 := qa.mk hr0
 have HC0 := qa.mk hc0
 clear hr0 hc0
 have HR1 := qa.mk hr1
 have HC1 := qa.mk hc1
 clear hr1 hc1
 have H := h; clear h; unfold laws_big.f at H
 replace H := iC_ H; obtain ⟨c3, H⟩ | ⟨c3, H⟩ := H
 ·have c3b0 : decide (1048576 < (l0.length : Int)) = true := decide_eq_true c3
  have c3b1 : decide (1048576 < l0.length) = true := decide_eq_true (by omega)
  clear c3
  obtain rfl := Option.some.inj H
  go_enter Tryd.func10, Tryd.ntmps10
  exact l3_
 ·have c3b0 : decide (1048576 < (l0.length : Int)) = false := decide_eq_false c3
  have c3b1 : decide (1048576 < l0.length) = false := decide_eq_false (by omega)
  clear c3
  obtain rfl := Option.some.inj H
  go_enter Tryd.func10, Tryd.ntmps10
  exact l3_
def IsS48 (w0 W : World) (g : Nat) (f0 : List Int) (f1 : Int) (f2 : Int) : Prop := ∃ A0 c0, W.heap[g]? = some (.cells #[.slice A0 f0.length c0, .int .i64 f1, .int .u64 f2] 48 (0, 0)) ∧ w0.heap.size ≤ g ∧ Kd.C (Kd.int .u8) w0 A0 f0.length f0
theorem IsS48.grown {w0 W : World} {g : Nat} {f0 : List Int} {f1 : Int} {f2 : Int} {W1 : World} {row : Option Nat} (h : IsS48 w0 W g f0 f1 f2) (hw : W.grownBy W1 row) (hne : some g ≠ row) : IsS48 w0 W1 g f0 f1 f2 := by
 obtain ⟨A0, c0, hb, hg, hr0⟩ := h
 exact ⟨A0, c0, blk_grown hb hw hne, hg, hr0⟩
theorem IsS48.fresh {w0 W : World} {g : Nat} {f0 : List Int} {f1 : Int} {f2 : Int} (h : IsS48 w0 W g f0 f1 f2) : ∀ k, W.heap.size ≤ k → k ≠ g := by
 obtain ⟨A0, c0, hb, hg, hr0⟩ := h
 exact Kd.freshB hb
theorem IsS48.kept {w0 W : World} {g : Nat} {f0 : List Int} {f1 : Int} {f2 : Int} {W1 : World} {S : Nat → Prop} (h : IsS48 w0 W g f0 f1 f2) (hk : Kept W W1 S) (hne : ¬ S g) : IsS48 w0 W1 g f0 f1 f2 := by
 obtain ⟨A0, c0, hb, hg, hr0⟩ := h
 exact ⟨A0, c0, blk_kept hb hk hne, hg, hr0⟩
theorem IsS48.below {w0 W : World} {g : Nat} {f0 : List Int} {f1 : Int} {f2 : Int} {W1 : World} (h : IsS48 w0 W g f0 f1 f2) (hw : Below W.heap.size W W1) : IsS48 w0 W1 g f0 f1 f2 := h.grown (grown_of_below hw none) (by simp)
theorem IsS48.alloc {w0 W : World} {g : Nat} {f0 : List Int} {f1 : Int} {f2 : Int} (h : IsS48 w0 W g f0 f1 f2) (o : Obj) : IsS48 w0 (W.alloc o) g f0 f1 f2 := h.below (qd (Below.refl _ _) o)
theorem IsS48.drewN {w0 W : World} {g : Nat} {f0 : List Int} {f1 : Int} {f2 : Int} (h : IsS48 w0 W g f0 f1 f2) (m : Nat) : IsS48 w0 (W.drewN m) g f0 f1 f2 := h
theorem IsS48.drew {w0 W : World} {g : Nat} {f0 : List Int} {f1 : Int} {f2 : Int} (h : IsS48 w0 W g f0 f1 f2) : IsS48 w0 W.drew g f0 f1 f2 := h
theorem IsS48.at_ {w0 W : World} {g : Nat} {f0 : List Int} {f1 : Int} {f2 : Int} {w' : World} {m : Nat} (hq : W.drewN m = w') (h : IsS48 w0 W g f0 f1 f2) : IsS48 w0 w' g f0 f1 f2 := by subst hq; exact IsS48.drewN h m
theorem IsS48.apart {w0 W : World} {g : Nat} {f0 : List Int} {f1 : Int} {f2 : Int} {α : Type} {d : Kd α} {e : Nat} {base : Nat} {ok : Nat → Prop} {v : Value} {xs : List α} (h : IsS48 w0 W g f0 f1 f2) (ho : d.R e W base ok v xs) (ht : ∀ q, q ∈ e :: d.E → q ≠ 48) : d.R e W base (fun k => ok k ∧ k ≠ g) v xs := by
 obtain ⟨A0, c0, hb, hg, hr0⟩ := h
 exact Kd.R_types ho hb ht
theorem IsS48.own_ne {w0 W : World} {g : Nat} {f0 : List Int} {f1 : Int} {f2 : Int} {α : Type} {d : Kd α} {e : Nat} {base : Nat} {ok : Nat → Prop} {v : Value} {xs : List α} (h : IsS48 w0 W g f0 f1 f2) (ho : d.R e W base ok v xs) (ht : e ≠ 48) : some g ≠ v.ownBlock := by
 obtain ⟨A0, c0, hb, hg, hr0⟩ := h
 exact Kd.R_ne ho hb ht
theorem IsS48.lt {w0 W : World} {g : Nat} {f0 : List Int} {f1 : Int} {f2 : Int} (h : IsS48 w0 W g f0 f1 f2) : g < W.heap.size := by
 obtain ⟨A0, c0, hb, hg, hr0⟩ := h
 exact blk_lt hb
theorem IsS48.ge {w0 W : World} {g : Nat} {f0 : List Int} {f1 : Int} {f2 : Int} (h : IsS48 w0 W g f0 f1 f2) : w0.heap.size ≤ g := by
 obtain ⟨A0, c0, hb, hg, hr0⟩ := h
 exact hg
theorem IsS48.far {w0 W : World} {g : Nat} {f0 : List Int} {f1 : Int} {f2 : Int} {p : Addr} (h : IsS48 w0 W g f0 f1 f2) (hne : g ≠ p.block) (u : Value) : IsS48 w0 (W.setCell p u) g f0 f1 f2 := by
 obtain ⟨A0, c0, hb, hg, hr0⟩ := h
 exact ⟨A0, c0, blk_far hb hne u, hg, hr0⟩
theorem cellS48_0 {W : World} {g : Nat} {A0 : Option Addr} {c0 : Nat} {f0 : List Int} {f1 : Int} {f2 : Int} (h : W.heap[g]? = some (.cells #[.slice A0 f0.length c0, .int .i64 f1, .int .u64 f2] 48 (0, 0))) : W.cell? ⟨g, 0, none⟩ = some (.slice A0 f0.length c0) := (blk_cell h 0).trans rfl
theorem cellS48_1 {W : World} {g : Nat} {A0 : Option Addr} {c0 : Nat} {f0 : List Int} {f1 : Int} {f2 : Int} (h : W.heap[g]? = some (.cells #[.slice A0 f0.length c0, .int .i64 f1, .int .u64 f2] 48 (0, 0))) : W.cell? ⟨g, 1, none⟩ = some (.int .i64 f1) := (blk_cell h 1).trans rfl
theorem IsS48.set_1 {w0 W : World} {g : Nat} {f0 : List Int} {f1 : Int} {f2 : Int} (h : IsS48 w0 W g f0 f1 f2) (x : Int) : IsS48 w0 (W.setCell ⟨g, 1, none⟩ (.int .i64 x)) g f0 x f2 := by
 obtain ⟨A0, c0, hb, hg, hr0⟩ := h
 exact ⟨A0, c0, (by simpa using blk_set hb 1 (.int .i64 x)), hg, hr0⟩
theorem cellS48_2 {W : World} {g : Nat} {A0 : Option Addr} {c0 : Nat} {f0 : List Int} {f1 : Int} {f2 : Int} (h : W.heap[g]? = some (.cells #[.slice A0 f0.length c0, .int .i64 f1, .int .u64 f2] 48 (0, 0))) : W.cell? ⟨g, 2, none⟩ = some (.int .u64 f2) := (blk_cell h 2).trans rfl
theorem IsS48.set_2 {w0 W : World} {g : Nat} {f0 : List Int} {f1 : Int} {f2 : Int} (h : IsS48 w0 W g f0 f1 f2) (x : Int) : IsS48 w0 (W.setCell ⟨g, 2, none⟩ (.int .u64 x)) g f0 f1 x := by
 obtain ⟨A0, c0, hb, hg, hr0⟩ := h
 exact ⟨A0, c0, (by simpa using blk_set hb 2 (.int .u64 x)), hg, hr0⟩
theorem IsS48.new (w0 W : World) (A0 : Option Addr) (c0 : Nat) (f0 : List Int) (f1 : Int) (f2 : Int) (hB : Below w0.heap.size w0 W) (hr0 : Kd.C (Kd.int .u8) w0 A0 f0.length f0) : IsS48 w0 (W.alloc (.cells #[.slice A0 f0.length c0, .int .i64 f1, .int .u64 f2] 48)) W.heap.size f0 f1 f2 := ⟨A0, c0, (by simpa using heap_alloc_new W _), hB.size, hr0⟩
def spec_l1Cur_next.f (s0_0 : List Int) (s0_1 : Int) (s0_2 : Int) : Option (Int × Int × Int) := if s0_1 < (s0_0.length : Int) then (if 0 ≤ s0_1 then (if (wrap64 (s0_1 + 1)) ≤ (s0_0.length : Int) then (some (wrap64 (rd s0_0 s0_1), wrap64 (s0_1 + 1), IntKind.u64.wrap ((IntKind.u64.wrap ((IntKind.u64.wrap (s0_2 * 6364136223846793005)) + (IntKind.u64.wrap (wrap64 (rd s0_0 s0_1))))) + 1442695040888963407))) else (some (wrap64 (Go.bits .and .u64 ((IntKind.u64.wrap ((IntKind.u64.wrap ((IntKind.u64.wrap (s0_2 * 6364136223846793005)) + (IntKind.u64.wrap (wrap64 (rd s0_0 s0_1))))) + 1442695040888963407)) / 1099511627776) 255), wrap64 (s0_1 + 1), IntKind.u64.wrap ((IntKind.u64.wrap ((IntKind.u64.wrap (s0_2 * 6364136223846793005)) + (IntKind.u64.wrap (wrap64 (rd s0_0 s0_1))))) + 1442695040888963407)))) else (none)) else (if (wrap64 (s0_1 + 1)) ≤ (s0_0.length : Int) then (some (0, wrap64 (s0_1 + 1), IntKind.u64.wrap ((IntKind.u64.wrap (IntKind.u64.wrap (s0_2 * 6364136223846793005))) + 1442695040888963407))) else (some (wrap64 (Go.bits .and .u64 ((IntKind.u64.wrap ((IntKind.u64.wrap (IntKind.u64.wrap (s0_2 * 6364136223846793005))) + 1442695040888963407)) / 1099511627776) 255), wrap64 (s0_1 + 1), IntKind.u64.wrap ((IntKind.u64.wrap (IntKind.u64.wrap (s0_2 * 6364136223846793005))) + 1442695040888963407))))
set_option maxHeartbeats 8000000 in
set_option maxRecDepth 100000 in
theorem spec_l1Cur_next.calls (g : Nat) (s0_0 : List Int) (s0_1 : Int) (s0_2 : Int) (r1 : Int) (r2 : Int) (r3 : Int) (w0 w : World) (hI : IsS48 w0 w g s0_0 s0_1 s0_2) (hB : Below w0.heap.size w0 w) (h : spec_l1Cur_next.f s0_0 s0_1 s0_2 = some (r1, r2, r3)) :
  Calls Tryd.prog 59 #[.pointer (some ⟨g, 0, none⟩)] w fun e w' => e = .returned (.int .i64 r1) ∧ IsS48 w0 w' g s0_0 r2 r3 ∧ Below w0.heap.size w0 w' ∧ ql w w' g none := by
 have HI0 := qa.mk hI
 have HK := qa.mk (ql.refl w g none)
 have HL := qa.mk hB.size
 clear hI
 have HW0 := qa.mk hB.size
 have HB := qa.mk hB
 clear hB
 have H := h; clear h; unfold spec_l1Cur_next.f at H
 replace H := iD_ H; obtain ⟨c2b0, H⟩ | ⟨c2b0, H⟩ := H
 ·replace H := iD_ H; obtain ⟨c3b0, H⟩ | ⟨c3b0, H⟩ := H
  ·replace H := iD_ H; obtain ⟨c4b0, H⟩ | ⟨c4b0, H⟩ := H
   ·simp only [Option.some.injEq, Prod.mk.injEq] at H
    obtain ⟨rfl, rfl, rfl⟩ := H
    obtain ⟨ASz5_0, cSz5_0, HGz5, hgz5, HSz5_0⟩ := HI0.out
    have hcz5_0 := cellS48_0 HGz5
    have hcz5_1 := cellS48_1 HGz5
    have hcz5_2 := cellS48_2 HGz5
    have hfz5_1 := blk_frozen HGz5 1
    have hfz5_2 := blk_frozen HGz5 2
    clear HGz5 hgz5
    have p143 : 0 ≤ (s0_1 : Int) := od_
    have q143 : s0_1 < (s0_0.length : Int) := od_
    obtain ⟨ad143, e143, hx143_0⟩ := Kd.zj HSz5_0 s0_1 p143 q143
    cases e143
    replace hx143_0 := pw_cell_below HB.out hx143_0
    replace p143 := eq_true p143
    replace q143 := eq_true q143
    exact lq_
   ·simp only [Option.some.injEq, Prod.mk.injEq] at H
    obtain ⟨rfl, rfl, rfl⟩ := H
    obtain ⟨ASz6_0, cSz6_0, HGz6, hgz6, HSz6_0⟩ := HI0.out
    have hcz6_0 := cellS48_0 HGz6
    have hcz6_1 := cellS48_1 HGz6
    have hcz6_2 := cellS48_2 HGz6
    have hfz6_1 := blk_frozen HGz6 1
    have hfz6_2 := blk_frozen HGz6 2
    clear HGz6 hgz6
    have p143 : 0 ≤ (s0_1 : Int) := od_
    have q143 : s0_1 < (s0_0.length : Int) := od_
    obtain ⟨ad143, e143, hx143_0⟩ := Kd.zj HSz6_0 s0_1 p143 q143
    cases e143
    replace hx143_0 := pw_cell_below HB.out hx143_0
    replace p143 := eq_true p143
    replace q143 := eq_true q143
    exact lq_
  ·cases H
 ·replace H := iD_ H; obtain ⟨c7b0, H⟩ | ⟨c7b0, H⟩ := H
  ·simp only [Option.some.injEq, Prod.mk.injEq] at H
   obtain ⟨rfl, rfl, rfl⟩ := H
   obtain ⟨ASz8_0, cSz8_0, HGz8, hgz8, HSz8_0⟩ := HI0.out
   have hcz8_0 := cellS48_0 HGz8
   have hcz8_1 := cellS48_1 HGz8
   have hcz8_2 := cellS48_2 HGz8
   have hfz8_1 := blk_frozen HGz8 1
   have hfz8_2 := blk_frozen HGz8 2
   clear HGz8 hgz8
   exact lq_
  ·simp only [Option.some.injEq, Prod.mk.injEq] at H
   obtain ⟨rfl, rfl, rfl⟩ := H
   obtain ⟨ASz9_0, cSz9_0, HGz9, hgz9, HSz9_0⟩ := HI0.out
   have hcz9_0 := cellS48_0 HGz9
   have hcz9_1 := cellS48_1 HGz9
   have hcz9_2 := cellS48_2 HGz9
   have hfz9_1 := blk_frozen HGz9 1
   have hfz9_2 := blk_frozen HGz9 2
   clear HGz9 hgz9
   exact lq_
def spec_l1Cur_pick.f (s0_0 : List Int) (s0_1 : Int) (s0_2 : Int) (a1 : Int) : Option (Int × Int × Int) := if a1 ≤ 1 then (some (0, s0_1, s0_2)) else ((spec_l1Cur_next.f s0_0 s0_1 s0_2).bind fun bt144 => (if a1 > 200 then ((spec_l1Cur_next.f s0_0 bt144.2.1 bt144.2.2).bind fun bt147 => (if a1 = 0 then (none) else (some (Int.tmod (wrap64 ((wrap64 (bt144.1 * 256)) + bt147.1)) a1, bt147.2.1, bt147.2.2)))) else (if a1 = 0 then (none) else (some (Int.tmod bt144.1 a1, bt144.2.1, bt144.2.2)))))
set_option maxHeartbeats 8000000 in
set_option maxRecDepth 100000 in
theorem spec_l1Cur_pick.calls (g : Nat) (s0_0 : List Int) (s0_1 : Int) (s0_2 : Int) (a1 : Int) (r1 : Int) (r2 : Int) (r3 : Int) (w0 w : World) (hI : IsS48 w0 w g s0_0 s0_1 s0_2) (hB : Below w0.heap.size w0 w) (h : spec_l1Cur_pick.f s0_0 s0_1 s0_2 a1 = some (r1, r2, r3)) :
  Calls Tryd.prog 46 #[.pointer (some ⟨g, 0, none⟩), .int .i64 a1] w fun e w' => e = .returned (.int .i64 r1) ∧ IsS48 w0 w' g s0_0 r2 r3 ∧ Below w0.heap.size w0 w' ∧ ql w w' g none := by
 have HI0 := qa.mk hI
 have HK := qa.mk (ql.refl w g none)
 have HL := qa.mk hB.size
 clear hI
 have HW0 := qa.mk hB.size
 have HB := qa.mk hB
 clear hB
 have H := h; clear h; unfold spec_l1Cur_pick.f at H
 replace H := iD_ H; obtain ⟨c3b0, H⟩ | ⟨c3b0, H⟩ := H
 ·simp only [Option.some.injEq, Prod.mk.injEq] at H
  obtain ⟨rfl, rfl, rfl⟩ := H
  go_enter Tryd.func46, Tryd.ntmps46
  go_wp2
  exact l1_
 ·replace H := bX_ H; obtain ⟨⟨t144, t145, t146⟩, A4, H⟩ := H; (try dsimp only at H)
  replace H := iC_ H; obtain ⟨c5, H⟩ | ⟨c5, H⟩ := H
  ·have c5b0 : decide (200 < a1) = true := decide_eq_true c5
   clear c5
   replace H := bX_ H; obtain ⟨⟨t147, t148, t149⟩, A6, H⟩ := H; (try dsimp only at H)
   replace H := iE_ H; obtain ⟨c7b0, c7b1, H⟩ | ⟨c7, c7b0, c7b1, H⟩ := H
   ·cases H
   ·simp only [Option.some.injEq, Prod.mk.injEq] at H
    obtain ⟨rfl, rfl, rfl⟩ := H
    go_enter Tryd.func46, Tryd.ntmps46
    go_wp2_with (first | (refine gL_ 9 Tryd.func59 #[.pointer (some ⟨g, 0, none⟩)] ?_; refine (spec_l1Cur_next.calls g s0_0 s0_1 s0_2 t144 t145 t146 w0 _ a0_ (by repeat (first | (with_reducible first | exact HB.out | apply qd | apply qb | apply qe | refine qp ?_ (IsS48.ge HI0.out)) | exact HB.out)) A4.out).mono ?_; rintro e w8 ⟨rfl, hi, hb, hk⟩; refine ⟨_, rfl, ?_⟩; replace HK := qa.mk an_; replace HB := qa.mk (hb); replace HI0 := qa.mk (hi); (try clear hb hk hi)) | (refine gL_ 15 Tryd.func59 #[.pointer (some ⟨g, 0, none⟩)] ?_; refine (spec_l1Cur_next.calls g s0_0 t145 t146 t147 t148 t149 w0 _ a0_ (by repeat (first | (with_reducible first | exact HB.out | apply qd | apply qb | apply qe | refine qp ?_ (IsS48.ge HI0.out)) | exact HB.out)) A6.out).mono ?_; rintro e w9 ⟨rfl, hi, hb, hk⟩; refine ⟨_, rfl, ?_⟩; replace HK := qa.mk an_; replace HB := qa.mk (hb); replace HI0 := qa.mk (hi); (try clear hb hk hi)))
    exact l1_
  ·have c5b0 : decide (200 < a1) = false := decide_eq_false c5
   clear c5
   replace H := iE_ H; obtain ⟨c10b0, c10b1, H⟩ | ⟨c10, c10b0, c10b1, H⟩ := H
   ·cases H
   ·simp only [Option.some.injEq, Prod.mk.injEq] at H
    obtain ⟨rfl, rfl, rfl⟩ := H
    go_enter Tryd.func46, Tryd.ntmps46
    go_wp2_with (first | (refine gL_ 9 Tryd.func59 #[.pointer (some ⟨g, 0, none⟩)] ?_; refine (spec_l1Cur_next.calls g s0_0 s0_1 s0_2 t144 t145 t146 w0 _ a0_ (by repeat (first | (with_reducible first | exact HB.out | apply qd | apply qb | apply qe | refine qp ?_ (IsS48.ge HI0.out)) | exact HB.out)) A4.out).mono ?_; rintro e w11 ⟨rfl, hi, hb, hk⟩; refine ⟨_, rfl, ?_⟩; replace HK := qa.mk an_; replace HB := qa.mk (hb); replace HI0 := qa.mk (hi); (try clear hb hk hi)))
    exact l1_
def spec_l1Cur_one.f (s0_0 : List Int) (s0_1 : Int) (s0_2 : Int) (a1 : Int) : Option (Bool × Int × Int) := (spec_l1Cur_pick.f s0_0 s0_1 s0_2 a1).bind fun bt150 => (some ((bt150.1 == 0), bt150.2.1, bt150.2.2))
set_option maxHeartbeats 8000000 in
set_option maxRecDepth 100000 in
theorem spec_l1Cur_one.calls (g : Nat) (s0_0 : List Int) (s0_1 : Int) (s0_2 : Int) (a1 : Int) (r1 : Bool) (r2 : Int) (r3 : Int) (w0 w : World) (hI : IsS48 w0 w g s0_0 s0_1 s0_2) (hB : Below w0.heap.size w0 w) (h : spec_l1Cur_one.f s0_0 s0_1 s0_2 a1 = some (r1, r2, r3)) :
  Calls Tryd.prog 47 #[.pointer (some ⟨g, 0, none⟩), .int .i64 a1] w fun e w' => e = .returned (.bool r1) ∧ IsS48 w0 w' g s0_0 r2 r3 ∧ Below w0.heap.size w0 w' ∧ ql w w' g none := by
 have HI0 := qa.mk hI
 have HK := qa.mk (ql.refl w g none)
 have HL := qa.mk hB.size
 clear hI
 have HW0 := qa.mk hB.size
 have HB := qa.mk hB
 clear hB
 have H := h; clear h; unfold spec_l1Cur_one.f at H
 replace H := bX_ H; obtain ⟨⟨t150, t151, t152⟩, A3, H⟩ := H; (try dsimp only at H)
 simp only [Option.some.injEq, Prod.mk.injEq] at H
 obtain ⟨rfl, rfl, rfl⟩ := H
 go_enter Tryd.func47, Tryd.ntmps47
 go_wp2_with (first | (refine gL_ 7 Tryd.func46 #[.pointer (some ⟨g, 0, none⟩), .int .i64 a1] ?_; refine (spec_l1Cur_pick.calls g s0_0 s0_1 s0_2 a1 t150 t151 t152 w0 _ a0_ (by repeat (first | (with_reducible first | exact HB.out | apply qd | apply qb | apply qe | refine qp ?_ (IsS48.ge HI0.out)) | exact HB.out)) A3.out).mono ?_; rintro e w4 ⟨rfl, hi, hb, hk⟩; refine ⟨_, rfl, ?_⟩; replace HK := qa.mk an_; replace HB := qa.mk (hb); replace HI0 := qa.mk (hi); (try clear hb hk hi)))
 exact l1_
def spec_l1Cur_of.f (s0_0 : List Int) (s0_1 : Int) (s0_2 : Int) (l1 : List ByteArray) : Option (ByteArray × Int × Int) := (spec_l1Cur_pick.f s0_0 s0_1 s0_2 (l1.length : Int)).bind fun bt153 => (if 0 ≤ bt153.1 then (if bt153.1 < (l1.length : Int) then (some (rdOf ByteArray.empty l1 bt153.1, bt153.2.1, bt153.2.2)) else (none)) else (none))
set_option maxHeartbeats 8000000 in
set_option maxRecDepth 100000 in
theorem spec_l1Cur_of.calls (g : Nat) (s0_0 : List Int) (s0_1 : Int) (s0_2 : Int) (A1 : Option Addr) (c1 : Nat) (l1 : List ByteArray) (r1 : ByteArray) (r2 : Int) (r3 : Int) (w0 w : World) (hI : IsS48 w0 w g s0_0 s0_1 s0_2) (hB : Below w0.heap.size w0 w) (hr1 : Kd.C Kd.string w A1 l1.length l1) (hc1 : l1.length ≤ c1) (hf1 : ∀ ad, A1 = some ad → 0 < l1.length → ad.block ≠ g) (h : spec_l1Cur_of.f s0_0 s0_1 s0_2 l1 = some (r1, r2, r3)) :
  Calls Tryd.prog 54 #[.pointer (some ⟨g, 0, none⟩), .slice A1 l1.length c1] w fun e w' => e = .returned (.string r1) ∧ IsS48 w0 w' g s0_0 r2 r3 ∧ Below w0.heap.size w0 w' ∧ ql w w' g none := by
 have HR1 := qa.mk hr1
 have HC1 := qa.mk hc1
 clear hr1 hc1
 have HI0 := qa.mk hI
 have HK := qa.mk (ql.refl w g none)
 have HL := qa.mk hB.size
 clear hI
 have HW0 := qa.mk hB.size
 have HB := qa.mk hB
 clear hB
 have H := h; clear h; unfold spec_l1Cur_of.f at H
 replace H := bX_ H; obtain ⟨⟨t153, t154, t155⟩, A3, H⟩ := H; (try dsimp only at H)
 replace H := iD_ H; obtain ⟨c4b0, H⟩ | ⟨c4b0, H⟩ := H
 ·replace H := iD_ H; obtain ⟨c5b0, H⟩ | ⟨c5b0, H⟩ := H
  ·simp only [Option.some.injEq, Prod.mk.injEq] at H
   obtain ⟨rfl, rfl, rfl⟩ := H
   go_enter Tryd.func54, Tryd.ntmps54
   go_wp2_with (first | (refine gL_ 9 Tryd.func46 #[.pointer (some ⟨g, 0, none⟩), .int .i64 (l1.length : Int)] ?_; refine (spec_l1Cur_pick.calls g s0_0 s0_1 s0_2 (l1.length : Int) t153 t154 t155 w0 _ a0_ (by repeat (first | (with_reducible first | exact HB.out | apply qd | apply qb | apply qe | refine qp ?_ (IsS48.ge HI0.out)) | exact HB.out)) A3.out).mono ?_; rintro e w6 ⟨rfl, hi, hb, hk⟩; refine ⟨_, rfl, ?_⟩; replace HK := qa.mk an_; replace HB := qa.mk (hb); replace HI0 := qa.mk (hi); (try clear hb hk hi); have p156 : 0 ≤ (t153 : Int) := od_; have q156 : t153 < (l1.length : Int) := od_; obtain ⟨ad156, e156, hx156_0⟩ := Kd.at_string HR1.out t153 p156 q156; cases e156; replace hx156_0 := keep_cell HK.out hx156_0 (by first | (rw [add_block]; exact hf1 _ rfl (by omega)) | exact hf1 _ rfl (by omega) | exact hf1 ad156 rfl (by omega)); replace p156 := eq_true p156; replace q156 := eq_true q156))
   exact l1_
  ·cases H
 ·cases H
def spec_l1Cur_sureDeliveries.l0 : Nat → Int → ByteArray → List Int → Int → Int → Option (ByteArray × Int × Int)
 | 0, _, _, _, _, _ => none
 | k + 1, x1, x5, x1000, x1001, x1002 => if x1 > 0 then ((spec_l1Cur_of.f x1000 x1001 x1002 (([(⟨#[108]⟩ : ByteArray), (⟨#[114]⟩ : ByteArray), (⟨#[98]⟩ : ByteArray), (⟨#[45]⟩ : ByteArray), (⟨#[45]⟩ : ByteArray)] : List ByteArray))).bind fun bt160 => (if x5.size + bt160.1.size ≤ 9223372036854775807 then (spec_l1Cur_sureDeliveries.l0 k (wrap64 (x1 - 1)) (x5 ++ bt160.1) x1000 bt160.2.1 bt160.2.2) else (none))) else (some (x5, x1001, x1002))
def spec_l1Cur_sureDeliveries.f (k : Nat) (s0_0 : List Int) (s0_1 : Int) (s0_2 : Int) (a1 : Int) : Option (ByteArray × Int × Int) := spec_l1Cur_sureDeliveries.l0 k a1 (⟨#[]⟩ : ByteArray) s0_0 s0_1 s0_2
theorem spec_l1Cur_sureDeliveries.zc : ∀ k, (∀ y0 y1 y2 y3 y4, LeO (spec_l1Cur_sureDeliveries.l0 k y0 y1 y2 y3 y4) (spec_l1Cur_sureDeliveries.l0 (k + 1) y0 y1 y2 y3 y4))
 | 0 => fun _ _ _ _ _ r h => by simp [spec_l1Cur_sureDeliveries.l0] at h
 | k + 1 => by
  have ih0 := spec_l1Cur_sureDeliveries.zc k
  intro y0 y1 y2 y3 y4
  unfold spec_l1Cur_sureDeliveries.l0
  exact l0_
theorem spec_l1Cur_sureDeliveries.mono : ∀ a0 a1 a2 a3 k, LeO (spec_l1Cur_sureDeliveries.f k a0 a1 a2 a3) (spec_l1Cur_sureDeliveries.f (k + 1) a0 a1 a2 a3) := by
 intro a0 a1 a2 a3 k
 have ih0 := spec_l1Cur_sureDeliveries.zc k
 unfold spec_l1Cur_sureDeliveries.f
 exact l0_
set_option maxHeartbeats 8000000 in
set_option maxRecDepth 100000 in
theorem spec_l1Cur_sureDeliveries.calls (k : Nat) (g : Nat) (s0_0 : List Int) (s0_1 : Int) (s0_2 : Int) (a1 : Int) (r1 : ByteArray) (r2 : Int) (r3 : Int) (w0 w : World) (hI : IsS48 w0 w g s0_0 s0_1 s0_2) (hB : Below w0.heap.size w0 w) (h : spec_l1Cur_sureDeliveries.f k s0_0 s0_1 s0_2 a1 = some (r1, r2, r3)) :
  Calls Tryd.prog 55 #[.pointer (some ⟨g, 0, none⟩), .int .i64 a1] w fun e w' => e = .returned (.string r1) ∧ IsS48 w0 w' g s0_0 r2 r3 ∧ Below w0.heap.size w0 w' ∧ ql w w' g none := by
 have HI0 := qa.mk hI
 have HK := qa.mk (ql.refl w g none)
 have HL := qa.mk hB.size
 clear hI
 have HW0 := qa.mk hB.size
 have HB := qa.mk hB
 clear hB
 have H := h; clear h; unfold spec_l1Cur_sureDeliveries.f at H
 have H' := qa.mk H
 clear H
 go_enter Tryd.func55, Tryd.ntmps55
 go_wp2
 go_loopg [1, 5] k (fun kq v1 v5 w' => ∃ (x1_1 : Int) (x5_1 : ByteArray) (x1001_1 : Int) (x1002_1 : Int), v1 = .int .i64 x1_1 ∧ v5 = .string x5_1 ∧ qa (spec_l1Cur_sureDeliveries.l0 kq x1_1 x5_1 s0_0 x1001_1 x1002_1 = some (r1, r2, r3)) ∧ qa (kq ≤ k) ∧ qa (IsS48 w0 w' g s0_0 x1001_1 x1002_1) ∧ qa (ql w w' g none) ∧ qa (Below w0.heap.size w0 w'))
 case atStart => exact ⟨(a1), ((⟨#[]⟩ : ByteArray)), (s0_1), (s0_2), es_, es_, H', ⟨Nat.le_refl _⟩, ⟨by repeat (first | (with_reducible first | exact HI0.out | apply IsS48.alloc | apply IsS48.drewN | apply IsS48.drew | apply IsS48.set_1 | apply IsS48.set_2) | exact HI0.out)⟩, ⟨by repeat (first | (with_reducible first | exact HK.out | apply ql.set_ | apply qn | apply qq | apply qo) | exact HK.out)⟩, ⟨by repeat (first | (with_reducible first | exact HB.out | apply qd | apply qb | apply qe | refine qp ?_ (IsS48.ge HI0.out)) | exact HB.out)⟩⟩
 case round =>
  clear H'
  obtain ⟨x1_1, x5_1, x1001_1, x1002_1, rfl, rfl, HA, HK1, HI0, HK, HB⟩ := hrel
  cases gk with
  | zero => exact absurd HA.out (by simp [spec_l1Cur_sureDeliveries.l0])
  | succ k1 =>
   have H := HA.out
   clear HA
   simp only [spec_l1Cur_sureDeliveries.l0] at H
   replace H := iC_ H; obtain ⟨c3, H⟩ | ⟨c3, H⟩ := H
   ·have c3b0 : decide (0 < x1_1) = true := decide_eq_true c3
    clear c3
    obtain ⟨y157, hy157⟩ : ∃ y_ : List ByteArray, y_ = (([(⟨#[108]⟩ : ByteArray), (⟨#[114]⟩ : ByteArray), (⟨#[98]⟩ : ByteArray), (⟨#[45]⟩ : ByteArray), (⟨#[45]⟩ : ByteArray)] : List ByteArray)) := ⟨_, rfl⟩
    replace H : ((spec_l1Cur_of.f s0_0 x1001_1 x1002_1 y157).bind fun bt160 => (if x5_1.size + bt160.1.size ≤ 9223372036854775807 then (spec_l1Cur_sureDeliveries.l0 k1 (wrap64 (x1_1 - 1)) (x5_1 ++ bt160.1) s0_0 bt160.2.1 bt160.2.2) else (none))) = some (r1, r2, r3) := by first | (rw [hy157]; with_reducible exact H) | (have H2_ := (Option.bind_some _ _).symm.trans H; rw [hy157]; with_reducible exact H2_) | (have H2_ := (Option.bind_some _ _).symm.trans H; with_reducible exact H2_) | with_reducible exact H | (rw [hy157]; exact H) | exact H
    have Ny157 := qa.mk hy157
    clear hy157
    replace H := bX_ H; obtain ⟨⟨t160, t161, t162⟩, A4, H⟩ := H; (try dsimp only at H)
    replace H := iC_ H; obtain ⟨c5, H⟩ | ⟨c5, H⟩ := H
    ·have c5b0 := eq_true c5
     have c5b1 : decide (x5_1.size + t160.size ≤ 9223372036854775807) = true := decide_eq_true c5
     try have c5b2 : (9223372036854775807 < x5_1.size + t160.size) = False := eq_false (Nat.not_lt.2 c5)
     have H' := qa.mk H
     clear H
     go_wp2_with (first | ((with_reducible refine gate_dst (N := 12) rfl ?_); refine Kd.R_lit Kd.string _ 9 ?hg (N := 12) ?hd (xs := ([(⟨#[108]⟩ : ByteArray), (⟨#[114]⟩ : ByteArray), (⟨#[98]⟩ : ByteArray), (⟨#[45]⟩ : ByteArray), (⟨#[45]⟩ : ByteArray)] : List ByteArray)) (inner := [.string (⟨#[108]⟩ : ByteArray), .string (⟨#[114]⟩ : ByteArray), .string (⟨#[98]⟩ : ByteArray), .string (⟨#[45]⟩ : ByteArray), .string (⟨#[45]⟩ : ByteArray)]) (ok := fun _ => True) (okp := fun _ => True) ?hr ?hp (fun _ hk => hk) trivial (Below.refl _ _) (Nat.le_refl _) (by simp) ?_; (case hd => rfl); (case hg => rfl); (case hr => first | (go_simp; done) | (go_simp; rfl)); (case hp => exact (Reps.one (show Kd.M Kd.string _ _ _ (⟨#[108]⟩ : ByteArray) [.string (⟨#[108]⟩ : ByteArray)] from rfl) (Reps.one (show Kd.M Kd.string _ _ _ (⟨#[114]⟩ : ByteArray) [.string (⟨#[114]⟩ : ByteArray)] from rfl) (Reps.one (show Kd.M Kd.string _ _ _ (⟨#[98]⟩ : ByteArray) [.string (⟨#[98]⟩ : ByteArray)] from rfl) (Reps.one (show Kd.M Kd.string _ _ _ (⟨#[45]⟩ : ByteArray) [.string (⟨#[45]⟩ : ByteArray)] from rfl) (Reps.one (show Kd.M Kd.string _ _ _ (⟨#[45]⟩ : ByteArray) [.string (⟨#[45]⟩ : ByteArray)] from rfl) (Reps.none _ _))))))); intro v158 w6 ho7 hb hg_ hnew_; clear hg_ hnew_; (first | rw [← Ny157.out] at ho7 | (simp only [Int.reduceToNat] at ho7; rw [← Ny157.out] at ho7)); have HO159 := qa.mk (Kd.R_lower ho7 (keep_size (w := w) (g := g) (row := none) a2_)); replace HK := qa.mk aq_; replace HB := qa.mk (qk (by repeat (first | (with_reducible first | exact HB.out | apply qd | apply qb | apply qe | refine qp ?_ (IsS48.ge HI0.out)) | exact HB.out)) hb); replace HI0 := qa.mk (IsS48.below a0_ hb); clear hb ho7; obtain ⟨Ao8, co8, eo8⟩ := Kd.zi HO159.out; subst eo8) | (refine gL_ 13 Tryd.func54 #[.pointer (some ⟨g, 0, none⟩), .slice Ao8 y157.length co8] ?_; refine (spec_l1Cur_of.calls g s0_0 x1001_1 x1002_1 _ _ y157 t160 t161 t162 w0 _ a0_ (by repeat (first | (with_reducible first | exact HB.out | apply qd | apply qb | apply qe | refine qp ?_ (IsS48.ge HI0.out)) | exact HB.out)) (by repeat (first | exact (Kd.R_reads' HO159.out).2.2 | (with_reducible refine Kd.zh ?_ _) | (with_reducible refine Kd.zg ?_ _) | (with_reducible refine Kd.zk ?_))) ((Kd.R_reads' HO159.out).2.1) (far_slice (IsS48.own_ne HI0.out HO159.out (by decide))) A4.out).mono ?_; rintro e w9 ⟨rfl, hi, hb, hk⟩; refine ⟨_, rfl, ?_⟩; replace HO159 := qa.mk (Kd.R_mono (Kd.R_keep (IsS48.apart (show IsS48 w0 _ g s0_0 x1001_1 x1002_1 from by repeat (first | (with_reducible first | exact HI0.out | apply IsS48.alloc | apply IsS48.drewN | apply IsS48.drew | apply IsS48.set_1 | apply IsS48.set_2) | exact HI0.out)) (kr_ HO159) (by decide)) hk (fun _ h => h.2)) (fun _ h => h.1)); replace HK := qa.mk an_; replace HB := qa.mk (hb); replace HI0 := qa.mk (hi); (try clear hb hk hi)))
     go_roundg k1
     case measure => have := HK1.out; omega
     case rel => exact ⟨(wrap64 (x1_1 - 1)), (x5_1 ++ t160), (t161), (t162), es_, es_, H', ⟨by have := HK1.out; omega⟩, ⟨by repeat (first | (with_reducible first | exact HI0.out | apply IsS48.alloc | apply IsS48.drewN | apply IsS48.drew | apply IsS48.set_1 | apply IsS48.set_2) | exact HI0.out)⟩, ⟨by repeat (first | (with_reducible first | exact HK.out | apply ql.set_ | apply qn | apply qq | apply qo) | exact HK.out)⟩, ⟨by repeat (first | (with_reducible first | exact HB.out | apply qd | apply qb | apply qe | refine qp ?_ (IsS48.ge HI0.out)) | exact HB.out)⟩⟩
    ·cases H
   ·have c3b0 : decide (0 < x1_1) = false := decide_eq_false c3
    clear c3
    simp only [Option.some.injEq, Prod.mk.injEq] at H
    obtain ⟨rfl, rfl, rfl⟩ := H
    go_wp2
    exact l1_
def spec_l1Cur_deliveries.f (k : Nat) (s0_0 : List Int) (s0_1 : Int) (s0_2 : Int) : Option (ByteArray × Int × Int) := (spec_l1Cur_one.f s0_0 s0_1 s0_2 12).bind fun bt163 => (if bt163.1 = true then ((spec_l1Cur_of.f s0_0 bt163.2.1 bt163.2.2 (([(⟨#[]⟩ : ByteArray), (⟨#[120]⟩ : ByteArray), (⟨#[108, 114, 32]⟩ : ByteArray), (⟨#[76]⟩ : ByteArray), (⟨#[45, 45, 45, 45, 45]⟩ : ByteArray), (⟨#[108, 108, 108, 108, 108, 108, 108, 108, 108, 108, 108, 108, 108, 108, 108, 108, 108, 108, 108, 108, 108, 108, 108, 108, 108, 108, 108, 108, 108, 108, 108, 108, 108, 108, 108, 108, 108, 108, 108, 108, 108, 108, 108, 108, 108, 108, 108, 108, 108, 108, 108, 108, 108, 108, 108, 108, 108, 108, 108, 108, 114]⟩ : ByteArray)] : List ByteArray))).bind fun bt169 => (some (bt169.1, bt169.2.1, bt169.2.2))) else ((spec_l1Cur_pick.f s0_0 bt163.2.1 bt163.2.2 12).bind fun bt172 => ((spec_l1Cur_sureDeliveries.f k s0_0 bt172.2.1 bt172.2.2 (wrap64 (1 + bt172.1))).bind fun bt175 => (some (bt175.1, bt175.2.1, bt175.2.2)))))
theorem spec_l1Cur_deliveries.mono : ∀ a0 a1 a2 k, LeO (spec_l1Cur_deliveries.f k a0 a1 a2) (spec_l1Cur_deliveries.f (k + 1) a0 a1 a2) := by
 intro a0 a1 a2 k
 unfold spec_l1Cur_deliveries.f
 repeat' first | (with_reducible first | exact spec_l1Cur_sureDeliveries.mono _ _ _ _ _ | exact LeO.refl _ | exact LeO.none _ | refine LeO.ite ?_ ?_ | refine LeO.bind ?_ (fun _ => ?_)) | exact spec_l1Cur_sureDeliveries.mono _ _ _ _ _ | exact LeO.none _ | refine LeO.ite ?_ ?_ | refine LeO.bind ?_ (fun _ => ?_)
set_option maxHeartbeats 8000000 in
set_option maxRecDepth 100000 in
theorem spec_l1Cur_deliveries.calls (k : Nat) (g : Nat) (s0_0 : List Int) (s0_1 : Int) (s0_2 : Int) (r1 : ByteArray) (r2 : Int) (r3 : Int) (w0 w : World) (hI : IsS48 w0 w g s0_0 s0_1 s0_2) (hB : Below w0.heap.size w0 w) (h : spec_l1Cur_deliveries.f k s0_0 s0_1 s0_2 = some (r1, r2, r3)) :
  Calls Tryd.prog 35 #[.pointer (some ⟨g, 0, none⟩)] w fun e w' => e = .returned (.string r1) ∧ IsS48 w0 w' g s0_0 r2 r3 ∧ Below w0.heap.size w0 w' ∧ ql w w' g none := by
 have HI0 := qa.mk hI
 have HK := qa.mk (ql.refl w g none)
 have HL := qa.mk hB.size
 clear hI
 have HW0 := qa.mk hB.size
 have HB := qa.mk hB
 clear hB
 have H := h; clear h; unfold spec_l1Cur_deliveries.f at H
 replace H := bX_ H; obtain ⟨⟨t163, t164, t165⟩, A2, H⟩ := H; (try dsimp only at H)
 replace H := iB_ H; obtain ⟨rfl, H⟩ | ⟨rfl, H⟩ := H
 ·obtain ⟨y166, hy166⟩ : ∃ y_ : List ByteArray, y_ = (([(⟨#[]⟩ : ByteArray), (⟨#[120]⟩ : ByteArray), (⟨#[108, 114, 32]⟩ : ByteArray), (⟨#[76]⟩ : ByteArray), (⟨#[45, 45, 45, 45, 45]⟩ : ByteArray), (⟨#[108, 108, 108, 108, 108, 108, 108, 108, 108, 108, 108, 108, 108, 108, 108, 108, 108, 108, 108, 108, 108, 108, 108, 108, 108, 108, 108, 108, 108, 108, 108, 108, 108, 108, 108, 108, 108, 108, 108, 108, 108, 108, 108, 108, 108, 108, 108, 108, 108, 108, 108, 108, 108, 108, 108, 108, 108, 108, 108, 108, 114]⟩ : ByteArray)] : List ByteArray)) := ⟨_, rfl⟩
  replace H : ((spec_l1Cur_of.f s0_0 t164 t165 y166).bind fun bt169 => (some (bt169.1, bt169.2.1, bt169.2.2))) = some (r1, r2, r3) := by first | (rw [hy166]; with_reducible exact H) | (have H2_ := (Option.bind_some _ _).symm.trans H; rw [hy166]; with_reducible exact H2_) | (have H2_ := (Option.bind_some _ _).symm.trans H; with_reducible exact H2_) | with_reducible exact H | (rw [hy166]; exact H) | exact H
  have Ny166 := qa.mk hy166
  clear hy166
  replace H := bX_ H; obtain ⟨⟨t169, t170, t171⟩, A4, H⟩ := H; (try dsimp only at H)
  simp only [Option.some.injEq, Prod.mk.injEq] at H
  obtain ⟨rfl, rfl, rfl⟩ := H
  go_enter Tryd.func35, Tryd.ntmps35
  go_wp2_with (first | (refine gL_ 4 Tryd.func47 #[.pointer (some ⟨g, 0, none⟩), .int .i64 12] ?_; refine (spec_l1Cur_one.calls g s0_0 s0_1 s0_2 12 true t164 t165 w0 _ a0_ (by repeat (first | (with_reducible first | exact HB.out | apply qd | apply qb | apply qe | refine qp ?_ (IsS48.ge HI0.out)) | exact HB.out)) A2.out).mono ?_; rintro e w5 ⟨rfl, hi, hb, hk⟩; refine ⟨_, rfl, ?_⟩; replace HK := qa.mk an_; replace HB := qa.mk (hb); replace HI0 := qa.mk (hi); (try clear hb hk hi)) | ((with_reducible refine gate_dst (N := 6) rfl ?_); refine Kd.R_lit Kd.string _ 9 ?hg (N := 6) ?hd (xs := ([(⟨#[]⟩ : ByteArray), (⟨#[120]⟩ : ByteArray), (⟨#[108, 114, 32]⟩ : ByteArray), (⟨#[76]⟩ : ByteArray), (⟨#[45, 45, 45, 45, 45]⟩ : ByteArray), (⟨#[108, 108, 108, 108, 108, 108, 108, 108, 108, 108, 108, 108, 108, 108, 108, 108, 108, 108, 108, 108, 108, 108, 108, 108, 108, 108, 108, 108, 108, 108, 108, 108, 108, 108, 108, 108, 108, 108, 108, 108, 108, 108, 108, 108, 108, 108, 108, 108, 108, 108, 108, 108, 108, 108, 108, 108, 108, 108, 108, 108, 114]⟩ : ByteArray)] : List ByteArray)) (inner := [.string (⟨#[]⟩ : ByteArray), .string (⟨#[120]⟩ : ByteArray), .string (⟨#[108, 114, 32]⟩ : ByteArray), .string (⟨#[76]⟩ : ByteArray), .string (⟨#[45, 45, 45, 45, 45]⟩ : ByteArray), .string (⟨#[108, 108, 108, 108, 108, 108, 108, 108, 108, 108, 108, 108, 108, 108, 108, 108, 108, 108, 108, 108, 108, 108, 108, 108, 108, 108, 108, 108, 108, 108, 108, 108, 108, 108, 108, 108, 108, 108, 108, 108, 108, 108, 108, 108, 108, 108, 108, 108, 108, 108, 108, 108, 108, 108, 108, 108, 108, 108, 108, 108, 114]⟩ : ByteArray)]) (ok := fun _ => True) (okp := fun _ => True) ?hr ?hp (fun _ hk => hk) trivial (Below.refl _ _) (Nat.le_refl _) (by simp) ?_; (case hd => rfl); (case hg => rfl); (case hr => first | (go_simp; done) | (go_simp; rfl)); (case hp => exact (Reps.one (show Kd.M Kd.string _ _ _ (⟨#[]⟩ : ByteArray) [.string (⟨#[]⟩ : ByteArray)] from rfl) (Reps.one (show Kd.M Kd.string _ _ _ (⟨#[120]⟩ : ByteArray) [.string (⟨#[120]⟩ : ByteArray)] from rfl) (Reps.one (show Kd.M Kd.string _ _ _ (⟨#[108, 114, 32]⟩ : ByteArray) [.string (⟨#[108, 114, 32]⟩ : ByteArray)] from rfl) (Reps.one (show Kd.M Kd.string _ _ _ (⟨#[76]⟩ : ByteArray) [.string (⟨#[76]⟩ : ByteArray)] from rfl) (Reps.one (show Kd.M Kd.string _ _ _ (⟨#[45, 45, 45, 45, 45]⟩ : ByteArray) [.string (⟨#[45, 45, 45, 45, 45]⟩ : ByteArray)] from rfl) (Reps.one (show Kd.M Kd.string _ _ _ (⟨#[108, 108, 108, 108, 108, 108, 108, 108, 108, 108, 108, 108, 108, 108, 108, 108, 108, 108, 108, 108, 108, 108, 108, 108, 108, 108, 108, 108, 108, 108, 108, 108, 108, 108, 108, 108, 108, 108, 108, 108, 108, 108, 108, 108, 108, 108, 108, 108, 108, 108, 108, 108, 108, 108, 108, 108, 108, 108, 108, 108, 114]⟩ : ByteArray) [.string (⟨#[108, 108, 108, 108, 108, 108, 108, 108, 108, 108, 108, 108, 108, 108, 108, 108, 108, 108, 108, 108, 108, 108, 108, 108, 108, 108, 108, 108, 108, 108, 108, 108, 108, 108, 108, 108, 108, 108, 108, 108, 108, 108, 108, 108, 108, 108, 108, 108, 108, 108, 108, 108, 108, 108, 108, 108, 108, 108, 108, 108, 114]⟩ : ByteArray)] from rfl) (Reps.none _ _)))))))); intro v167 w6 ho7 hb hg_ hnew_; clear hg_ hnew_; (first | rw [← Ny166.out] at ho7 | (simp only [Int.reduceToNat] at ho7; rw [← Ny166.out] at ho7)); have HO168 := qa.mk (Kd.R_lower ho7 (keep_size (w := w) (g := g) (row := none) a2_)); replace HK := qa.mk aq_; replace HB := qa.mk (qk (by repeat (first | (with_reducible first | exact HB.out | apply qd | apply qb | apply qe | refine qp ?_ (IsS48.ge HI0.out)) | exact HB.out)) hb); replace HI0 := qa.mk (IsS48.below a0_ hb); clear hb ho7; obtain ⟨Ao8, co8, eo8⟩ := Kd.zi HO168.out; subst eo8) | (refine gL_ 7 Tryd.func54 #[.pointer (some ⟨g, 0, none⟩), .slice Ao8 y166.length co8] ?_; refine (spec_l1Cur_of.calls g s0_0 t164 t165 _ _ y166 t169 t170 t171 w0 _ a0_ (by repeat (first | (with_reducible first | exact HB.out | apply qd | apply qb | apply qe | refine qp ?_ (IsS48.ge HI0.out)) | exact HB.out)) (by repeat (first | exact (Kd.R_reads' HO168.out).2.2 | (with_reducible refine Kd.zh ?_ _) | (with_reducible refine Kd.zg ?_ _) | (with_reducible refine Kd.zk ?_))) ((Kd.R_reads' HO168.out).2.1) (far_slice (IsS48.own_ne HI0.out HO168.out (by decide))) A4.out).mono ?_; rintro e w9 ⟨rfl, hi, hb, hk⟩; refine ⟨_, rfl, ?_⟩; replace HO168 := qa.mk (Kd.R_mono (Kd.R_keep (IsS48.apart (show IsS48 w0 _ g s0_0 t164 t165 from by repeat (first | (with_reducible first | exact HI0.out | apply IsS48.alloc | apply IsS48.drewN | apply IsS48.drew | apply IsS48.set_1 | apply IsS48.set_2) | exact HI0.out)) (kr_ HO168) (by decide)) hk (fun _ h => h.2)) (fun _ h => h.1)); replace HK := qa.mk an_; replace HB := qa.mk (hb); replace HI0 := qa.mk (hi); (try clear hb hk hi)))
  exact l1_
 ·replace H := bX_ H; obtain ⟨⟨t172, t173, t174⟩, A10, H⟩ := H; (try dsimp only at H)
  replace H := bX_ H; obtain ⟨⟨t175, t176, t177⟩, A11, H⟩ := H; (try dsimp only at H)
  simp only [Option.some.injEq, Prod.mk.injEq] at H
  obtain ⟨rfl, rfl, rfl⟩ := H
  go_enter Tryd.func35, Tryd.ntmps35
  go_wp2_with (first | (refine gL_ 4 Tryd.func47 #[.pointer (some ⟨g, 0, none⟩), .int .i64 12] ?_; refine (spec_l1Cur_one.calls g s0_0 s0_1 s0_2 12 false t164 t165 w0 _ a0_ (by repeat (first | (with_reducible first | exact HB.out | apply qd | apply qb | apply qe | refine qp ?_ (IsS48.ge HI0.out)) | exact HB.out)) A2.out).mono ?_; rintro e w12 ⟨rfl, hi, hb, hk⟩; refine ⟨_, rfl, ?_⟩; replace HK := qa.mk an_; replace HB := qa.mk (hb); replace HI0 := qa.mk (hi); (try clear hb hk hi)) | (refine gL_ 10 Tryd.func46 #[.pointer (some ⟨g, 0, none⟩), .int .i64 12] ?_; refine (spec_l1Cur_pick.calls g s0_0 t164 t165 12 t172 t173 t174 w0 _ a0_ (by repeat (first | (with_reducible first | exact HB.out | apply qd | apply qb | apply qe | refine qp ?_ (IsS48.ge HI0.out)) | exact HB.out)) A10.out).mono ?_; rintro e w13 ⟨rfl, hi, hb, hk⟩; refine ⟨_, rfl, ?_⟩; replace HK := qa.mk an_; replace HB := qa.mk (hb); replace HI0 := qa.mk (hi); (try clear hb hk hi)) | (refine gL_ 12 Tryd.func55 #[.pointer (some ⟨g, 0, none⟩), .int .i64 (wrap64 (1 + t172))] ?_; refine (spec_l1Cur_sureDeliveries.calls k g s0_0 t173 t174 (wrap64 (1 + t172)) t175 t176 t177 w0 _ a0_ (by repeat (first | (with_reducible first | exact HB.out | apply qd | apply qb | apply qe | refine qp ?_ (IsS48.ge HI0.out)) | exact HB.out)) A11.out).mono ?_; rintro e w14 ⟨rfl, hi, hb, hk⟩; refine ⟨_, rfl, ?_⟩; replace HK := qa.mk an_; replace HB := qa.mk (hb); replace HI0 := qa.mk (hi); (try clear hb hk hi)))
  exact l1_
def spec_l1Cur_among.f (s0_0 : List Int) (s0_1 : Int) (s0_2 : Int) (l1 : List Int) : Option (Int × Int × Int) := (spec_l1Cur_pick.f s0_0 s0_1 s0_2 (l1.length : Int)).bind fun bt178 => (if 0 ≤ bt178.1 then (if bt178.1 < (l1.length : Int) then (some (rd l1 bt178.1, bt178.2.1, bt178.2.2)) else (none)) else (none))
set_option maxHeartbeats 8000000 in
set_option maxRecDepth 100000 in
theorem spec_l1Cur_among.calls (g : Nat) (s0_0 : List Int) (s0_1 : Int) (s0_2 : Int) (A1 : Option Addr) (c1 : Nat) (l1 : List Int) (r1 : Int) (r2 : Int) (r3 : Int) (w0 w : World) (hI : IsS48 w0 w g s0_0 s0_1 s0_2) (hB : Below w0.heap.size w0 w) (hr1 : Kd.C (Kd.int .i64) w A1 l1.length l1) (hc1 : l1.length ≤ c1) (hf1 : ∀ ad, A1 = some ad → 0 < l1.length → ad.block ≠ g) (h : spec_l1Cur_among.f s0_0 s0_1 s0_2 l1 = some (r1, r2, r3)) :
  Calls Tryd.prog 37 #[.pointer (some ⟨g, 0, none⟩), .slice A1 l1.length c1] w fun e w' => e = .returned (.int .i64 r1) ∧ IsS48 w0 w' g s0_0 r2 r3 ∧ Below w0.heap.size w0 w' ∧ ql w w' g none := by
 have HR1 := qa.mk hr1
 have HC1 := qa.mk hc1
 clear hr1 hc1
 have HI0 := qa.mk hI
 have HK := qa.mk (ql.refl w g none)
 have HL := qa.mk hB.size
 clear hI
 have HW0 := qa.mk hB.size
 have HB := qa.mk hB
 clear hB
 have H := h; clear h; unfold spec_l1Cur_among.f at H
 replace H := bX_ H; obtain ⟨⟨t178, t179, t180⟩, A3, H⟩ := H; (try dsimp only at H)
 replace H := iD_ H; obtain ⟨c4b0, H⟩ | ⟨c4b0, H⟩ := H
 ·replace H := iD_ H; obtain ⟨c5b0, H⟩ | ⟨c5b0, H⟩ := H
  ·simp only [Option.some.injEq, Prod.mk.injEq] at H
   obtain ⟨rfl, rfl, rfl⟩ := H
   go_enter Tryd.func37, Tryd.ntmps37
   go_wp2_with (first | (refine gL_ 9 Tryd.func46 #[.pointer (some ⟨g, 0, none⟩), .int .i64 (l1.length : Int)] ?_; refine (spec_l1Cur_pick.calls g s0_0 s0_1 s0_2 (l1.length : Int) t178 t179 t180 w0 _ a0_ (by repeat (first | (with_reducible first | exact HB.out | apply qd | apply qb | apply qe | refine qp ?_ (IsS48.ge HI0.out)) | exact HB.out)) A3.out).mono ?_; rintro e w6 ⟨rfl, hi, hb, hk⟩; refine ⟨_, rfl, ?_⟩; replace HK := qa.mk an_; replace HB := qa.mk (hb); replace HI0 := qa.mk (hi); (try clear hb hk hi); have p181 : 0 ≤ (t178 : Int) := od_; have q181 : t178 < (l1.length : Int) := od_; obtain ⟨ad181, e181, hx181_0⟩ := Kd.zj HR1.out t178 p181 q181; cases e181; replace hx181_0 := keep_cell HK.out hx181_0 (by first | (rw [add_block]; exact hf1 _ rfl (by omega)) | exact hf1 _ rfl (by omega) | exact hf1 ad181 rfl (by omega)); replace p181 := eq_true p181; replace q181 := eq_true q181))
   exact l1_
  ·cases H
 ·cases H
def spec_l1Cur_end.f (s0_0 : List Int) (s0_1 : Int) (s0_2 : Int) : Option (Int × Int × Int) := (spec_l1Cur_among.f s0_0 s0_1 s0_2 (([0, 1, 2, 2, 1, 0, 2, 3, (-1)] : List Int))).bind fun bt185 => (some (bt185.1, bt185.2.1, bt185.2.2))
set_option maxHeartbeats 8000000 in
set_option maxRecDepth 100000 in
theorem spec_l1Cur_end.calls (g : Nat) (s0_0 : List Int) (s0_1 : Int) (s0_2 : Int) (r1 : Int) (r2 : Int) (r3 : Int) (w0 w : World) (hI : IsS48 w0 w g s0_0 s0_1 s0_2) (hB : Below w0.heap.size w0 w) (h : spec_l1Cur_end.f s0_0 s0_1 s0_2 = some (r1, r2, r3)) :
  Calls Tryd.prog 36 #[.pointer (some ⟨g, 0, none⟩)] w fun e w' => e = .returned (.int .i64 r1) ∧ IsS48 w0 w' g s0_0 r2 r3 ∧ Below w0.heap.size w0 w' ∧ ql w w' g none := by
 have HI0 := qa.mk hI
 have HK := qa.mk (ql.refl w g none)
 have HL := qa.mk hB.size
 clear hI
 have HW0 := qa.mk hB.size
 have HB := qa.mk hB
 clear hB
 have H := h; clear h; unfold spec_l1Cur_end.f at H
 obtain ⟨y182, hy182⟩ : ∃ y_ : List Int, y_ = (([0, 1, 2, 2, 1, 0, 2, 3, (-1)] : List Int)) := ⟨_, rfl⟩
 replace H : ((spec_l1Cur_among.f s0_0 s0_1 s0_2 y182).bind fun bt185 => (some (bt185.1, bt185.2.1, bt185.2.2))) = some (r1, r2, r3) := by first | (rw [hy182]; with_reducible exact H) | (have H2_ := (Option.bind_some _ _).symm.trans H; rw [hy182]; with_reducible exact H2_) | (have H2_ := (Option.bind_some _ _).symm.trans H; with_reducible exact H2_) | with_reducible exact H | (rw [hy182]; exact H) | exact H
 have Ny182 := qa.mk hy182
 clear hy182
 replace H := bX_ H; obtain ⟨⟨t185, t186, t187⟩, A2, H⟩ := H; (try dsimp only at H)
 simp only [Option.some.injEq, Prod.mk.injEq] at H
 obtain ⟨rfl, rfl, rfl⟩ := H
 go_enter Tryd.func36, Tryd.ntmps36
 go_wp2_with (first | ((with_reducible refine gate_dst (N := 4) rfl ?_); refine Kd.R_lit (Kd.int .i64) _ 3 ?hg (N := 4) ?hd (xs := ([0, 1, 2, 2, 1, 0, 2, 3, (-1)] : List Int)) (inner := [.int .i64 0, .int .i64 1, .int .i64 2, .int .i64 2, .int .i64 1, .int .i64 0, .int .i64 2, .int .i64 3, .int .i64 (-1)]) (ok := fun _ => True) (okp := fun _ => True) ?hr ?hp (fun _ hk => hk) trivial (Below.refl _ _) (Nat.le_refl _) (by simp) ?_; (case hd => rfl); (case hg => rfl); (case hr => first | (go_simp; done) | (go_simp; rfl)); (case hp => exact (Reps.one (show Kd.M (Kd.int .i64) _ _ _ 0 [.int .i64 0] from rfl) (Reps.one (show Kd.M (Kd.int .i64) _ _ _ 1 [.int .i64 1] from rfl) (Reps.one (show Kd.M (Kd.int .i64) _ _ _ 2 [.int .i64 2] from rfl) (Reps.one (show Kd.M (Kd.int .i64) _ _ _ 2 [.int .i64 2] from rfl) (Reps.one (show Kd.M (Kd.int .i64) _ _ _ 1 [.int .i64 1] from rfl) (Reps.one (show Kd.M (Kd.int .i64) _ _ _ 0 [.int .i64 0] from rfl) (Reps.one (show Kd.M (Kd.int .i64) _ _ _ 2 [.int .i64 2] from rfl) (Reps.one (show Kd.M (Kd.int .i64) _ _ _ 3 [.int .i64 3] from rfl) (Reps.one (show Kd.M (Kd.int .i64) _ _ _ (-1) [.int .i64 (-1)] from rfl) (Reps.none _ _))))))))))); intro v183 w3 ho4 hb hg_ hnew_; clear hg_ hnew_; (first | rw [← Ny182.out] at ho4 | (simp only [Int.reduceToNat] at ho4; rw [← Ny182.out] at ho4)); have HO184 := qa.mk (Kd.R_lower ho4 (keep_size (w := w) (g := g) (row := none) a2_)); replace HK := qa.mk aq_; replace HB := qa.mk (qk (by repeat (first | (with_reducible first | exact HB.out | apply qd | apply qb | apply qe | refine qp ?_ (IsS48.ge HI0.out)) | exact HB.out)) hb); replace HI0 := qa.mk (IsS48.below a0_ hb); clear hb ho4; obtain ⟨Ao5, co5, eo5⟩ := Kd.zi HO184.out; subst eo5) | (refine gL_ 5 Tryd.func37 #[.pointer (some ⟨g, 0, none⟩), .slice Ao5 y182.length co5] ?_; refine (spec_l1Cur_among.calls g s0_0 s0_1 s0_2 _ _ y182 t185 t186 t187 w0 _ a0_ (by repeat (first | (with_reducible first | exact HB.out | apply qd | apply qb | apply qe | refine qp ?_ (IsS48.ge HI0.out)) | exact HB.out)) (by repeat (first | exact (Kd.R_reads' HO184.out).2.2 | (with_reducible refine Kd.zh ?_ _) | (with_reducible refine Kd.zg ?_ _) | (with_reducible refine Kd.zk ?_))) ((Kd.R_reads' HO184.out).2.1) (far_slice (IsS48.own_ne HI0.out HO184.out (by decide))) A2.out).mono ?_; rintro e w6 ⟨rfl, hi, hb, hk⟩; refine ⟨_, rfl, ?_⟩; replace HO184 := qa.mk (Kd.R_mono (Kd.R_keep (IsS48.apart (show IsS48 w0 _ g s0_0 s0_1 s0_2 from by repeat (first | (with_reducible first | exact HI0.out | apply IsS48.alloc | apply IsS48.drewN | apply IsS48.drew | apply IsS48.set_1 | apply IsS48.set_2) | exact HI0.out)) (kr_ HO184) (by decide)) hk (fun _ h => h.2)) (fun _ h => h.1)); replace HK := qa.mk an_; replace HB := qa.mk (hb); replace HI0 := qa.mk (hi); (try clear hb hk hi)))
 exact l1_
def spec_DrawRouteCost.f (k : Nat) (l0 : List Int) : Option (ByteArray × Int × Int) := (spec_l1Cur_deliveries.f k l0 0 0).bind fun bt189 => ((spec_l1Cur_end.f l0 bt189.2.1 bt189.2.2).bind fun bt192 => ((spec_l1Cur_among.f l0 bt192.2.1 bt192.2.2 (([0, 1, 2, 5, 1000, 1001, (-1)] : List Int))).bind fun bt198 => (some (bt189.1, bt192.1, bt198.1))))
theorem spec_DrawRouteCost.mono : ∀ a0 k, LeO (spec_DrawRouteCost.f k a0) (spec_DrawRouteCost.f (k + 1) a0) := by
 intro a0 k
 unfold spec_DrawRouteCost.f
 repeat' first | (with_reducible first | exact spec_l1Cur_deliveries.mono _ _ _ _ | exact LeO.refl _ | exact LeO.none _ | refine LeO.ite ?_ ?_ | refine LeO.bind ?_ (fun _ => ?_)) | exact spec_l1Cur_deliveries.mono _ _ _ _ | exact LeO.none _ | refine LeO.ite ?_ ?_ | refine LeO.bind ?_ (fun _ => ?_)
set_option maxHeartbeats 8000000 in
set_option maxRecDepth 100000 in
theorem spec_DrawRouteCost.calls (k : Nat) (A0 : Option Addr) (c0 : Nat) (l0 : List Int) (r1 : ByteArray) (r2 : Int) (r3 : Int) (w : World) (hr0 : Kd.C (Kd.int .u8) w A0 l0.length l0) (hc0 : l0.length ≤ c0) (h : spec_DrawRouteCost.f k l0 = some (r1, r2, r3)) :
  Calls Tryd.prog 11 #[.slice A0 l0.length c0] w fun e w' => e = .returned (.tuple #[.string r1, .int .i64 r2, .int .i64 r3]) ∧ Below w.heap.size w w' := by
 have hu48 := Tryd.underlying48
 have HR0 := qa.mk hr0
 have HC0 := qa.mk hc0
 clear hr0 hc0
 have HB := qa.mk (Below.refl w.heap.size w)
 have H := h; clear h; unfold spec_DrawRouteCost.f at H
 replace H := bX_ H; obtain ⟨⟨t189, t190, t191⟩, A2, H⟩ := H; (try dsimp only at H)
 replace H := bX_ H; obtain ⟨⟨t192, t193, t194⟩, A3, H⟩ := H; (try dsimp only at H)
 obtain ⟨y195, hy195⟩ : ∃ y_ : List Int, y_ = (([0, 1, 2, 5, 1000, 1001, (-1)] : List Int)) := ⟨_, rfl⟩
 replace H : ((spec_l1Cur_among.f l0 t193 t194 y195).bind fun bt198 => (some (t189, t192, bt198.1))) = some (r1, r2, r3) := by first | (rw [hy195]; with_reducible exact H) | (have H2_ := (Option.bind_some _ _).symm.trans H; rw [hy195]; with_reducible exact H2_) | (have H2_ := (Option.bind_some _ _).symm.trans H; with_reducible exact H2_) | with_reducible exact H | (rw [hy195]; exact H) | exact H
 have Ny195 := qa.mk hy195
 clear hy195
 replace H := bX_ H; obtain ⟨⟨t198, t199, t200⟩, A4, H⟩ := H; (try dsimp only at H)
 simp only [Option.some.injEq, Prod.mk.injEq] at H
 obtain ⟨rfl, rfl, rfl⟩ := H
 go_enter Tryd.func11, Tryd.ntmps11
 go_wp2_with (first | (refine bE_ 10 #[.slice A0 l0.length c0, .int .i64 0, .int .u64 0] 48 ?_; intro gb188 hg w5 hbox hb; have GW188 := qa.mk ((by rw [hg]; exact a9_ : w.heap.size ≤ gb188)); have GE188 := qa.mk ((by rw [hg]; exact a9_ : w.heap.size ≤ gb188)); have HI188 := qa.mk ((⟨_, _, hbox, (by rw [hg]; exact a9_), HR0.out⟩ : IsS48 w w5 gb188 l0 0 0)); replace HB := qa.mk a5_; clear hb hbox hg) | (refine gL_ 12 Tryd.func35 #[.pointer (some ⟨gb188, 0, none⟩)] ?_; refine (spec_l1Cur_deliveries.calls k gb188 l0 0 0 t189 t190 t191 w _ a6_ (by repeat (first | (with_reducible first | exact HB.out | apply qd | apply qb | apply qe | refine qp ?_ (IsS48.ge HI188.out)) | exact HB.out)) A2.out).mono ?_; rintro e w6 ⟨rfl, hi, hb, hk⟩; refine ⟨_, rfl, ?_⟩; replace HB := qa.mk (hb); replace HI188 := qa.mk (hi); (try clear hb hk hi)) | (refine gL_ 14 Tryd.func36 #[.pointer (some ⟨gb188, 0, none⟩)] ?_; refine (spec_l1Cur_end.calls gb188 l0 t190 t191 t192 t193 t194 w _ a6_ (by repeat (first | (with_reducible first | exact HB.out | apply qd | apply qb | apply qe | refine qp ?_ (IsS48.ge HI188.out)) | exact HB.out)) A3.out).mono ?_; rintro e w7 ⟨rfl, hi, hb, hk⟩; refine ⟨_, rfl, ?_⟩; replace HB := qa.mk (hb); replace HI188 := qa.mk (hi); (try clear hb hk hi)) | ((with_reducible refine gate_dst (N := 18) rfl ?_); refine Kd.R_lit (Kd.int .i64) _ 3 ?hg (N := 18) ?hd (xs := ([0, 1, 2, 5, 1000, 1001, (-1)] : List Int)) (inner := [.int .i64 0, .int .i64 1, .int .i64 2, .int .i64 5, .int .i64 1000, .int .i64 1001, .int .i64 (-1)]) (ok := fun _ => True) (okp := fun _ => True) ?hr ?hp (fun _ hk => hk) trivial (Below.refl _ _) (Nat.le_refl _) (by simp) ?_; (case hd => rfl); (case hg => rfl); (case hr => first | (go_simp; done) | (go_simp; rfl)); (case hp => exact (Reps.one (show Kd.M (Kd.int .i64) _ _ _ 0 [.int .i64 0] from rfl) (Reps.one (show Kd.M (Kd.int .i64) _ _ _ 1 [.int .i64 1] from rfl) (Reps.one (show Kd.M (Kd.int .i64) _ _ _ 2 [.int .i64 2] from rfl) (Reps.one (show Kd.M (Kd.int .i64) _ _ _ 5 [.int .i64 5] from rfl) (Reps.one (show Kd.M (Kd.int .i64) _ _ _ 1000 [.int .i64 1000] from rfl) (Reps.one (show Kd.M (Kd.int .i64) _ _ _ 1001 [.int .i64 1001] from rfl) (Reps.one (show Kd.M (Kd.int .i64) _ _ _ (-1) [.int .i64 (-1)] from rfl) (Reps.none _ _))))))))); intro v196 w8 ho9 hb hg_ hnew_; clear hg_ hnew_; (first | rw [← Ny195.out] at ho9 | (simp only [Int.reduceToNat] at ho9; rw [← Ny195.out] at ho9)); have HO197 := qa.mk (Kd.R_lower ho9 (qr (by repeat (first | (with_reducible first | exact HB.out | apply qd | apply qb | apply qe | refine qp ?_ (IsS48.ge HI188.out)) | exact HB.out)))); replace HB := qa.mk (qk (by repeat (first | (with_reducible first | exact HB.out | apply qd | apply qb | apply qe | refine qp ?_ (IsS48.ge HI188.out)) | exact HB.out)) hb); replace HI188 := qa.mk (IsS48.below a6_ hb); clear hb ho9; obtain ⟨Ao10, co10, eo10⟩ := Kd.zi HO197.out; subst eo10) | (refine gL_ 19 Tryd.func37 #[.pointer (some ⟨gb188, 0, none⟩), .slice Ao10 y195.length co10] ?_; refine (spec_l1Cur_among.calls gb188 l0 t193 t194 _ _ y195 t198 t199 t200 w _ a6_ (by repeat (first | (with_reducible first | exact HB.out | apply qd | apply qb | apply qe | refine qp ?_ (IsS48.ge HI188.out)) | exact HB.out)) (by repeat (first | exact (Kd.R_reads' HO197.out).2.2 | (with_reducible refine Kd.zh ?_ _) | (with_reducible refine Kd.zg ?_ _) | (with_reducible refine Kd.zk ?_))) ((Kd.R_reads' HO197.out).2.1) (far_slice (IsS48.own_ne HI188.out HO197.out (by decide))) A4.out).mono ?_; rintro e w11 ⟨rfl, hi, hb, hk⟩; refine ⟨_, rfl, ?_⟩; replace HO197 := qa.mk (Kd.R_mono (Kd.R_keep (IsS48.apart (show IsS48 w _ gb188 l0 t193 t194 from by repeat (first | (with_reducible first | exact HI188.out | apply IsS48.alloc | apply IsS48.drewN | apply IsS48.drew | apply IsS48.set_1 | apply IsS48.set_2) | exact HI188.out)) (kr_ HO197) (by decide)) hk (fun _ h => h.2)) (fun _ h => h.1)); replace HB := qa.mk (hb); replace HI188 := qa.mk (hi); (try clear hb hk hi)))
 go_ret3
 exact ⟨er_, (by repeat (first | (with_reducible first | exact HB.out | apply qd | apply qb | apply qe | refine qp ?_ (IsS48.ge HI188.out)) | exact HB.out))⟩
def impl_RouteCost.f (k : Nat) (a0 : ByteArray) (a1 : Int) (a2 : Int) : Option (Int × Bool) := (impl_isDelivered.f k a0 a1).bind fun t201 => (if t201 = true then ((impl_isWide.f a2).bind fun t202 => (if t202 = true then ((impl_routeCost.f a0 a1 a2).bind fun t203 => (some (t203, true))) else (some (0, false)))) else (some (0, false)))
theorem impl_RouteCost.mono : ∀ a0 a1 a2 k, LeO (impl_RouteCost.f k a0 a1 a2) (impl_RouteCost.f (k + 1) a0 a1 a2) := by
 intro a0 a1 a2 k
 unfold impl_RouteCost.f
 exact l4_
set_option maxHeartbeats 8000000 in
set_option maxRecDepth 100000 in
theorem impl_RouteCost.calls (k : Nat) (a0 : ByteArray) (a1 : Int) (a2 : Int) (r1 : Int) (r2 : Bool) (w : World) (h : impl_RouteCost.f k a0 a1 a2 = some (r1, r2)) :
  Calls Tryd.prog 12 #[.string a0, .int .i64 a1, .int .i64 a2] w fun e w' => e = .returned (.tuple #[.int .i64 r1, .bool r2]) ∧ Below w.heap.size w w' := by
 have HB := qa.mk (Below.refl w.heap.size w)
 have H := h; clear h; unfold impl_RouteCost.f at H
 replace H := bX_ H; obtain ⟨t201, A4, H⟩ := H
 replace H := iB_ H; obtain ⟨rfl, H⟩ | ⟨rfl, H⟩ := H
 ·replace H := bX_ H; obtain ⟨t202, A6, H⟩ := H
  replace H := iB_ H; obtain ⟨rfl, H⟩ | ⟨rfl, H⟩ := H
  ·replace H := bX_ H; obtain ⟨t203, A8, H⟩ := H
   simp only [Option.some.injEq, Prod.mk.injEq] at H
   obtain ⟨rfl, rfl⟩ := H
   go_enter Tryd.func12, Tryd.ntmps12
   go_wp2_with (first | (refine gL_ 10 Tryd.func32 #[.string a0, .int .i64 a1] ?_; refine (impl_isDelivered.calls k a0 a1 true _ A4.out).mono ?_; rintro e w' ⟨rfl, ⟨nd, rfl⟩⟩; refine ⟨_, rfl, ?_⟩) | (go_at_call 30; refine (impl_isWide.calls a2 true _ A6.out).mono ?_; rintro e w' ⟨rfl, ⟨nd, rfl⟩⟩) | (refine gL_ 20 Tryd.func34 #[.string a0, .int .i64 a1, .int .i64 a2] ?_; refine (impl_routeCost.calls a0 a1 a2 t203 _ A8.out).mono ?_; rintro e w9 ⟨rfl, hb⟩; refine ⟨_, rfl, ?_⟩; replace HB := qa.mk a5_; (try clear hb)))
   exact l5_
  ·simp only [Option.some.injEq, Prod.mk.injEq] at H
   obtain ⟨rfl, rfl⟩ := H
   go_enter Tryd.func12, Tryd.ntmps12
   go_wp2_with (first | (refine gL_ 10 Tryd.func32 #[.string a0, .int .i64 a1] ?_; refine (impl_isDelivered.calls k a0 a1 true _ A4.out).mono ?_; rintro e w' ⟨rfl, ⟨nd, rfl⟩⟩; refine ⟨_, rfl, ?_⟩) | (go_at_call 30; refine (impl_isWide.calls a2 false _ A6.out).mono ?_; rintro e w' ⟨rfl, ⟨nd, rfl⟩⟩))
   exact l5_
 ·simp only [Option.some.injEq, Prod.mk.injEq] at H
  obtain ⟨rfl, rfl⟩ := H
  go_enter Tryd.func12, Tryd.ntmps12
  go_wp2_with (first | (refine gL_ 10 Tryd.func32 #[.string a0, .int .i64 a1] ?_; refine (impl_isDelivered.calls k a0 a1 false _ A4.out).mono ?_; rintro e w' ⟨rfl, ⟨nd, rfl⟩⟩; refine ⟨_, rfl, ?_⟩))
  exact l5_
end Go.Proofs.YtpopeedfgenebaaDoor.PFnPostCrosses
