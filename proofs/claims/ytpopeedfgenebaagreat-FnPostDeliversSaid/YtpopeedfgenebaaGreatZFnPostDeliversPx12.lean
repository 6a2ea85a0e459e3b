/- Cut by wip/cut.py out of the texts of this claim (printed by the kit's printer, or this session's own): what the row's theorem does not reach is struck. Not trusted: Lean checks it. -/
import Derived.Test.YtpopeedfgenebaaGreatZFnPostDeliversPx0
import Derived.Test.YtpopeedfgenebaaGreatZFnPostDeliversPx1
import Derived.Test.YtpopeedfgenebaaGreatZFnPostDeliversPx2
import Derived.Test.YtpopeedfgenebaaGreatZFnPostDeliversPx6
import Derived.Test.YtpopeedfgenebaaGreatZFnPostDeliversPx11
namespace Go.Proofs.YtpopeedfgenebaaGreat.PFnPostDelivers
open Go.RowKit Go.Proofs.YtpopeedfgenebaaGreatW.PrintWords Go.Proofs.YtpopeedfgenebaaGreatW.PrintLast Go.Proofs.YtpopeedfgenebaaGreatW.PrintMore
attribute [local go_sem] zq zo zx zw zk zj zp zn
set_option linter.unusedVariables false
set_option linter.unusedSimpArgs false
def impl_DeliveriesOf.ok (k : Nat) (a0_0 a0_1 : Int) (l1 : List Int) : Option Bool := (impl_IsStreet.f a0_0 a0_1).bind fun t => if t = true then (if a0_1 > 60 then some false else (impl_increasing.f k l1).bind fun t2 => if t2 = true then (impl_housesOf.f a0_0 a0_1).bind fun n => impl_allWithin.f k l1 1 n else some false) else some false
def impl_DeliveriesOf.step (row : List Int) (s p : Int) : Option (List Int) := if 0 ≤ p ∧ p < row.length then some (row.set p.toNat (if rd row p = 45 then (if s = 0 then 108 else 114) else 98)) else none
def impl_DeliveriesOf.rows (a0_0 a0_1 : Int) (l : List Int) : Nat → Option (List Int)
 | 0 => some (List.replicate a0_1.toNat 45)
 | j + 1 => (impl_DeliveriesOf.rows a0_0 a0_1 l j).bind fun row => (impl_plotOf.f a0_0 a0_1 (rd l j)).bind fun r => impl_DeliveriesOf.step row r.1 r.2
def impl_DeliveriesOf.f (k : Nat) (a0_0 a0_1 : Int) (l1 : List Int) : Option (ByteArray × Bool) := (impl_DeliveriesOf.ok k a0_0 a0_1 l1).bind fun t => if t = true then (if 0 ≤ a0_1 ∧ a0_1 ≤ 60 ∧ l1.length ≤ 1048576 then (impl_DeliveriesOf.rows a0_0 a0_1 l1 l1.length).bind fun row => some (strOfNums row, true) else none) else some (⟨#[]⟩, false)
theorem impl_DeliveriesOf.mono : ∀ a0 a1 a2 k, LeO (impl_DeliveriesOf.f k a0 a1 a2) (impl_DeliveriesOf.f (k + 1) a0 a1 a2) := by
 intro a0 a1 a2 k
 unfold impl_DeliveriesOf.f impl_DeliveriesOf.ok
 exact LeO.bind (LeO.bind (LeO.refl _) (fun _ => LeO.ite (LeO.ite (LeO.refl _) (LeO.bind (impl_increasing.mono _ _) (fun _ => LeO.ite (LeO.bind (LeO.refl _) (fun _ => impl_allWithin.mono _ _ _ _)) (LeO.refl _)))) (LeO.refl _))) (fun _ => LeO.refl _)
theorem impl_DeliveriesOf.rows_at {a0_0 a0_1 : Int} {l : List Int} {n : Nat} {r : List Int} (h : impl_DeliveriesOf.rows a0_0 a0_1 l n = some r) : ∀ d j : Nat, j + d = n → ∃ o, impl_DeliveriesOf.rows a0_0 a0_1 l j = some o
 | 0, j, hj => ⟨r, (by rw [show j = n by omega]; exact h)⟩
 | d + 1, j, hj => by
  obtain ⟨o, ho⟩ := impl_DeliveriesOf.rows_at h d (j + 1) (by omega)
  exact o0_
theorem impl_DeliveriesOf.rows_step {a0_0 a0_1 : Int} {l : List Int} {n j : Nat} {r o : List Int} (h : impl_DeliveriesOf.rows a0_0 a0_1 l n = some r) (hj : j < n) (ho : impl_DeliveriesOf.rows a0_0 a0_1 l j = some o) : ∃ s p : Int, ∃ o' : List Int, impl_plotOf.f a0_0 a0_1 (rd l j) = some (s, p) ∧ impl_DeliveriesOf.step o s p = some o' ∧ impl_DeliveriesOf.rows a0_0 a0_1 l (j + 1) = some o' := by
 obtain ⟨o', h1⟩ := impl_DeliveriesOf.rows_at h (n - (j + 1)) (j + 1) (by omega)
 have h2 := h1
 rw [impl_DeliveriesOf.rows, ho, Option.bind_some] at h2
 obtain ⟨sp, h3, h4⟩ := Option.bind_eq_some_iff.mp h2
 exact ⟨sp.1, sp.2, o', h3, h4, h1⟩
structure impl_DeliveriesOf.RW (w wr : World) (g : Nat) (a0_0 a0_1 : Int) (n : Nat) (row : List Int) (rest : List Value) : Prop where
  box : wr.heap[w.heap.size]? = some (.cells #[.int .i64 a0_0, .int .i64 a0_1] 25 (0, 0))
  hrow : wr.heap[g]? = some (.cells (nums .u8 row ++ rest).toArray 5 (n + rest.length, n + rest.length + 1))
  hg : w.heap.size < g
  hlen : row.length = n
  bel : Below w.heap.size w wr
theorem impl_DeliveriesOf.RW.below {w wr w1 : World} {g : Nat} {a0_0 a0_1 : Int} {n : Nat} {row : List Int} {rest : List Value} (h : impl_DeliveriesOf.RW w wr g a0_0 a0_1 n row rest) (hb : Below wr.heap.size wr w1) : impl_DeliveriesOf.RW w w1 g a0_0 a0_1 n row rest :=
 ⟨(hb.block _ (zv h.box)).trans h.box, (hb.block _ (zv h.hrow)).trans h.hrow, h.hg, h.hlen, below_then h.bel h.bel.size hb⟩
theorem impl_DeliveriesOf.RW.cell {w wr : World} {g : Nat} {a0_0 a0_1 : Int} {n : Nat} {row : List Int} {rest : List Value} {i : Nat} (h : impl_DeliveriesOf.RW w wr g a0_0 a0_1 n row rest) (hi : i < n) : wr.cell? ⟨g, i, none⟩ = some (.int .u8 (rd row i)) := by
 rw [cell_of_row wr g i _ _ _ h.hrow]
 have hl : (nums .u8 row).length = n := by rw [← h.hlen]; simp [nums]
 simp only [List.getElem?_toArray]
 rw [List.getElem?_append_left (by omega)]
 have := h.hlen
 simp [nums, rd, List.getElem?_eq_getElem (show i < row.length by omega)]
theorem impl_DeliveriesOf.RW.free {w wr : World} {g : Nat} {a0_0 a0_1 : Int} {n : Nat} {row : List Int} {rest : List Value} {i : Nat} (h : impl_DeliveriesOf.RW w wr g a0_0 a0_1 n row rest) (hi : i < n) : wr.frozen? ⟨g, i, none⟩ = false := by
 simp [World.frozen?, h.hrow]
 omega
theorem impl_DeliveriesOf.RW.put {w wr : World} {g : Nat} {a0_0 a0_1 : Int} {n : Nat} {row : List Int} {rest : List Value} {i : Nat} (h : impl_DeliveriesOf.RW w wr g a0_0 a0_1 n row rest) (hi : i < n) (x : Int) : impl_DeliveriesOf.RW w (wr.setCell ⟨g, i, none⟩ (.int .u8 x)) g a0_0 a0_1 n (row.set i x) rest := by
 have hg := h.hg
 refine ⟨?_, ?_, h.hg, (by rw [List.length_set]; exact h.hlen), h.bel.setCell (Nat.le_of_lt hg) _⟩
 ·have e : (wr.setCell ⟨g, i, none⟩ (.int .u8 x)).heap[w.heap.size]? = wr.heap[w.heap.size]? := by
   unfold World.setCell
   simp only [Array.getElem?_modify]
   rw [if_neg (by omega)]
  rw [e]
  exact h.box
 ·have e : (nums .u8 (row.set i x) ++ rest).toArray = (nums .u8 row ++ rest).toArray.setIfInBounds i (.int .u8 x) := by
   have hl := h.hlen
   simp only [nums, List.map_set, sA_]
   rw [List.set_append_left _ _ ca_]
  rw [e]
  unfold World.setCell
  simp only [Array.getElem?_modify, if_true, h.hrow, Option.map_some, Option.isSome_none, Bool.false_eq_true, if_false]
theorem impl_DeliveriesOf.make (w W : World) (s : ByteArray) (a0_0 a0_1 : Int) (hb : Below w.heap.size w W) (hx : W.heap[w.heap.size]? = some (.cells #[.int .i64 a0_0, .int .i64 a0_1] 25 (0, 0))) : ∃ rest : List Value, impl_DeliveriesOf.RW w (Lib.bytesWorld W 5 s) W.heap.size a0_0 a0_1 s.size (bytesOf s) rest := by
 refine ⟨List.replicate (grownCap W s.size 0 5 - s.size) (.int .u8 0), ?_, ?_, zv hx, bytesOf_length s, ?_⟩
 ·have h1 := bytes_below (Below.refl W.heap.size W) (Nat.le_refl _) 5 s
  exact (h1.block _ (zv hx)).trans hx
 ·have hn := Lib.bytesWorld_at_new W 5 s
  have e : Lib.bytesCells W 5 s = (nums .u8 (bytesOf s) ++ List.replicate (grownCap W s.size 0 5 - s.size) (Value.int .u8 0)).toArray := by
   simp [Lib.bytesCells, nums, bytesOf]
  have e2 : (Lib.bytesCells W 5 s).size = s.size + (List.replicate (grownCap W s.size 0 5 - s.size) (Value.int .u8 0)).length := by
   rw [e]; simp [nums, bytesOf_length]
  rw [e2, e] at hn
  exact hn
 ·exact bytes_below hb hb.size _ _
theorem impl_DeliveriesOf.rep (n : Nat) : bytesOf ⟨(Go.Lib.repeatL [45] n).toArray⟩ = List.replicate n 45 := by
 have e : Go.Lib.repeatL [45] n = List.replicate n 45 := by
  have := Go.Lib.repeatL_replicate 45 1 n
  simpa using this
 rw [e]
 simp [bytesOf]
set_option maxHeartbeats 4000000 in
set_option maxRecDepth 100000 in
theorem impl_DeliveriesOf.calls (k : Nat) (a0_0 : Int) (a0_1 : Int) (A1 : Option Addr) (c1 : Nat) (l1 : List Int) (r1 : ByteArray) (r2 : Bool) (w : World) (hr1 : Kd.C (Kd.int .i64) w A1 l1.length l1) (hc1 : l1.length ≤ c1) (h : impl_DeliveriesOf.f k a0_0 a0_1 l1 = some (r1, r2)) :
  Calls Tryz.prog 13 #[.agg #[.int .i64 a0_0, .int .i64 a0_1], .slice A1 l1.length c1] w fun e w' => e = .returned (.tuple #[.string r1, .bool r2]) ∧ Below w.heap.size w w' := by
 have hus := Tryz.underlying25;have HR := Lib.hid hr1;have HC := Lib.hid hc1;clear hr1 hc1;have HX := Lib.hid (And.intro (qd (Below.refl w.heap.size w) (.cells #[.int .i64 a0_0, .int .i64 a0_1] 25 (0, 0))) (blk_new w (.cells #[.int .i64 a0_0, .int .i64 a0_1] 25 (0, 0))))
 unfold impl_DeliveriesOf.f at h
 obtain ⟨t, ht, h⟩ := Option.bind_eq_some_iff.1 h
 unfold impl_DeliveriesOf.ok at ht
 obtain ⟨t1, h1, ht⟩ := Option.bind_eq_some_iff.1 ht;have H1 := Lib.hid h1;clear h1;cases t1 with
 | false =>
  cases ht;cases h
  go_enter Tryz.func13, Tryz.ntmps13
  go_wp2_with (go_at_call 47; refine (impl_IsStreet.calls a0_0 a0_1 false _ H1.out).mono ?_; rintro e w2 ⟨rfl, hb⟩; have HB2 := Lib.hid bu_; clear hb)
  go_ret2
  exact ⟨rfl, HB2.out⟩
 | true =>
  rw [if_pos rfl] at ht
  by_cases h60 : a0_1 > 60
  ·rw [if_pos h60] at ht
   cases ht;cases h;have c60 : decide (a0_1 > 60) = true := decide_eq_true h60;clear h60
   go_enter Tryz.func13, Tryz.ntmps13
   go_wp2_with (go_at_call 47; refine (impl_IsStreet.calls a0_0 a0_1 true _ H1.out).mono ?_; rintro e w2 ⟨rfl, hb⟩; have hbx := (hb.block _ (zv HX.out.2)).trans HX.out.2; have hcz0 : w2.cell? ⟨w.heap.size, 0, none⟩ = some (.int .i64 a0_0) := (qk hbx 0).trans rfl; have hcz1 : w2.cell? ⟨w.heap.size, 1, none⟩ = some (.int .i64 a0_1) := (qk hbx 1).trans rfl; have HB2 := Lib.hid bu_; clear hb hbx)
   go_ret2
   exact ⟨rfl, HB2.out⟩
  ·rw [if_neg h60] at ht
   have c60 : decide (a0_1 > 60) = false := decide_eq_false h60;obtain ⟨t2, h2, ht⟩ := Option.bind_eq_some_iff.1 ht;have H2 := Lib.hid h2;clear h60 h2;cases t2 with
   | false =>
    cases ht;cases h
    go_enter Tryz.func13, Tryz.ntmps13
    go_wp2_with (first
     | (go_at_call 47; refine (impl_IsStreet.calls a0_0 a0_1 true _ H1.out).mono ?_; rintro e w2 ⟨rfl, hb⟩; have hbx := (hb.block _ (zv HX.out.2)).trans HX.out.2; have hcz0 : w2.cell? ⟨w.heap.size, 0, none⟩ = some (.int .i64 a0_0) := (qk hbx 0).trans rfl; have hcz1 : w2.cell? ⟨w.heap.size, 1, none⟩ = some (.int .i64 a0_1) := (qk hbx 1).trans rfl; have HB2 := Lib.hid bu_; clear hb hbx)
     | (go_at_call 48; refine (impl_increasing.calls k A1 c1 l1 false _ (Kd.C_below HR.out HB2.out) HC.out H2.out).mono ?_; rintro e w3 ⟨rfl, ⟨nd, rfl⟩⟩))
    go_ret2
    exact ⟨rfl, (by repeat (first | exact HB2.out | apply qa))⟩
   | true =>
    rw [if_pos rfl] at ht;obtain ⟨n, h3, ht⟩ := Option.bind_eq_some_iff.1 ht;have H3 := Lib.hid h3;have H4 := Lib.hid ht;clear h3 ht;cases t with
    | false =>
     cases h
     go_enter Tryz.func13, Tryz.ntmps13
     go_wp2_with (first
      | (go_at_call 47; refine (impl_IsStreet.calls a0_0 a0_1 true _ H1.out).mono ?_; rintro e w2 ⟨rfl, hb⟩; have hbx := (hb.block _ (zv HX.out.2)).trans HX.out.2; have hcz0 : w2.cell? ⟨w.heap.size, 0, none⟩ = some (.int .i64 a0_0) := (qk hbx 0).trans rfl; have hcz1 : w2.cell? ⟨w.heap.size, 1, none⟩ = some (.int .i64 a0_1) := (qk hbx 1).trans rfl; have HB2 := Lib.hid bu_; clear hb hbx)
      | (go_at_call 48; refine (impl_increasing.calls k A1 c1 l1 true _ (Kd.C_below HR.out HB2.out) HC.out H2.out).mono ?_; rintro e w3 ⟨rfl, ⟨nd, rfl⟩⟩; have HB3 := Lib.hid (qa HB2.out nd))
      | (go_at_call 50; refine (impl_housesOf.calls a0_0 a0_1 n _ H3.out).mono ?_; rintro e w4 ⟨rfl, hb⟩; have HB4 := Lib.hid (below_then HB3.out HB3.out.size hb); clear hb)
      | (go_at_call 49; refine (impl_allWithin.calls k A1 c1 l1 1 n false _ (Kd.C_below HR.out HB4.out) HC.out H4.out).mono ?_; rintro e w5 ⟨rfl, ⟨nd, rfl⟩⟩))
     go_ret2
     exact ⟨rfl, (by repeat (first | exact HB4.out | apply qa))⟩
    | true =>
     rw [if_pos rfl] at h
     by_cases hz : 0 ≤ a0_1 ∧ a0_1 ≤ 60 ∧ l1.length ≤ 1048576
     ·rw [if_pos hz] at h
      obtain ⟨row, hrow, h⟩ := Option.bind_eq_some_iff.1 h;cases h;have HRW := Lib.hid hrow;clear hrow
      have hrep : strings_Repeat.f ⟨#[45]⟩ a0_1 = some ⟨(Go.Lib.repeatL [45] a0_1.toNat).toArray⟩ := by
       unfold strings_Repeat.f
       rw [if_pos ⟨hz.1, (by omega), (by decide)⟩]
      have hbo := impl_DeliveriesOf.rep a0_1.toNat;obtain ⟨s, hs⟩ : ∃ s : ByteArray, s = ⟨(Go.Lib.repeatL [45] a0_1.toNat).toArray⟩ := ⟨_, rfl⟩;rw [← hs] at hrep hbo;have HP := Lib.hid hrep;have HO := Lib.hid hbo;have kc := fun (W : World) => print_bytes (P := Tryz.prog) 9 22 5 Tryz.underlying9 Tryz.underlying22 Tryz.underlying5 s W;have HZ := Lib.hid hz;clear hrep hbo hs hz
      go_enter Tryz.func13, Tryz.ntmps13
      go_wp2_with (first
       | (go_at_call 47; refine (impl_IsStreet.calls a0_0 a0_1 true _ H1.out).mono ?_; rintro e w2 ⟨rfl, hb⟩; have hbx := (hb.block _ (zv HX.out.2)).trans HX.out.2; have hcz0 : w2.cell? ⟨w.heap.size, 0, none⟩ = some (.int .i64 a0_0) := (qk hbx 0).trans rfl; have hcz1 : w2.cell? ⟨w.heap.size, 1, none⟩ = some (.int .i64 a0_1) := (qk hbx 1).trans rfl; have HB2 := Lib.hid (And.intro bu_ hbx); clear hb hbx)
       | (go_at_call 48; refine (impl_increasing.calls k A1 c1 l1 true _ (Kd.C_below HR.out HB2.out.1) HC.out H2.out).mono ?_; rintro e w3 ⟨rfl, ⟨nd, rfl⟩⟩)
       | (go_at_call 50; refine (impl_housesOf.calls a0_0 a0_1 n _ H3.out).mono ?_; rintro e w4 ⟨rfl, hb⟩; have HB4 := Lib.hid (And.intro (below_then (qa HB2.out.1 nd) (qa HB2.out.1 nd).size hb) ((hb.block _ (zv HB2.out.2)).trans HB2.out.2)); clear hb)
       | (go_at_call 49; refine (impl_allWithin.calls k A1 c1 l1 1 n true _ (Kd.C_below HR.out HB4.out.1) HC.out H4.out).mono ?_; rintro e w5 ⟨rfl, ⟨nd5, rfl⟩⟩; have hcz4 : (w4.drewN nd5).cell? ⟨w.heap.size, 1, none⟩ = some (.int .i64 a0_1) := (qk (g := w.heap.size) (w := w4.drewN nd5) HB4.out.2 1).trans rfl)
       | (go_at_call 51; refine (strings_Repeat.calls ⟨#[45]⟩ a0_1 s _ HP.out).mono ?_; rintro e w6 ⟨rfl, hb⟩; have HB6 := Lib.hid (And.intro (below_then (qa HB4.out.1 nd5) (qa HB4.out.1 nd5).size hb) ((hb.block _ (zv HB4.out.2)).trans HB4.out.2)); clear hb))
      obtain ⟨W1, hW1⟩ : ∃ W1, W1 = Lib.bytesWorld w6 5 s := ⟨_, rfl⟩;obtain ⟨rest, hR⟩ := impl_DeliveriesOf.make w w6 s a0_0 a0_1 HB6.out.1 HB6.out.2;rw [HO.out, ← hW1] at hR;rw [← hW1];obtain ⟨g, hg⟩ : ∃ g, g = w6.heap.size := ⟨_, rfl⟩;rw [← hg] at hR ⊢
      generalize grownCap w6 s.size 0 5 = cp
      have HW := Lib.hid hR;clear hW1 hg kc hR hcz0 hcz1 hcz4
      go_loopw [37] (fun i wr => ∃ (j : Nat) (row' : List Int), j ≤ l1.length ∧ i = .int .i64 j ∧ impl_DeliveriesOf.rows a0_0 a0_1 l1 j = some row' ∧ impl_DeliveriesOf.RW w wr g a0_0 a0_1 s.size row' rest) (fun i _ => l1.length - (intOf i).toNat)
      case atStart => exact ⟨0, _, (by omega), rfl, rfl, HW.out⟩
      case round =>
       obtain ⟨j, o, hj, rfl, hro, hrw⟩ := hrel;clear HW;have HW := Lib.hid hrw;clear hrw
       by_cases hlt : j < l1.length
       ·have cb1 : decide ((j : Int) < (l1.length : Int)) = true := decide_eq_true (by omega)
        obtain ⟨sd, p, o', hpl, hst, hr'⟩ := impl_DeliveriesOf.rows_step HRW.out hlt hro;obtain ⟨ad, ea, hcell⟩ := Kd.zi (Kd.C_below HR.out HW.out.bel) (j : Int) (by omega) (by omega);subst ea;rw [Int.toNat_natCast] at hcell
        generalize rd l1 (j : Int) = nb at hpl hcell
        unfold impl_DeliveriesOf.step at hst
        by_cases hp : 0 ≤ p ∧ p < o.length
        ·rw [if_pos hp] at hst
         obtain ⟨pn, rfl⟩ : ∃ pn : Nat, p = (pn : Int) := ⟨p.toNat, (by omega)⟩;rw [Int.toNat_natCast] at hst;have hpn : pn < s.size := by have := HW.out.hlen; omega
         have p1 : (0 : Int) ≤ (j : Int) := by omega
         have p2 : (j : Int) < (l1.length : Int) := by omega
         have p3 : (0 : Int) ≤ (pn : Int) := by omega
         have p4 : (pn : Int) < (s.size : Int) := by omega
         have hj6 : j < 1048576 := by have := HZ.out.2.2; omega
         have HPL := Lib.hid hpl;have HR' := Lib.hid hr';obtain ⟨x, hx⟩ : ∃ x, rd o (pn : Int) = x := ⟨_, rfl⟩;rw [hx] at hst;have hcz0 : wr.cell? ⟨w.heap.size, 0, none⟩ = some (.int .i64 a0_0) := (qk HW.out.box 0).trans rfl;have hcz1 : wr.cell? ⟨w.heap.size, 1, none⟩ = some (.int .i64 a0_1) := (qk HW.out.box 1).trans rfl;clear hpl hr' hro hp
         by_cases h45 : x = 45
         ·have d1 : (x != 45) = false := bne_eq_false_iff_eq.mpr h45
          rw [if_pos h45] at hst;clear h45
          by_cases h0 : sd = 0
          ·have d2 : (sd == 0) = true := beq_iff_eq.mpr h0
           rw [if_pos h0] at hst;have e' := (Option.some.inj hst).symm;clear h0 hst;subst e'
           exact lh_
          ·have d2 : (sd == 0) = false := beq_eq_false_iff_ne.mpr h0
           rw [if_neg h0] at hst;have e' := (Option.some.inj hst).symm;clear h0 hst;subst e'
           exact lh_
         ·have d1 : (x != 45) = true := bne_iff_ne.mpr h45
          rw [if_neg h45] at hst;have e' := (Option.some.inj hst).symm;clear h45 hst;subst e'
          exact lh_
        ·rw [if_neg hp] at hst
         cases hst
       ·obtain rfl : j = l1.length := by omega
        obtain rfl := Option.some.inj (hro.symm.trans HRW.out);have cb1 : decide ((l1.length : Int) < (l1.length : Int)) = false := decide_eq_false (by omega)
        have kd := run_convert_bytes_arg (P := Tryz.prog) wr 22 5 Tryz.underlying22 Tryz.underlying5 g 0 s.size cp o HW.out.hlen (fun i hi => by
         rw [Nat.zero_add, cell_of_row wr g i _ _ _ HW.out.hrow, List.getElem?_toArray, List.getElem?_append_left (by simp [nums, HW.out.hlen, hi])];have := HW.out.hlen
         simp [nums, List.getElem?_eq_getElem (show i < o.length by omega)]) 9 Tryz.underlying9
        clear hro
        go_wp2
        go_ret2
        exact ⟨rfl, HW.out.bel⟩
     ·rw [if_neg hz] at h
      cases h
def laws_zRises.l0 : Nat → List Int → Int → Option (Bool)
 | 0, _, _ => none
 | k + 1, x0, x3 => if x3 < (x0.length : Int) then (if 0 ≤ (wrap64 (x3 - 1)) then (if (wrap64 (x3 - 1)) < (x0.length : Int) then (if 0 ≤ x3 then (if (rd x0 (wrap64 (x3 - 1))) ≥ (rd x0 x3) then (some false) else (laws_zRises.l0 k x0 (wrap64 (x3 + 1)))) else (none)) else (none)) else (none)) else (some true)
def laws_zRises.f (k : Nat) (l0 : List Int) : Option (Bool) := laws_zRises.l0 k l0 1
theorem laws_zRises.zd : ∀ k, (∀ y0 y1, LeO (laws_zRises.l0 k y0 y1) (laws_zRises.l0 (k + 1) y0 y1))
 | 0 => fun _ _ r h => by simp [laws_zRises.l0] at h
 | k + 1 => by
  have ih0 := laws_zRises.zd k
  intro y0 y1
  unfold laws_zRises.l0
  exact la_
theorem laws_zRises.mono : ∀ a0 k, LeO (laws_zRises.f k a0) (laws_zRises.f (k + 1) a0) := by
 intro a0 k
 have ih0 := laws_zRises.zd k
 unfold laws_zRises.f
 exact la_
set_option maxHeartbeats 8000000 in
set_option maxRecDepth 100000 in
theorem laws_zRises.calls (k : Nat) (A0 : Option Addr) (c0 : Nat) (l0 : List Int) (r : Bool) (w : World) (hr0 : Kd.C (Kd.int .i64) w A0 l0.length l0) (hc0 : l0.length ≤ c0) (h : laws_zRises.f k l0 = some r) :
  Calls Tryz.prog 14 #[.slice A0 l0.length c0] w fun e w' => e = .returned (.bool r) ∧ ql w w' := by
 have HR0 := qb.mk hr0;have HC0 := qb.mk hc0;clear hr0 hc0;have H := h; clear h; unfold laws_zRises.f at H;have H' := qb.mk H;clear H
 go_enter Tryz.func14, Tryz.ntmps14
 go_wp2
 repeat (go_quiet (fail); try go_wp2)
 go_loopg [3] k (fun kq v3 w' => ∃ (x3_1 : Int), v3 = .int .i64 x3_1 ∧ qb (laws_zRises.l0 kq l0 x3_1 = some r) ∧ qb (kq ≤ k) ∧ ql w w')
 case atStart => exact ⟨(1), es_, H', ⟨Nat.le_refl _⟩, a0_⟩
 case round =>
  clear H';obtain ⟨x3_1, rfl, HA, HK1, ⟨m1, rfl⟩⟩ := hrel;cases gk with
  | zero => exact absurd HA.out (by simp [laws_zRises.l0])
  | succ k1 =>
   have H := HA.out;clear HA
   simp only [laws_zRises.l0] at H
   replace H := iD_ H; obtain ⟨c2b0, H⟩ | ⟨c2b0, H⟩ := H
   ·obtain ⟨ji3, hji3⟩ : ∃ j_ : Int, (wrap64 (x3_1 - 1)) = j_ := ⟨_, rfl⟩
    replace H : (if 0 ≤ (ji3) then (if (ji3) < (l0.length : Int) then (if 0 ≤ x3_1 then (if (rd l0 (ji3)) ≥ (rd l0 x3_1) then (some false) else (laws_zRises.l0 k1 l0 (wrap64 (x3_1 + 1)))) else (none)) else (none)) else (none)) = some r := by first | (rw [hji3] at H; exact H) | (simp only [hji3] at H ⊢; exact H)
    have hji3w : (IntKind.i64.wrap (x3_1 - 1)) = ji3 := (i64_w _).trans hji3;replace H := iD_ H; obtain ⟨c4b0, H⟩ | ⟨c4b0, H⟩ := H
    ·replace H := iD_ H; obtain ⟨c5b0, H⟩ | ⟨c5b0, H⟩ := H
     ·replace H := iD_ H; obtain ⟨c6b0, H⟩ | ⟨c6b0, H⟩ := H
      ·replace H := iC_ H; obtain ⟨c7, H⟩ | ⟨c7, H⟩ := H
       ·have c7b0 : decide ((rd l0 x3_1) ≤ (rd l0 (ji3))) = true := decide_eq_true c7
        clear c7;obtain rfl := Option.some.inj H;have p344 : 0 ≤ ((ji3) : Int) := od_;have q344 : (ji3) < (l0.length : Int) := od_;obtain ⟨ad344, e344, hx344_0⟩ := Kd.zi HR0.out (ji3) p344 q344;cases e344;replace p344 := eq_true p344;replace q344 := eq_true q344;have p345 : 0 ≤ (x3_1 : Int) := od_;have q345 : x3_1 < (l0.length : Int) := od_;obtain ⟨ad345, e345, hx345_0⟩ := Kd.zi HR0.out x3_1 p345 q345;obtain rfl : ad344 = ad345 := (by injection e345);replace p345 := eq_true p345;replace q345 := eq_true q345
        go_wp2
        repeat (go_quiet (fail); try go_wp2)
        go_ret
        exact ⟨cd_, a0_⟩
       ·have c7b0 : decide ((rd l0 x3_1) ≤ (rd l0 (ji3))) = false := decide_eq_false c7
        clear c7;have H' := qb.mk H;clear H;have p344 : 0 ≤ ((ji3) : Int) := od_;have q344 : (ji3) < (l0.length : Int) := od_;obtain ⟨ad344, e344, hx344_0⟩ := Kd.zi HR0.out (ji3) p344 q344;cases e344;replace p344 := eq_true p344;replace q344 := eq_true q344;have p345 : 0 ≤ (x3_1 : Int) := od_;have q345 : x3_1 < (l0.length : Int) := od_;obtain ⟨ad345, e345, hx345_0⟩ := Kd.zi HR0.out x3_1 p345 q345;obtain rfl : ad344 = ad345 := (by injection e345);replace p345 := eq_true p345;replace q345 := eq_true q345
        go_wp2
        repeat (go_quiet (fail); try go_wp2)
        exact lk_
      ·cases H
     ·cases H
    ·cases H
   ·obtain rfl := Option.some.inj H
    exact lJ_
def impl_isHouse.f (a0_0 : Int) (a0_1 : Int) (a1 : Int) : Option (Bool) := (impl_IsStreet.f a0_0 a0_1).bind fun t347 => (if t347 = true then ((impl_housesOf.f a0_0 a0_1).bind fun t348 => ((impl_within.f a1 1 t348).bind fun t349 => (some t349))) else (some false))
set_option maxHeartbeats 8000000 in
set_option maxRecDepth 100000 in
theorem impl_isHouse.calls (a0_0 : Int) (a0_1 : Int) (a1 : Int) (r : Bool) (w : World) (h : impl_isHouse.f a0_0 a0_1 a1 = some r) :
  Calls Tryz.prog 53 #[.agg #[.int .i64 a0_0, .int .i64 a0_1], .int .i64 a1] w fun e w' => e = .returned (.bool r) ∧ Below w.heap.size w w' := by
 have hu25 := Tryz.underlying25
 have HB := qb.mk (Below.refl w.heap.size w)
 have H := h; clear h; unfold impl_isHouse.f at H
 replace H := bX_ H; obtain ⟨t347, A3, H⟩ := H
 replace H := iB_ H; obtain ⟨rfl, H⟩ | ⟨rfl, H⟩ := H
 ·replace H := bX_ H; obtain ⟨t348, A5, H⟩ := H
  replace H := bX_ H; obtain ⟨t349, A6, H⟩ := H
  obtain rfl := Option.some.inj H
  go_enter Tryz.func53, Tryz.ntmps53
  go_wp2_with (first | (refine bE_ 2 #[.int .i64 a0_0, .int .i64 a0_1] 25 ?_; intro gb346 hg w7 hbox hb; have BK346 := qb.mk (hbox); have GW346 := qb.mk (bj_); have GE346 := qb.mk (bj_); replace HB := qb.mk ac_; clear hb hbox hg; have hcz8_0 := cC_ BK346 0; have hcz8_1 := cC_ BK346 1; have hfz8_0 := qi BK346.out 0; have hfz8_1 := qi BK346.out 1) | (refine gL_ 6 Tryz.func47 #[.agg #[.int .i64 a0_0, .int .i64 a0_1]] ?_; refine (impl_IsStreet.calls a0_0 a0_1 true _ A3.out).mono ?_; rintro e w9 ⟨rfl, hb⟩; refine ⟨_, rfl, ?_⟩; replace BK346 := qb.mk bf_; replace HB := qb.mk (qo (be1_ HB GE346) hb); (try clear hb); have hcz10_0 := cC_ BK346 0; have hcz10_1 := cC_ BK346 1; have hfz10_0 := qi BK346.out 0; have hfz10_1 := qi BK346.out 1) | (go_at_call 50; (with_reducible refine (impl_housesOf.calls a0_0 a0_1 t348 _ A5.out).mono ?_); rintro e w11 ⟨rfl, hb⟩; replace BK346 := qb.mk bf_; replace HB := qb.mk (qo (be1_ HB GE346) hb); (try clear hb)) | (go_at_call 65; (with_reducible refine (impl_within.calls a1 1 t348 t349 _ A6.out).mono ?_); rintro e w' ⟨rfl, ⟨nd, rfl⟩⟩))
  go_ret
  exact ⟨er_, be1_ HB GE346⟩
 ·obtain rfl := Option.some.inj H
  go_enter Tryz.func53, Tryz.ntmps53
  go_wp2_with (first | (refine bE_ 2 #[.int .i64 a0_0, .int .i64 a0_1] 25 ?_; intro gb346 hg w12 hbox hb; have BK346 := qb.mk (hbox); have GW346 := qb.mk (bj_); have GE346 := qb.mk (bj_); replace HB := qb.mk ac_; clear hb hbox hg; have hcz13_0 := cC_ BK346 0; have hcz13_1 := cC_ BK346 1; have hfz13_0 := qi BK346.out 0; have hfz13_1 := qi BK346.out 1) | (refine gL_ 6 Tryz.func47 #[.agg #[.int .i64 a0_0, .int .i64 a0_1]] ?_; refine (impl_IsStreet.calls a0_0 a0_1 false _ A3.out).mono ?_; rintro e w14 ⟨rfl, hb⟩; refine ⟨_, rfl, ?_⟩; replace BK346 := qb.mk bf_; replace HB := qb.mk (qo (be1_ HB GE346) hb); (try clear hb)))
  go_ret
  exact ⟨er_, be1_ HB GE346⟩
def impl_PlotOf.f (a0_0 : Int) (a0_1 : Int) (a1 : Int) : Option (Int × Int × Bool) := (impl_isHouse.f a0_0 a0_1 a1).bind fun t351 => (if t351 = true then ((impl_plotOf.f a0_0 a0_1 a1).bind fun bt352 => (some (bt352.1, bt352.2, true))) else (some (0, 0, false)))
set_option maxHeartbeats 8000000 in
set_option maxRecDepth 100000 in
theorem impl_PlotOf.calls (a0_0 : Int) (a0_1 : Int) (a1 : Int) (r1 : Int) (r2 : Int) (r3 : Bool) (w : World) (h : impl_PlotOf.f a0_0 a0_1 a1 = some (r1, r2, r3)) :
  Calls Tryz.prog 15 #[.agg #[.int .i64 a0_0, .int .i64 a0_1], .int .i64 a1] w fun e w' => e = .returned (.tuple #[.int .i64 r1, .int .i64 r2, .bool r3]) ∧ Below w.heap.size w w' := by
 have hu25 := Tryz.underlying25
 have HB := qb.mk (Below.refl w.heap.size w)
 have H := h; clear h; unfold impl_PlotOf.f at H
 replace H := bX_ H; obtain ⟨t351, A3, H⟩ := H
 replace H := iB_ H; obtain ⟨rfl, H⟩ | ⟨rfl, H⟩ := H
 ·replace H := bX_ H; obtain ⟨⟨t352, t353⟩, A5, H⟩ := H; (try dsimp only at H)
  replace H := iQ_ H; obtain ⟨rfl, rfl, rfl⟩ := H
  go_enter Tryz.func15, Tryz.ntmps15
  go_wp2_with (first | (refine bE_ 2 #[.int .i64 a0_0, .int .i64 a0_1] 25 ?_; intro gb350 hg w6 hbox hb; have BK350 := qb.mk (hbox); have GW350 := qb.mk (bi_); have GE350 := qb.mk (bi_); replace HB := qb.mk ac_; clear hb hbox hg; have hcz7_0 := cC_ BK350 0; have hcz7_1 := cC_ BK350 1; have hfz7_0 := qi BK350.out 0; have hfz7_1 := qi BK350.out 1) | (refine gL_ 11 Tryz.func53 #[.agg #[.int .i64 a0_0, .int .i64 a0_1], .int .i64 a1] ?_; refine (impl_isHouse.calls a0_0 a0_1 a1 true _ A3.out).mono ?_; rintro e w8 ⟨rfl, hb⟩; refine ⟨_, rfl, ?_⟩; replace BK350 := qb.mk be_; replace HB := qb.mk (qo (be1_ HB GE350) hb); (try clear hb); have hcz9_0 := cC_ BK350 0; have hcz9_1 := cC_ BK350 1; have hfz9_0 := qi BK350.out 0; have hfz9_1 := qi BK350.out 1) | (refine gL_ 16 Tryz.func52 #[.agg #[.int .i64 a0_0, .int .i64 a0_1], .int .i64 a1] ?_; refine (impl_plotOf.calls a0_0 a0_1 a1 t352 t353 _ A5.out).mono ?_; rintro e w10 ⟨rfl, hb⟩; refine ⟨_, rfl, ?_⟩; replace BK350 := qb.mk be_; replace HB := qb.mk (qo (be1_ HB GE350) hb); (try clear hb)))
  go_ret3
  exact ⟨er_, be1_ HB GE350⟩
 ·replace H := iQ_ H; obtain ⟨rfl, rfl, rfl⟩ := H
  go_enter Tryz.func15, Tryz.ntmps15
  go_wp2_with (first | (refine bE_ 2 #[.int .i64 a0_0, .int .i64 a0_1] 25 ?_; intro gb350 hg w11 hbox hb; have BK350 := qb.mk (hbox); have GW350 := qb.mk (bi_); have GE350 := qb.mk (bi_); replace HB := qb.mk ac_; clear hb hbox hg; have hcz12_0 := cC_ BK350 0; have hcz12_1 := cC_ BK350 1; have hfz12_0 := qi BK350.out 0; have hfz12_1 := qi BK350.out 1) | (refine gL_ 11 Tryz.func53 #[.agg #[.int .i64 a0_0, .int .i64 a0_1], .int .i64 a1] ?_; refine (impl_isHouse.calls a0_0 a0_1 a1 false _ A3.out).mono ?_; rintro e w13 ⟨rfl, hb⟩; refine ⟨_, rfl, ?_⟩; replace BK350 := qb.mk be_; replace HB := qb.mk (qo (be1_ HB GE350) hb); (try clear hb)))
  go_ret3
  exact ⟨er_, be1_ HB GE350⟩
def laws_zHas.l0 : Nat → Int → List Int → Int → Int → Option (Bool)
 | 0, _, _, _, _ => none
 | k + 1, x1, x7, x8, x9 => if x9 < x8 then (if 0 ≤ x9 then (if x9 < (x7.length : Int) then (if (rd x7 x9) = x1 then (some true) else (laws_zHas.l0 k x1 x7 x8 (wrap64 (x9 + 1)))) else (none)) else (none)) else (some false)
def laws_zHas.f (k : Nat) (l0 : List Int) (a1 : Int) : Option (Bool) := laws_zHas.l0 k a1 l0 (l0.length : Int) 0
theorem laws_zHas.zd : ∀ k, (∀ y0 y1 y2 y3, LeO (laws_zHas.l0 k y0 y1 y2 y3) (laws_zHas.l0 (k + 1) y0 y1 y2 y3))
 | 0 => fun _ _ _ _ r h => by simp [laws_zHas.l0] at h
 | k + 1 => by
  have ih0 := laws_zHas.zd k
  intro y0 y1 y2 y3
  unfold laws_zHas.l0
  exact l7_
theorem laws_zHas.mono : ∀ a0 a1 k, LeO (laws_zHas.f k a0 a1) (laws_zHas.f (k + 1) a0 a1) := by
 intro a0 a1 k
 have ih0 := laws_zHas.zd k
 unfold laws_zHas.f
 exact l7_
set_option maxHeartbeats 8000000 in
set_option maxRecDepth 100000 in
theorem laws_zHas.calls (k : Nat) (A0 : Option Addr) (c0 : Nat) (l0 : List Int) (a1 : Int) (r : Bool) (w : World) (hr0 : Kd.C (Kd.int .i64) w A0 l0.length l0) (hc0 : l0.length ≤ c0) (h : laws_zHas.f k l0 a1 = some r) :
  Calls Tryz.prog 16 #[.slice A0 l0.length c0, .int .i64 a1] w fun e w' => e = .returned (.bool r) ∧ ql w w' := by
 have HR0 := qb.mk hr0
 have HC0 := qb.mk hc0
 clear hr0 hc0
 have H := h; clear h; unfold laws_zHas.f at H
 have H' := qb.mk H
 clear H
 go_enter Tryz.func16, Tryz.ntmps16
 go_wp2
 go_loopg [9] k (fun kq v9 w' => ∃ (x9_1 : Int), v9 = .int .i64 x9_1 ∧ qb (laws_zHas.l0 kq a1 l0 (l0.length : Int) x9_1 = some r) ∧ qb (kq ≤ k) ∧ ql w w')
 case atStart => exact ⟨(0), es_, H', ⟨Nat.le_refl _⟩, a0_⟩
 case round =>
  clear H'
  obtain ⟨x9_1, rfl, HA, HK1, ⟨m1, rfl⟩⟩ := hrel
  cases gk with
  | zero => exact absurd HA.out (by simp [laws_zHas.l0])
  | succ k1 =>
   have H := HA.out
   clear HA
   simp only [laws_zHas.l0] at H
   replace H := iD_ H; obtain ⟨c3b0, H⟩ | ⟨c3b0, H⟩ := H
   ·replace H := iD_ H; obtain ⟨c4b0, H⟩ | ⟨c4b0, H⟩ := H
    ·replace H := iD_ H; obtain ⟨c5b0, H⟩ | ⟨c5b0, H⟩ := H
     ·replace H := iE_ H; obtain ⟨c6b0, c6b1, H⟩ | ⟨c6, c6b0, c6b1, H⟩ := H
      ·obtain rfl := Option.some.inj H
       have p354 : 0 ≤ (x9_1 : Int) := od_
       have q354 : x9_1 < (l0.length : Int) := od_
       obtain ⟨ad354, e354, hx354_0⟩ := Kd.zi HR0.out x9_1 p354 q354
       cases e354
       replace p354 := eq_true p354
       replace q354 := eq_true q354
       exact lb_
      ·have H' := qb.mk H
       clear H
       have p354 : 0 ≤ (x9_1 : Int) := od_
       have q354 : x9_1 < (l0.length : Int) := od_
       obtain ⟨ad354, e354, hx354_0⟩ := Kd.zi HR0.out x9_1 p354 q354
       cases e354
       replace p354 := eq_true p354
       replace q354 := eq_true q354
       exact lV_
     ·cases H
    ·cases H
   ·exact lT_
def spec_nuHouses.f (a0_0 : Int) (a0_1 : Int) : Option (Int) := if a0_0 = 0 then (some a0_1) else (some (wrap64 (2 * a0_1)))
set_option maxHeartbeats 8000000 in
set_option maxRecDepth 100000 in
theorem spec_nuHouses.calls (a0_0 : Int) (a0_1 : Int) (r : Int) (w : World) (h : spec_nuHouses.f a0_0 a0_1 = some r) :
  Calls Tryz.prog 56 #[.agg #[.int .i64 a0_0, .int .i64 a0_1]] w fun e w' => e = .returned (.int .i64 r) ∧ Below w.heap.size w w' := by
 have hu25 := Tryz.underlying25
 have HB := qb.mk (Below.refl w.heap.size w)
 have H := h; clear h; unfold spec_nuHouses.f at H
 replace H := iE_ H; obtain ⟨c2b0, c2b1, H⟩ | ⟨c2, c2b0, c2b1, H⟩ := H
 ·obtain rfl := Option.some.inj H
  go_enter Tryz.func56, Tryz.ntmps56
  go_wp2_with (first | (refine bE_ 1 #[.int .i64 a0_0, .int .i64 a0_1] 25 ?_; intro gb355 hg w3 hbox hb; have BK355 := qb.mk (hbox); have GW355 := qb.mk (bh_); have GE355 := qb.mk (bh_); replace HB := qb.mk ac_; clear hb hbox hg; have hcz4_0 := cC_ BK355 0; have hcz4_1 := cC_ BK355 1; have hfz4_0 := qi BK355.out 0; have hfz4_1 := qi BK355.out 1))
  go_ret
  exact ⟨er_, be1_ HB GE355⟩
 ·obtain rfl := Option.some.inj H
  go_enter Tryz.func56, Tryz.ntmps56
  go_wp2_with (first | (refine bE_ 1 #[.int .i64 a0_0, .int .i64 a0_1] 25 ?_; intro gb355 hg w5 hbox hb; have BK355 := qb.mk (hbox); have GW355 := qb.mk (bh_); have GE355 := qb.mk (bh_); replace HB := qb.mk ac_; clear hb hbox hg; have hcz6_0 := cC_ BK355 0; have hcz6_1 := cC_ BK355 1; have hfz6_0 := qi BK355.out 0; have hfz6_1 := qi BK355.out 1))
  go_ret
  exact ⟨er_, be1_ HB GE355⟩
def spec_DrawDeliveriesOf.l0 : Nat → List Int → Int → List Int → Int → Int → Int → Int → Option (Int × Int × List Int)
 | 0, _, _, _, _, _, _, _ => none
 | k + 1, x6, x7, x358000, x358001, x358002, x363000, x363001 => (spec_nuHouses.f x363000 x363001).bind fun t363 => ((spec_l1Least.f 30 t363).bind fun t364 => (if x7 ≤ t364 then ((spec_l1Cur_one.f x358000 x358001 x358002 3).bind fun bt365 => (if bt365.1 = true then (if x6.length < 17592186044416 then (spec_DrawDeliveriesOf.l0 k (x6 ++ [x7]) (wrap64 (x7 + 1)) x358000 bt365.2.1 bt365.2.2 x363000 x363001) else (none)) else (spec_DrawDeliveriesOf.l0 k x6 (wrap64 (x7 + 1)) x358000 bt365.2.1 bt365.2.2 x363000 x363001))) else ((spec_l1Cur_one.f x358000 x358001 x358002 10).bind fun bt371 => (if bt371.1 = true then ((spec_l1Cur_among.f x358000 bt371.2.1 bt371.2.2 (([0, 1, 25, 4611686018427387904] : List Int))).bind fun bt377 => (if x6.length < 17592186044416 then (some (x363000, x363001, (x6 ++ [bt377.1]))) else (none))) else (some (x363000, x363001, x6))))))
def spec_DrawDeliveriesOf.f (k : Nat) (l0 : List Int) : Option (Int × Int × List Int) := (spec_l1Cur_street.f l0 0 0).bind fun bt358 => (spec_DrawDeliveriesOf.l0 k ([] : List Int) 1 l0 bt358.2.2.1 bt358.2.2.2 bt358.1 bt358.2.1)
theorem spec_DrawDeliveriesOf.zd : ∀ k, (∀ y0 y1 y2 y3 y4 y5 y6, LeO (spec_DrawDeliveriesOf.l0 k y0 y1 y2 y3 y4 y5 y6) (spec_DrawDeliveriesOf.l0 (k + 1) y0 y1 y2 y3 y4 y5 y6))
 | 0 => fun _ _ _ _ _ _ _ r h => by simp [spec_DrawDeliveriesOf.l0] at h
 | k + 1 => by
  have ih0 := spec_DrawDeliveriesOf.zd k
  intro y0 y1 y2 y3 y4 y5 y6
  unfold spec_DrawDeliveriesOf.l0
  exact lE_
theorem spec_DrawDeliveriesOf.mono : ∀ a0 k, LeO (spec_DrawDeliveriesOf.f k a0) (spec_DrawDeliveriesOf.f (k + 1) a0) := by
 intro a0 k
 have ih0 := spec_DrawDeliveriesOf.zd k
 unfold spec_DrawDeliveriesOf.f
 exact lE_
set_option maxHeartbeats 8000000 in
set_option maxRecDepth 100000 in
theorem spec_DrawDeliveriesOf.calls (k : Nat) (A0 : Option Addr) (c0 : Nat) (l0 : List Int) (r1 : Int) (r2 : Int) (r3 : List Int) (w : World) (hr0 : Kd.C (Kd.int .u8) w A0 l0.length l0) (hc0 : l0.length ≤ c0) (h : spec_DrawDeliveriesOf.f k l0 = some (r1, r2, r3)) :
  Calls Tryz.prog 17 #[.slice A0 l0.length c0] w fun e w' => ∃ v2_ : Value, e = .returned (.tuple #[.agg #[.int .i64 r1, .int .i64 r2], v2_]) ∧ Kd.R (Kd.int .i64) 3 w' w.heap.size (fun _ => True) v2_ r3 ∧ Below w.heap.size w w' := by
 have hu25 := Tryz.underlying25;have hu76 := Tryz.underlying76;have HR0 := qb.mk hr0;have HC0 := qb.mk hc0;clear hr0 hc0;have HB := qb.mk (Below.refl w.heap.size w);have H := h; clear h; unfold spec_DrawDeliveriesOf.f at H;replace H := bX_ H; obtain ⟨⟨b9, d1, f2, f3⟩, A2, H⟩ := H; (try dsimp only at H);have H' := qb.mk H;clear H
 go_enter Tryz.func17, Tryz.ntmps17
 go_wp2_with (first | (refine bE_ 2 #[.int .i64 0, .int .i64 0] 25 ?_; intro b4 hg w3 hbox hb; have b3 := qb.mk (hbox); have g6 := qb.mk ((by rw [hg]; exact c3_ : w.heap.size ≤ b4)); have b5 := qb.mk ((by rw [hg]; exact c3_ : w.heap.size ≤ b4)); replace HB := qb.mk ac_; clear hb hbox hg) | (refine bE_ 10 #[.slice A0 l0.length c0, .int .i64 0, .int .u64 0] 76 ?_; intro b6 hg w4 hbox hb; have g7 := qb.mk ((by rw [hg]; exact (qn (be1_ HB b5)) : w.heap.size ≤ b6)); have g8 := qb.mk ((by rw [hg]; exact (qn (be1_ HB b5)) : w.heap.size ≤ b6)); have d3 := qb.mk ((by rw [hg]; exact Nat.ne_of_lt ba_ : b4 ≠ b6)); have b0 := qb.mk ((by rw [hg]; exact Nat.ne_of_gt ba_ : b6 ≠ b4)); replace b3 := qb.mk aj_; have HI357 := qb.mk ((⟨_, _, hbox, (by rw [hg]; exact (qn (be1_ HB b5))), HR0.out⟩ : IsS76 w w4 b6 l0 0 0)); replace HB := qb.mk (qo (be1_ HB b5) hb); clear hb hbox hg) | (refine gL_ 12 Tryz.func54 #[.pointer (some ⟨b6, 0, none⟩)] ?_; refine (spec_l1Cur_street.calls b6 l0 0 0 b9 d1 f2 f3 w _ (by repeat (first | (with_reducible first | exact HI357.out | apply IsS76.alloc | apply IsS76.drewN | apply IsS76.drew | apply IsS76.set_1 | apply IsS76.set_2 | refine IsS76.far ?_ b0.out _) | exact HI357.out)) (by repeat (first | (with_reducible first | exact HB.out | apply qd | apply qa | apply qe | refine qf ?_ ak_ | refine qf ?_ b5.out) | exact HB.out)) A2.out).mono ?_; rintro e w5 ⟨rfl, hi, hb, hk⟩; refine ⟨_, rfl, ?_⟩; replace b3 := qb.mk ai_; replace HB := qb.mk (hb); replace HI357 := qb.mk (hi); (try clear hb hk hi)) | (refine bE_ 5 #[.int .i64 0, .int .i64 0] 25 ?_; intro d2 hg w6 hbox hb; have b2 := qb.mk (hbox); have g9 := qb.mk ((by rw [hg]; exact (qn (by repeat (first | (with_reducible first | exact HB.out | apply qd | apply qa | apply qe | refine qf ?_ ak_ | refine qf ?_ b5.out) | exact HB.out))) : w.heap.size ≤ d2)); have d0 := qb.mk ((by rw [hg]; exact (qn (by repeat (first | (with_reducible first | exact HB.out | apply qd | apply qa | apply qe | refine qf ?_ ak_ | refine qf ?_ b5.out) | exact HB.out))) : w.heap.size ≤ d2)); replace HB := qb.mk (qo (by repeat (first | (with_reducible first | exact HB.out | apply qd | apply qa | apply qe | refine qf ?_ ak_ | refine qf ?_ b5.out) | exact HB.out)) hb); have d4 := qb.mk ((by rw [hg]; exact Nat.ne_of_lt ba_ : b4 ≠ d2)); have d5 := qb.mk ((by rw [hg]; exact Nat.ne_of_gt ba_ : d2 ≠ b4)); replace b3 := qb.mk aj_; have b1 := qb.mk ((by rw [hg]; exact Nat.ne_of_lt (IsS76.lt (show IsS76 w _ b6 l0 f2 f3 from by repeat (first | (with_reducible first | exact HI357.out | apply IsS76.alloc | apply IsS76.drewN | apply IsS76.drew | apply IsS76.set_1 | apply IsS76.set_2 | refine IsS76.far ?_ b0.out _) | exact HI357.out))) : b6 ≠ d2)); have b8 := qb.mk ((by rw [hg]; exact Nat.ne_of_gt (IsS76.lt (show IsS76 w _ b6 l0 f2 f3 from by repeat (first | (with_reducible first | exact HI357.out | apply IsS76.alloc | apply IsS76.drewN | apply IsS76.drew | apply IsS76.set_1 | apply IsS76.set_2 | refine IsS76.far ?_ b0.out _) | exact HI357.out))) : d2 ≠ b6)); replace HI357 := qb.mk (IsS76.below (by repeat (first | (with_reducible first | exact HI357.out | apply IsS76.alloc | apply IsS76.drewN | apply IsS76.drew | apply IsS76.set_1 | apply IsS76.set_2 | refine IsS76.far ?_ b0.out _) | exact HI357.out)) hb); clear hb hbox hg; have hnb7 := d5.out; have hnc7 := d4.out; have hnb8 := b8.out; have hnc8 := b1.out; have hcz9_0 := cC_ b2 0; have hcz9_1 := cC_ b2 1; have hfz9_0 := qi b2.out 0; have hfz9_1 := qi b2.out 1))
 go_loopg [6, 7] k (fun kq v6 v7 w' => ∃ (x6_1 : List Int) (x7_1 : Int) (x358001_1 : Int) (x358002_1 : Int), v7 = .int .i64 x7_1 ∧ qb (spec_DrawDeliveriesOf.l0 kq x6_1 x7_1 l0 x358001_1 x358002_1 b9 d1 = some (r1, r2, r3)) ∧ qb (kq ≤ k) ∧ qb (Kd.R (Kd.int .i64) 3 w' w.heap.size (fun _ => True) v6 x6_1) ∧ qb (w'.heap[b4]? = some (.cells #[.int .i64 0, .int .i64 0] 25 (0, 0))) ∧ qb (w'.heap[d2]? = some (.cells #[.int .i64 b9, .int .i64 d1] 25 (0, 0))) ∧ qb (IsS76 w w' b6 l0 x358001_1 x358002_1) ∧ qb (Below w.heap.size w w'))
 case atStart => exact ⟨(([] : List Int)), (1), (f2), (f3), es_, H', ⟨Nat.le_refl _⟩, ⟨by first | exact Kd.R_nil _ _ _ _ _ | exact Kd.N_nil _ _ _ _ _ | exact Kd.V_nil _ _ _ _ _ | exact Kd.Q_nil _ _ _ _ _ | exact Kd.S_nil _ _ _ _ _⟩, ⟨by (with_reducible repeat (first | refine qh ?_ _ | refine qj ?_ | refine qg ?_ _)); refine zm ?_ d4.out _; (with_reducible repeat (first | refine qh ?_ _ | refine qj ?_ | refine qg ?_ _)); refine zm ?_ d4.out _; (with_reducible repeat (first | refine qh ?_ _ | refine qj ?_ | refine qg ?_ _)); exact b3.out⟩, ⟨by (with_reducible repeat (first | refine qh ?_ _ | refine qj ?_ | refine qg ?_ _)); refine zr (cs := #[.int .i64 b9, .int .i64 0]) ?_ 1 _ rfl; (with_reducible repeat (first | refine qh ?_ _ | refine qj ?_ | refine qg ?_ _)); refine zr (cs := #[.int .i64 0, .int .i64 0]) ?_ 0 _ rfl; (with_reducible repeat (first | refine qh ?_ _ | refine qj ?_ | refine qg ?_ _)); exact b2.out⟩, ⟨by repeat (first | (with_reducible first | exact HI357.out | apply IsS76.alloc | apply IsS76.drewN | apply IsS76.drew | apply IsS76.set_1 | apply IsS76.set_2 | refine IsS76.far ?_ b0.out _ | refine IsS76.far ?_ b1.out _) | exact HI357.out)⟩, ⟨by repeat (first | (with_reducible first | exact HB.out | apply qd | apply qa | apply qe | refine qf ?_ ak_ | refine qf ?_ b5.out | refine qf ?_ d0.out) | exact HB.out)⟩⟩
 case round =>
  clear H';(try clear hcz9_0);(try clear hcz9_1);(try clear hfz9_0);(try clear hfz9_1);obtain ⟨x6_1, x7_1, x358001_1, x358002_1, rfl, HA, HK1, b7, b3, b2, HI357, HB⟩ := hrel;cases gk with
  | zero => exact absurd HA.out (by simp [spec_DrawDeliveriesOf.l0])
  | succ k1 =>
   have H := HA.out;clear HA
   simp only [spec_DrawDeliveriesOf.l0] at H
   replace H := bX_ H; obtain ⟨d7, A10, H⟩ := H;replace H := bX_ H; obtain ⟨f4, A11, H⟩ := H;replace H := iD_ H; obtain ⟨c12b0, H⟩ | ⟨c12b0, H⟩ := H
   ·replace H := bX_ H; obtain ⟨⟨m0, f0, f1⟩, A13, H⟩ := H; (try dsimp only at H)
    replace H := iB_ H; obtain ⟨rfl, H⟩ | ⟨rfl, H⟩ := H
    ·replace H := iC_ H; obtain ⟨c15, H⟩ | ⟨c15, H⟩ := H
     ·have LMc15 := qb.mk c15
      clear c15;obtain ⟨f8, hy368⟩ : ∃ y_ : List Int, y_ = (x6_1 ++ [x7_1]) := ⟨_, rfl⟩;replace H : (spec_DrawDeliveriesOf.l0 k1 f8 (wrap64 (x7_1 + 1)) l0 f0 f1 b9 d1) = some (r1, r2, r3) := by first | (rw [hy368]; with_reducible exact H) | (have H2_ := (Option.bind_some _ _).symm.trans H; rw [hy368]; with_reducible exact H2_) | (have H2_ := (Option.bind_some _ _).symm.trans H; with_reducible exact H2_) | with_reducible exact H | (rw [hy368]; exact H) | exact H
      have f9 := qb.mk hy368;clear hy368;have H' := qb.mk H;clear H;have hnb16 := d5.out;have hnc16 := d4.out;have hnb17 := b8.out;have hnc17 := b1.out;have hcz18_0 := cC_ b2 0;have hcz18_1 := cC_ b2 1;have hfz18_0 := qi b2.out 0;have hfz18_1 := qi b2.out 1
      go_wp2_with (first | (refine gL_ 15 Tryz.func56 #[.agg #[.int .i64 b9, .int .i64 d1]] ?_; refine (spec_nuHouses.calls b9 d1 d7 _ A10.out).mono ?_; rintro e w19 ⟨rfl, hb⟩; refine ⟨_, rfl, ?_⟩; replace b7 := qb.mk (Kd.jb (kr_ b7) hb); replace b3 := qb.mk aj_; replace b2 := qb.mk az_; replace HB := qb.mk (qo (by repeat (first | (with_reducible first | exact HB.out | apply qd | apply qa | apply qe | refine qf ?_ ak_ | refine qf ?_ b5.out | refine qf ?_ d0.out) | exact HB.out)) hb); replace HI357 := qb.mk (IsS76.below (by repeat (first | (with_reducible first | exact HI357.out | apply IsS76.alloc | apply IsS76.drewN | apply IsS76.drew | apply IsS76.set_1 | apply IsS76.set_2 | refine IsS76.far ?_ b0.out _ | refine IsS76.far ?_ b1.out _) | exact HI357.out)) hb); (try clear hb)) | (refine gL_ 16 Tryz.func55 #[.int .i64 30, .int .i64 d7] ?_; refine (spec_l1Least.calls 30 d7 f4 _ A11.out).mono ?_; rintro e w' ⟨rfl, ⟨nd, rfl⟩⟩; refine ⟨_, rfl, ?_⟩) | (refine gL_ 21 Tryz.func57 #[.pointer (some ⟨b6, 0, none⟩), .int .i64 3] ?_; refine (spec_l1Cur_one.calls b6 l0 x358001_1 x358002_1 3 true f0 f1 w _ (by repeat (first | (with_reducible first | exact HI357.out | apply IsS76.alloc | apply IsS76.drewN | apply IsS76.drew | apply IsS76.set_1 | apply IsS76.set_2 | refine IsS76.far ?_ b0.out _ | refine IsS76.far ?_ b1.out _) | exact HI357.out)) (by repeat (first | (with_reducible first | exact HB.out | apply qd | apply qa | apply qe | refine qf ?_ ak_ | refine qf ?_ b5.out | refine qf ?_ d0.out) | exact HB.out)) A13.out).mono ?_; rintro e w20 ⟨rfl, hi, hb, hk⟩; refine ⟨_, rfl, ?_⟩; replace b7 := qb.mk (Kd.zl (Kd.R_keep (IsS76.apart (show IsS76 w _ b6 l0 x358001_1 x358002_1 from by repeat (first | (with_reducible first | exact HI357.out | apply IsS76.alloc | apply IsS76.drewN | apply IsS76.drew | apply IsS76.set_1 | apply IsS76.set_2 | refine IsS76.far ?_ b0.out _ | refine IsS76.far ?_ b1.out _) | exact HI357.out)) (kr_ b7) (by decide)) hk (fun _ h => h.2)) (fun _ h => h.1)); replace b3 := qb.mk ai_; replace b2 := qb.mk an_; replace HB := qb.mk (hb); replace HI357 := qb.mk (hi); (try clear hb hk hi)) | ((with_reducible refine zg (b := .append) (xs := #[.tmp 22, .tmp 24]) rfl ?_); at_builtin; refine Kd.R_append (Kd.int .i64) (w0 := w) w.heap.size rfl (.tmp 22) (.tmp 24) 28 3 (.int .i64 0) 8 rfl Tryz.underlying28 info3 rfl (by decide) (by omega) u6 x6_1 x7_1 [.int .i64 x7_1] (fun _ => True) (fun _ => False) rfl rfl ?aP (fun _ hk => hk.elim) ?aF ?aO ?aB ?aS ?aL ?_; (case aP => exact rfl); (case aB => exact (by repeat (first | (with_reducible first | exact HB.out | apply qd | apply qa | apply qe | refine qf ?_ ak_ | refine qf ?_ b5.out | refine qf ?_ d0.out) | exact HB.out))); (case aF => exact (fun _ _ => trivial)); (case aO => exact (kr_ b7)); (case aS => exact (qn (by repeat (first | (with_reducible first | exact HB.out | apply qd | apply qa | apply qe | refine qf ?_ ak_ | refine qf ?_ b5.out | refine qf ?_ d0.out) | exact HB.out)))); (case aL => have := LMc15.out; omega); intro v369 w21 ho hb hg hat; rw [← f9.out] at ho; replace b3 := qb.mk c6_; replace b2 := qb.mk bz_; replace HI357 := qb.mk (IsS76.grown (by repeat (first | (with_reducible first | exact HI357.out | apply IsS76.alloc | apply IsS76.drewN | apply IsS76.drew | apply IsS76.set_1 | apply IsS76.set_2 | refine IsS76.far ?_ b0.out _ | refine IsS76.far ?_ b1.out _) | exact HI357.out)) hg (IsS76.own_ne HI357.out b7.out (by decide))); replace HB := qb.mk (hb); have g0 := qb.mk (ho); clear b7; clear ho hb hg hat))
      go_roundg k1
      case measure => have := HK1.out; omega
      case rel => exact ⟨(f8), (wrap64 (x7_1 + 1)), (f0), (f1), es_, H', ⟨by have := HK1.out; omega⟩, ⟨kr_ g0⟩, ⟨bk_ b3⟩, ⟨bk_ b2⟩, ⟨by repeat (first | (with_reducible first | exact HI357.out | apply IsS76.alloc | apply IsS76.drewN | apply IsS76.drew | apply IsS76.set_1 | apply IsS76.set_2 | refine IsS76.far ?_ b0.out _ | refine IsS76.far ?_ b1.out _) | exact HI357.out)⟩, ⟨by repeat (first | (with_reducible first | exact HB.out | apply qd | apply qa | apply qe | refine qf ?_ ak_ | refine qf ?_ b5.out | refine qf ?_ d0.out) | exact HB.out)⟩⟩
     ·cases H
    ·have H' := qb.mk H
     clear H;have hnb22 := d5.out;have hnc22 := d4.out;have hnb23 := b8.out;have hnc23 := b1.out;have hcz24_0 := cC_ b2 0;have hcz24_1 := cC_ b2 1;have hfz24_0 := qi b2.out 0;have hfz24_1 := qi b2.out 1
     go_wp2_with (first | (refine gL_ 15 Tryz.func56 #[.agg #[.int .i64 b9, .int .i64 d1]] ?_; refine (spec_nuHouses.calls b9 d1 d7 _ A10.out).mono ?_; rintro e w25 ⟨rfl, hb⟩; refine ⟨_, rfl, ?_⟩; replace b7 := qb.mk (Kd.jb (kr_ b7) hb); replace b3 := qb.mk aj_; replace b2 := qb.mk az_; replace HB := qb.mk (qo (by repeat (first | (with_reducible first | exact HB.out | apply qd | apply qa | apply qe | refine qf ?_ ak_ | refine qf ?_ b5.out | refine qf ?_ d0.out) | exact HB.out)) hb); replace HI357 := qb.mk (IsS76.below (by repeat (first | (with_reducible first | exact HI357.out | apply IsS76.alloc | apply IsS76.drewN | apply IsS76.drew | apply IsS76.set_1 | apply IsS76.set_2 | refine IsS76.far ?_ b0.out _ | refine IsS76.far ?_ b1.out _) | exact HI357.out)) hb); (try clear hb)) | (refine gL_ 16 Tryz.func55 #[.int .i64 30, .int .i64 d7] ?_; refine (spec_l1Least.calls 30 d7 f4 _ A11.out).mono ?_; rintro e w' ⟨rfl, ⟨nd, rfl⟩⟩; refine ⟨_, rfl, ?_⟩) | (refine gL_ 21 Tryz.func57 #[.pointer (some ⟨b6, 0, none⟩), .int .i64 3] ?_; refine (spec_l1Cur_one.calls b6 l0 x358001_1 x358002_1 3 false f0 f1 w _ (by repeat (first | (with_reducible first | exact HI357.out | apply IsS76.alloc | apply IsS76.drewN | apply IsS76.drew | apply IsS76.set_1 | apply IsS76.set_2 | refine IsS76.far ?_ b0.out _ | refine IsS76.far ?_ b1.out _) | exact HI357.out)) (by repeat (first | (with_reducible first | exact HB.out | apply qd | apply qa | apply qe | refine qf ?_ ak_ | refine qf ?_ b5.out | refine qf ?_ d0.out) | exact HB.out)) A13.out).mono ?_; rintro e w26 ⟨rfl, hi, hb, hk⟩; refine ⟨_, rfl, ?_⟩; replace b7 := qb.mk (Kd.zl (Kd.R_keep (IsS76.apart (show IsS76 w _ b6 l0 x358001_1 x358002_1 from by repeat (first | (with_reducible first | exact HI357.out | apply IsS76.alloc | apply IsS76.drewN | apply IsS76.drew | apply IsS76.set_1 | apply IsS76.set_2 | refine IsS76.far ?_ b0.out _ | refine IsS76.far ?_ b1.out _) | exact HI357.out)) (kr_ b7) (by decide)) hk (fun _ h => h.2)) (fun _ h => h.1)); replace b3 := qb.mk ai_; replace b2 := qb.mk an_; replace HB := qb.mk (hb); replace HI357 := qb.mk (hi); (try clear hb hk hi)))
     go_roundg k1
     case measure => have := HK1.out; omega
     case rel => exact ⟨(x6_1), (wrap64 (x7_1 + 1)), (f0), (f1), es_, H', ⟨by have := HK1.out; omega⟩, ⟨kr_ b7⟩, ⟨bk_ b3⟩, ⟨bk_ b2⟩, ⟨by repeat (first | (with_reducible first | exact HI357.out | apply IsS76.alloc | apply IsS76.drewN | apply IsS76.drew | apply IsS76.set_1 | apply IsS76.set_2 | refine IsS76.far ?_ b0.out _ | refine IsS76.far ?_ b1.out _) | exact HI357.out)⟩, ⟨by repeat (first | (with_reducible first | exact HB.out | apply qd | apply qa | apply qe | refine qf ?_ ak_ | refine qf ?_ b5.out | refine qf ?_ d0.out) | exact HB.out)⟩⟩
   ·replace H := bX_ H; obtain ⟨⟨m1, d8, d9⟩, A27, H⟩ := H; (try dsimp only at H)
    replace H := iB_ H; obtain ⟨rfl, H⟩ | ⟨rfl, H⟩ := H
    ·obtain ⟨f5, hy374⟩ : ∃ y_ : List Int, y_ = (([0, 1, 25, 4611686018427387904] : List Int)) := ⟨_, rfl⟩
     replace H : ((spec_l1Cur_among.f l0 d8 d9 f5).bind fun bt377 => (if x6_1.length < 17592186044416 then (some (b9, d1, (x6_1 ++ [bt377.1]))) else (none))) = some (r1, r2, r3) := by first | (rw [hy374]; with_reducible exact H) | (have H2_ := (Option.bind_some _ _).symm.trans H; rw [hy374]; with_reducible exact H2_) | (have H2_ := (Option.bind_some _ _).symm.trans H; with_reducible exact H2_) | with_reducible exact H | (rw [hy374]; exact H) | exact H
     have f7 := qb.mk hy374;clear hy374;replace H := bX_ H; obtain ⟨⟨f6, g3, g4⟩, A29, H⟩ := H; (try dsimp only at H);replace H := iC_ H; obtain ⟨c30, H⟩ | ⟨c30, H⟩ := H
     ·have LMc30 := qb.mk c30
      clear c30;obtain ⟨g5, hy380⟩ : ∃ y_ : List Int, y_ = (x6_1 ++ [f6]) := ⟨_, rfl⟩;replace H : (some (b9, d1, g5)) = some (r1, r2, r3) := by first | (rw [hy380]; with_reducible exact H) | (have H2_ := (Option.bind_some _ _).symm.trans H; rw [hy380]; with_reducible exact H2_) | (have H2_ := (Option.bind_some _ _).symm.trans H; with_reducible exact H2_) | with_reducible exact H | (rw [hy380]; exact H) | exact H
      have g1 := qb.mk hy380;clear hy380;replace H := iQ_ H; obtain ⟨rfl, rfl, rfl⟩ := H;have hnb31 := d5.out;have hnc31 := d4.out;have hnb32 := b8.out;have hnc32 := b1.out;have hcz33_0 := cC_ b2 0;have hcz33_1 := cC_ b2 1;have hfz33_0 := qi b2.out 0;have hfz33_1 := qi b2.out 1
      go_wp2_with (first | (refine gL_ 15 Tryz.func56 #[.agg #[.int .i64 b9, .int .i64 d1]] ?_; refine (spec_nuHouses.calls b9 d1 d7 _ A10.out).mono ?_; rintro e w34 ⟨rfl, hb⟩; refine ⟨_, rfl, ?_⟩; replace b7 := qb.mk (Kd.jb (kr_ b7) hb); replace b3 := qb.mk aj_; replace b2 := qb.mk az_; replace HB := qb.mk (qo (by repeat (first | (with_reducible first | exact HB.out | apply qd | apply qa | apply qe | refine qf ?_ ak_ | refine qf ?_ b5.out | refine qf ?_ d0.out) | exact HB.out)) hb); replace HI357 := qb.mk (IsS76.below (by repeat (first | (with_reducible first | exact HI357.out | apply IsS76.alloc | apply IsS76.drewN | apply IsS76.drew | apply IsS76.set_1 | apply IsS76.set_2 | refine IsS76.far ?_ b0.out _ | refine IsS76.far ?_ b1.out _) | exact HI357.out)) hb); (try clear hb)) | (refine gL_ 16 Tryz.func55 #[.int .i64 30, .int .i64 d7] ?_; refine (spec_l1Least.calls 30 d7 f4 _ A11.out).mono ?_; rintro e w' ⟨rfl, ⟨nd, rfl⟩⟩; refine ⟨_, rfl, ?_⟩; (try (rw [drewN_self w34]; generalize hq_ : World.drewN w34 _ = w34; have n0_ : qb (Kd.R (Kd.int .i64) 3 w34 w.heap.size (fun _ => True) u6 x6_1) := ⟨by rw [← hq_]; exact (kr_ b7)⟩; have n1_ : qb (w34.heap[b4]? = some (.cells #[.int .i64 0, .int .i64 0] 25 (0, 0))) := ⟨by rw [← hq_]; exact (bk_ b3)⟩; have n2_ : qb (w34.heap[d2]? = some (.cells #[.int .i64 b9, .int .i64 d1] 25 (0, 0))) := ⟨by rw [← hq_]; exact (bk_ b2)⟩; have n3_ : qb (IsS76 w w34 b6 l0 x358001_1 x358002_1) := ⟨by rw [← hq_]; exact (by repeat (first | (with_reducible first | exact HI357.out | apply IsS76.alloc | apply IsS76.drewN | apply IsS76.drew | apply IsS76.set_1 | apply IsS76.set_2 | refine IsS76.far ?_ b0.out _ | refine IsS76.far ?_ b1.out _) | exact HI357.out))⟩; have n4_ : qb (Below w.heap.size w w34) := ⟨by rw [← hq_]; exact (by repeat (first | (with_reducible first | exact HB.out | apply qd | apply qa | apply qe | refine qf ?_ ak_ | refine qf ?_ b5.out | refine qf ?_ d0.out) | exact HB.out))⟩; clear b7 b3 b2 HI357 HB hq_; have b7 := n0_; have b3 := n1_; have b2 := n2_; have HI357 := n3_; have HB := n4_; clear n0_ n1_ n2_ n3_ n4_))) | (refine gL_ 27 Tryz.func57 #[.pointer (some ⟨b6, 0, none⟩), .int .i64 10] ?_; refine (spec_l1Cur_one.calls b6 l0 x358001_1 x358002_1 10 true d8 d9 w _ (by repeat (first | (with_reducible first | exact HI357.out | apply IsS76.alloc | apply IsS76.drewN | apply IsS76.drew | apply IsS76.set_1 | apply IsS76.set_2 | refine IsS76.far ?_ b0.out _ | refine IsS76.far ?_ b1.out _) | exact HI357.out)) (by repeat (first | (with_reducible first | exact HB.out | apply qd | apply qa | apply qe | refine qf ?_ ak_ | refine qf ?_ b5.out | refine qf ?_ d0.out) | exact HB.out)) A27.out).mono ?_; rintro e w35 ⟨rfl, hi, hb, hk⟩; refine ⟨_, rfl, ?_⟩; replace b7 := qb.mk (Kd.zl (Kd.R_keep (IsS76.apart (show IsS76 w _ b6 l0 x358001_1 x358002_1 from by repeat (first | (with_reducible first | exact HI357.out | apply IsS76.alloc | apply IsS76.drewN | apply IsS76.drew | apply IsS76.set_1 | apply IsS76.set_2 | refine IsS76.far ?_ b0.out _ | refine IsS76.far ?_ b1.out _) | exact HI357.out)) (kr_ b7) (by decide)) hk (fun _ h => h.2)) (fun _ h => h.1)); replace b3 := qb.mk ai_; replace b2 := qb.mk an_; replace HB := qb.mk (hb); replace HI357 := qb.mk (hi); (try clear hb hk hi)) | ((with_reducible refine zc (N := 30) rfl ?_); refine Kd.R_lit (Kd.int .i64) _ 3 ?hg (N := 30) ?hd (xs := ([0, 1, 25, 4611686018427387904] : List Int)) (inner := [.int .i64 0, .int .i64 1, .int .i64 25, .int .i64 4611686018427387904]) (ok := fun _ => True) (okp := fun _ => True) ?hr ?hp (fun _ hk => hk) trivial (Below.refl _ _) (Nat.le_refl _) (by simp) ?_; (case hd => rfl); (case hg => rfl); (case hr => first | (go_simp; done) | (go_simp; rfl)); (case hp => exact (Reps.one (show Kd.M (Kd.int .i64) _ _ _ 0 [.int .i64 0] from rfl) (Reps.one (show Kd.M (Kd.int .i64) _ _ _ 1 [.int .i64 1] from rfl) (Reps.one (show Kd.M (Kd.int .i64) _ _ _ 25 [.int .i64 25] from rfl) (Reps.one (show Kd.M (Kd.int .i64) _ _ _ 4611686018427387904 [.int .i64 4611686018427387904] from rfl) (Reps.none _ _)))))); intro v375 w36 ho37 hb hg_ hnew_; clear hg_ hnew_; (first | rw [← f7.out] at ho37 | (simp only [Int.reduceToNat] at ho37; rw [← f7.out] at ho37)); have d6 := qb.mk (Kd.R_lower (Kd.R_new' ho37 (Kd.R_lt (kr_ b7))) (qn (by repeat (first | (with_reducible first | exact HB.out | apply qd | apply qa | apply qe | refine qf ?_ ak_ | refine qf ?_ b5.out | refine qf ?_ d0.out) | exact HB.out)))); replace b7 := qb.mk (Kd.R_elder' (kr_ b7) (Kd.R_base ho37) hb); replace b3 := qb.mk aj_; replace b2 := qb.mk az_; replace HB := qb.mk (qo (by repeat (first | (with_reducible first | exact HB.out | apply qd | apply qa | apply qe | refine qf ?_ ak_ | refine qf ?_ b5.out | refine qf ?_ d0.out) | exact HB.out)) hb); replace HI357 := qb.mk (IsS76.below (by repeat (first | (with_reducible first | exact HI357.out | apply IsS76.alloc | apply IsS76.drewN | apply IsS76.drew | apply IsS76.set_1 | apply IsS76.set_2 | refine IsS76.far ?_ b0.out _ | refine IsS76.far ?_ b1.out _) | exact HI357.out)) hb); clear hb ho37; obtain ⟨Ao38, co38, eo38⟩ := Kd.ja d6.out; subst eo38) | (refine gL_ 31 Tryz.func58 #[.pointer (some ⟨b6, 0, none⟩), .slice Ao38 f5.length co38] ?_; refine (spec_l1Cur_among.calls b6 l0 d8 d9 _ _ f5 f6 g3 g4 w _ (by repeat (first | (with_reducible first | exact HI357.out | apply IsS76.alloc | apply IsS76.drewN | apply IsS76.drew | apply IsS76.set_1 | apply IsS76.set_2 | refine IsS76.far ?_ b0.out _ | refine IsS76.far ?_ b1.out _) | exact HI357.out)) (by repeat (first | (with_reducible first | exact HB.out | apply qd | apply qa | apply qe | refine qf ?_ ak_ | refine qf ?_ b5.out | refine qf ?_ d0.out) | exact HB.out)) (by repeat (first | exact (Kd.ze d6.out).2.2 | (with_reducible refine Kd.zu ?_ _) | (with_reducible refine Kd.zt ?_ _) | (with_reducible refine Kd.zz ?_))) ((Kd.ze d6.out).2.1) (far_slice (IsS76.own_ne HI357.out d6.out (by decide))) A29.out).mono ?_; rintro e w39 ⟨rfl, hi, hb, hk⟩; refine ⟨_, rfl, ?_⟩; replace b7 := qb.mk (Kd.zl (Kd.R_keep (IsS76.apart (show IsS76 w _ b6 l0 d8 d9 from by repeat (first | (with_reducible first | exact HI357.out | apply IsS76.alloc | apply IsS76.drewN | apply IsS76.drew | apply IsS76.set_1 | apply IsS76.set_2 | refine IsS76.far ?_ b0.out _ | refine IsS76.far ?_ b1.out _) | exact HI357.out)) (kr_ b7) (by decide)) hk (fun _ h => h.2)) (fun _ h => h.1)); replace b3 := qb.mk ai_; replace b2 := qb.mk an_; replace d6 := qb.mk (Kd.zl (Kd.R_keep (IsS76.apart (show IsS76 w _ b6 l0 d8 d9 from by repeat (first | (with_reducible first | exact HI357.out | apply IsS76.alloc | apply IsS76.drewN | apply IsS76.drew | apply IsS76.set_1 | apply IsS76.set_2 | refine IsS76.far ?_ b0.out _ | refine IsS76.far ?_ b1.out _) | exact HI357.out)) (kr_ d6) (by decide)) hk (fun _ h => h.2)) (fun _ h => h.1)); replace HB := qb.mk (hb); replace HI357 := qb.mk (hi); (try clear hb hk hi)) | ((with_reducible refine zg (b := .append) (xs := #[.tmp 28, .tmp 32]) rfl ?_); at_builtin; refine Kd.R_append (Kd.int .i64) (w0 := w) w.heap.size rfl (.tmp 28) (.tmp 32) 28 3 (.int .i64 0) 8 rfl Tryz.underlying28 info3 rfl (by decide) (by omega) u6 x6_1 f6 [.int .i64 f6] (fun k_ => some k_ ≠ (.slice Ao38 f5.length co38 : Value).ownBlock) (fun _ => False) rfl rfl ?aP (fun _ hk => hk.elim) ?aF ?aO ?aB ?aS ?aL ?_; (case aP => exact rfl); (case aB => exact (by repeat (first | (with_reducible first | exact HB.out | apply qd | apply qa | apply qe | refine qf ?_ ak_ | refine qf ?_ b5.out | refine qf ?_ d0.out) | exact HB.out))); (case aF => exact (fun k_ hk => Kd.fresh' (Kd.R_lt (kr_ d6)) k_ hk)); (case aO => exact (by (with_reducible repeat (first | apply Kd.qu | apply Kd.qt | apply Kd.qv)); exact Kd.zl b7.out (fun _ hk => hk.2))); (case aS => exact (qn (by repeat (first | (with_reducible first | exact HB.out | apply qd | apply qa | apply qe | refine qf ?_ ak_ | refine qf ?_ b5.out | refine qf ?_ d0.out) | exact HB.out)))); (case aL => have := LMc30.out; omega); intro v381 w40 ho hb hg hat; rw [← g1.out] at ho; replace b3 := qb.mk c6_; replace b2 := qb.mk bz_; replace HI357 := qb.mk (IsS76.grown (by repeat (first | (with_reducible first | exact HI357.out | apply IsS76.alloc | apply IsS76.drewN | apply IsS76.drew | apply IsS76.set_1 | apply IsS76.set_2 | refine IsS76.far ?_ b0.out _ | refine IsS76.far ?_ b1.out _) | exact HI357.out)) hg (IsS76.own_ne HI357.out b7.out (by decide))); replace d6 := qb.mk (Kd.zy (ok := (fun _ => True)) (kr_ d6) hg hat); replace HB := qb.mk (hb); have g2 := qb.mk (ho); clear b7; clear ho hb hg hat; have hcz41_0 := cC_ b2 0; have hcz41_1 := cC_ b2 1; have hfz41_0 := qi b2.out 0; have hfz41_1 := qi b2.out 1; have hnb42 := d3.out; have hnc42 := b0.out; have hcz43_0 := cC_ b3 0; have hcz43_1 := cC_ b3 1; have hfz43_0 := qi b3.out 0; have hfz43_1 := qi b3.out 1))
      refine bodyPost_ret (results_ct rfl _ _ b4 25 #[.int .i64 b9, .int .i64 d1] (0, 0) _ rfl (by (with_reducible repeat (first | refine qh ?_ _ | refine qj ?_ | refine qg ?_ _)); refine zr (cs := #[.int .i64 b9, .int .i64 0]) ?_ 1 _ rfl; (with_reducible repeat (first | refine qh ?_ _ | refine qj ?_ | refine qg ?_ _)); refine zr (cs := #[.int .i64 0, .int .i64 0]) ?_ 0 _ rfl; (with_reducible repeat (first | refine qh ?_ _ | refine qj ?_ | refine qg ?_ _)); exact b3.out) Tryz.underlying25 rfl a9_) rfl ?_
      exact ⟨_, er_, (G0_ g2), (by repeat (first | (with_reducible first | exact HB.out | apply qd | apply qa | apply qe | refine qf ?_ ak_ | refine qf ?_ b5.out | refine qf ?_ d0.out) | exact HB.out))⟩
     ·cases H
    ·replace H := iQ_ H; obtain ⟨rfl, rfl, rfl⟩ := H
     have hnb44 := d5.out;have hnc44 := d4.out;have hnb45 := b8.out;have hnc45 := b1.out;have hcz46_0 := cC_ b2 0;have hcz46_1 := cC_ b2 1;have hfz46_0 := qi b2.out 0;have hfz46_1 := qi b2.out 1
     go_wp2_with (first | (refine gL_ 15 Tryz.func56 #[.agg #[.int .i64 b9, .int .i64 d1]] ?_; refine (spec_nuHouses.calls b9 d1 d7 _ A10.out).mono ?_; rintro e w47 ⟨rfl, hb⟩; refine ⟨_, rfl, ?_⟩; replace b7 := qb.mk (Kd.jb (kr_ b7) hb); replace b3 := qb.mk aj_; replace b2 := qb.mk az_; replace HB := qb.mk (qo (by repeat (first | (with_reducible first | exact HB.out | apply qd | apply qa | apply qe | refine qf ?_ ak_ | refine qf ?_ b5.out | refine qf ?_ d0.out) | exact HB.out)) hb); replace HI357 := qb.mk (IsS76.below (by repeat (first | (with_reducible first | exact HI357.out | apply IsS76.alloc | apply IsS76.drewN | apply IsS76.drew | apply IsS76.set_1 | apply IsS76.set_2 | refine IsS76.far ?_ b0.out _ | refine IsS76.far ?_ b1.out _) | exact HI357.out)) hb); (try clear hb)) | (refine gL_ 16 Tryz.func55 #[.int .i64 30, .int .i64 d7] ?_; refine (spec_l1Least.calls 30 d7 f4 _ A11.out).mono ?_; rintro e w' ⟨rfl, ⟨nd, rfl⟩⟩; refine ⟨_, rfl, ?_⟩; (try (rw [drewN_self w47]; generalize hq_ : World.drewN w47 _ = w47; have n0_ : qb (Kd.R (Kd.int .i64) 3 w47 w.heap.size (fun _ => True) u6 x6_1) := ⟨by rw [← hq_]; exact (kr_ b7)⟩; have n1_ : qb (w47.heap[b4]? = some (.cells #[.int .i64 0, .int .i64 0] 25 (0, 0))) := ⟨by rw [← hq_]; exact (bk_ b3)⟩; have n2_ : qb (w47.heap[d2]? = some (.cells #[.int .i64 b9, .int .i64 d1] 25 (0, 0))) := ⟨by rw [← hq_]; exact (bk_ b2)⟩; have n3_ : qb (IsS76 w w47 b6 l0 x358001_1 x358002_1) := ⟨by rw [← hq_]; exact (by repeat (first | (with_reducible first | exact HI357.out | apply IsS76.alloc | apply IsS76.drewN | apply IsS76.drew | apply IsS76.set_1 | apply IsS76.set_2 | refine IsS76.far ?_ b0.out _ | refine IsS76.far ?_ b1.out _) | exact HI357.out))⟩; have n4_ : qb (Below w.heap.size w w47) := ⟨by rw [← hq_]; exact (by repeat (first | (with_reducible first | exact HB.out | apply qd | apply qa | apply qe | refine qf ?_ ak_ | refine qf ?_ b5.out | refine qf ?_ d0.out) | exact HB.out))⟩; clear b7 b3 b2 HI357 HB hq_; have b7 := n0_; have b3 := n1_; have b2 := n2_; have HI357 := n3_; have HB := n4_; clear n0_ n1_ n2_ n3_ n4_))) | (refine gL_ 27 Tryz.func57 #[.pointer (some ⟨b6, 0, none⟩), .int .i64 10] ?_; refine (spec_l1Cur_one.calls b6 l0 x358001_1 x358002_1 10 false d8 d9 w _ (by repeat (first | (with_reducible first | exact HI357.out | apply IsS76.alloc | apply IsS76.drewN | apply IsS76.drew | apply IsS76.set_1 | apply IsS76.set_2 | refine IsS76.far ?_ b0.out _ | refine IsS76.far ?_ b1.out _) | exact HI357.out)) (by repeat (first | (with_reducible first | exact HB.out | apply qd | apply qa | apply qe | refine qf ?_ ak_ | refine qf ?_ b5.out | refine qf ?_ d0.out) | exact HB.out)) A27.out).mono ?_; rintro e w48 ⟨rfl, hi, hb, hk⟩; refine ⟨_, rfl, ?_⟩; replace b7 := qb.mk (Kd.zl (Kd.R_keep (IsS76.apart (show IsS76 w _ b6 l0 x358001_1 x358002_1 from by repeat (first | (with_reducible first | exact HI357.out | apply IsS76.alloc | apply IsS76.drewN | apply IsS76.drew | apply IsS76.set_1 | apply IsS76.set_2 | refine IsS76.far ?_ b0.out _ | refine IsS76.far ?_ b1.out _) | exact HI357.out)) (kr_ b7) (by decide)) hk (fun _ h => h.2)) (fun _ h => h.1)); replace b3 := qb.mk ai_; replace b2 := qb.mk an_; replace HB := qb.mk (hb); replace HI357 := qb.mk (hi); (try clear hb hk hi); have hcz49_0 := cC_ b2 0; have hcz49_1 := cC_ b2 1; have hfz49_0 := qi b2.out 0; have hfz49_1 := qi b2.out 1; have hnb50 := d3.out; have hnc50 := b0.out; have hcz51_0 := cC_ b3 0; have hcz51_1 := cC_ b3 1; have hfz51_0 := qi b3.out 0; have hfz51_1 := qi b3.out 1))
     refine bodyPost_ret (results_ct rfl _ _ b4 25 #[.int .i64 b9, .int .i64 d1] (0, 0) _ rfl (by (with_reducible repeat (first | refine qh ?_ _ | refine qj ?_ | refine qg ?_ _)); refine zr (cs := #[.int .i64 b9, .int .i64 0]) ?_ 1 _ rfl; (with_reducible repeat (first | refine qh ?_ _ | refine qj ?_ | refine qg ?_ _)); refine zr (cs := #[.int .i64 0, .int .i64 0]) ?_ 0 _ rfl; (with_reducible repeat (first | refine qh ?_ _ | refine qj ?_ | refine qg ?_ _)); exact b3.out) Tryz.underlying25 rfl a9_) rfl ?_
     exact ⟨_, er_, (G0_ b7), (by repeat (first | (with_reducible first | exact HB.out | apply qd | apply qa | apply qe | refine qf ?_ ak_ | refine qf ?_ b5.out | refine qf ?_ d0.out) | exact HB.out))⟩
end Go.Proofs.YtpopeedfgenebaaGreat.PFnPostDelivers
