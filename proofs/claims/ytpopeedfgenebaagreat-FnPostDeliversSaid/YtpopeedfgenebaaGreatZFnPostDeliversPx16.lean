/- Cut by wip/cut.py out of the texts of this claim (printed by the kit's printer, or this session's own): what the row's theorem does not reach is struck. Not trusted: Lean checks it. -/
import Derived.Test.YtpopeedfgenebaaGreatZFnPostDeliversPx0
import Derived.Test.YtpopeedfgenebaaGreatZFnPostDeliversPx1
import Derived.Test.YtpopeedfgenebaaGreatZFnPostDeliversPx2
import Derived.Test.YtpopeedfgenebaaGreatZFnPostDeliversPx5
namespace Go.Proofs.YtpopeedfgenebaaGreat.PFnPostDelivers
open Go.RowKit Go.Proofs.YtpopeedfgenebaaGreatW.PrintWords Go.Proofs.YtpopeedfgenebaaGreatW.PrintLast Go.Proofs.YtpopeedfgenebaaGreatW.PrintMore
attribute [local go_sem] zq zo zx zw zk zj zp zn
set_option linter.unusedVariables false
set_option linter.unusedSimpArgs false
def spec_MirrorDeliveries.l0 : Nat → ByteArray → ByteArray → Int → Option (ByteArray × Bool)
 | 0, _, _, _ => none
 | k + 1, x0, x4, x5 => if x5 < (x0.size : Int) then (if 0 ≤ x5 then (if (bt x0 x5) = 108 then (if x4.size + 1 ≤ 9223372036854775807 then (spec_MirrorDeliveries.l0 k x0 (x4 ++ (⟨#[114]⟩ : ByteArray)) (wrap64 (x5 + 1))) else (none)) else (if (bt x0 x5) = 114 then (if x4.size + 1 ≤ 9223372036854775807 then (spec_MirrorDeliveries.l0 k x0 (x4 ++ (⟨#[108]⟩ : ByteArray)) (wrap64 (x5 + 1))) else (none)) else (if x5 ≤ (wrap64 (x5 + 1)) then (if (wrap64 (x5 + 1)) ≤ (x0.size : Int) then (if x4.size + (x0.extract (x5 : Int).toNat ((wrap64 (x5 + 1)) : Int).toNat).size ≤ 9223372036854775807 then (spec_MirrorDeliveries.l0 k x0 (x4 ++ (x0.extract (x5 : Int).toNat ((wrap64 (x5 + 1)) : Int).toNat)) (wrap64 (x5 + 1))) else (none)) else (none)) else (none)))) else (none)) else (some (x4, true))
def spec_MirrorDeliveries.f (k : Nat) (a0 : ByteArray) : Option (ByteArray × Bool) := (spec_poGood.f k a0).bind fun t415 => (if t415 = true then (spec_MirrorDeliveries.l0 k a0 (⟨#[]⟩ : ByteArray) 0) else (some ((⟨#[]⟩ : ByteArray), false)))
theorem spec_MirrorDeliveries.zd : ∀ k, (∀ y0 y1 y2, LeO (spec_MirrorDeliveries.l0 k y0 y1 y2) (spec_MirrorDeliveries.l0 (k + 1) y0 y1 y2))
 | 0 => fun _ _ _ r h => by simp [spec_MirrorDeliveries.l0] at h
 | k + 1 => by
  have ih0 := spec_MirrorDeliveries.zd k
  intro y0 y1 y2
  unfold spec_MirrorDeliveries.l0
  exact le_
theorem spec_MirrorDeliveries.mono : ∀ a0 k, LeO (spec_MirrorDeliveries.f k a0) (spec_MirrorDeliveries.f (k + 1) a0) := by
 intro a0 k
 have ih0 := spec_MirrorDeliveries.zd k
 unfold spec_MirrorDeliveries.f
 exact le_
set_option maxHeartbeats 8000000 in
set_option maxRecDepth 100000 in
theorem spec_MirrorDeliveries.calls (k : Nat) (a0 : ByteArray) (r1 : ByteArray) (r2 : Bool) (w : World) (h : spec_MirrorDeliveries.f k a0 = some (r1, r2)) :
  Calls Tryz.prog 26 #[.string a0] w fun e w' => e = .returned (.tuple #[.string r1, .bool r2]) ∧ ql w w' := by
 have H := h; clear h; unfold spec_MirrorDeliveries.f at H;replace H := bX_ H; obtain ⟨b0, A2, H⟩ := H;replace H := iB_ H; obtain ⟨rfl, H⟩ | ⟨rfl, H⟩ := H
 ·have H' := qb.mk H
  clear H
  go_enter Tryz.func26, Tryz.ntmps26
  go_wp2_with (first | (refine gL_ 7 Tryz.func45 #[.string a0] ?_; refine (spec_poGood.calls k a0 true _ A2.out).mono ?_; rintro e w' ⟨rfl, ⟨nd, rfl⟩⟩; refine ⟨_, rfl, ?_⟩))
  go_loopg [4, 5] k (fun kq v4 v5 w' => ∃ (x4_1 : ByteArray) (x5_1 : Int), v4 = .string x4_1 ∧ v5 = .int .i64 x5_1 ∧ qb (spec_MirrorDeliveries.l0 kq a0 x4_1 x5_1 = some (r1, r2)) ∧ qb (kq ≤ k) ∧ ql w w')
  case atStart => exact ⟨((⟨#[]⟩ : ByteArray)), (0), es_, es_, H', ⟨Nat.le_refl _⟩, a0_⟩
  case round =>
   clear H';obtain ⟨x4_1, x5_1, rfl, rfl, HA, HK1, ⟨m1, rfl⟩⟩ := hrel;cases gk with
   | zero => exact absurd HA.out (by simp [spec_MirrorDeliveries.l0])
   | succ k1 =>
    have H := HA.out;clear HA
    simp only [spec_MirrorDeliveries.l0] at H
    replace H := iD_ H; obtain ⟨c4b0, H⟩ | ⟨c4b0, H⟩ := H
    ·replace H := iD_ H; obtain ⟨c5b0, H⟩ | ⟨c5b0, H⟩ := H
     ·replace H := iE_ H; obtain ⟨c7b0, c7b1, H⟩ | ⟨c7, c7b0, c7b1, H⟩ := H
      ·replace H := iC_ H; obtain ⟨c8, H⟩ | ⟨c8, H⟩ := H
       ·have c8b0 := eq_true c8
        have c8b1 : decide (x4_1.size + 1 ≤ 9223372036854775807) = true := decide_eq_true c8
        try have c8b2 : (9223372036854775807 < x4_1.size + 1) = False := eq_false (Nat.not_lt.2 c8)
        have H' := qb.mk H;clear H;have p6 : 0 ≤ (x5_1 : Int) := od_;have q6 : x5_1 < (a0.size : Int) := od_;have hx6 := bt_at a0 x5_1;replace p6 := eq_true p6;replace q6 := eq_true q6
        go_wp2
        go_roundg k1
        case measure => have := HK1.out; omega
        case rel => exact ⟨(x4_1 ++ (⟨#[114]⟩ : ByteArray)), (wrap64 (x5_1 + 1)), es_, es_, H', ⟨by have := HK1.out; omega⟩, a0_⟩
       ·cases H
      ·replace H := iE_ H; obtain ⟨c9b0, c9b1, H⟩ | ⟨c9, c9b0, c9b1, H⟩ := H
       ·replace H := iC_ H; obtain ⟨c10, H⟩ | ⟨c10, H⟩ := H
        ·have c10b0 := eq_true c10
         have c10b1 : decide (x4_1.size + 1 ≤ 9223372036854775807) = true := decide_eq_true c10
         try have c10b2 : (9223372036854775807 < x4_1.size + 1) = False := eq_false (Nat.not_lt.2 c10)
         have H' := qb.mk H;clear H;have p6 : 0 ≤ (x5_1 : Int) := od_;have q6 : x5_1 < (a0.size : Int) := od_;have hx6 := bt_at a0 x5_1;replace p6 := eq_true p6;replace q6 := eq_true q6
         go_wp2
         go_roundg k1
         case measure => have := HK1.out; omega
         case rel => exact ⟨(x4_1 ++ (⟨#[108]⟩ : ByteArray)), (wrap64 (x5_1 + 1)), es_, es_, H', ⟨by have := HK1.out; omega⟩, a0_⟩
        ·cases H
       ·have c11b0 := eq_true (od_ : 0 ≤ x5_1)
        replace H := iC_ H; obtain ⟨c12, H⟩ | ⟨c12, H⟩ := H
        ·have c12b0 := eq_true c12
         have c12b1 : decide (x5_1 ≤ (wrap64 (x5_1 + 1))) = true := decide_eq_true c12;replace H := iC_ H; obtain ⟨c13, H⟩ | ⟨c13, H⟩ := H
         ·have c13b0 := eq_true c13
          have c13b1 : decide ((wrap64 (x5_1 + 1)) ≤ (a0.size : Int)) = true := decide_eq_true c13;replace H := iC_ H; obtain ⟨c14, H⟩ | ⟨c14, H⟩ := H
          ·have c14b0 := eq_true c14
           have c14b1 : decide (x4_1.size + (a0.extract (x5_1 : Int).toNat ((wrap64 (x5_1 + 1)) : Int).toNat).size ≤ 9223372036854775807) = true := decide_eq_true c14
           try have c14b2 : (9223372036854775807 < x4_1.size + (a0.extract (x5_1 : Int).toNat ((wrap64 (x5_1 + 1)) : Int).toNat).size) = False := eq_false (Nat.not_lt.2 c14)
           have H' := qb.mk H;clear H;have p6 : 0 ≤ (x5_1 : Int) := od_;have q6 : x5_1 < (a0.size : Int) := od_;have hx6 := bt_at a0 x5_1;replace p6 := eq_true p6;replace q6 := eq_true q6
           go_wp2
           go_roundg k1
           case measure => have := HK1.out; omega
           case rel => exact ⟨(x4_1 ++ (a0.extract (x5_1 : Int).toNat ((wrap64 (x5_1 + 1)) : Int).toNat)), (wrap64 (x5_1 + 1)), es_, es_, H', ⟨by have := HK1.out; omega⟩, a0_⟩
          ·cases H
         ·cases H
        ·cases H
     ·cases H
    ·replace H := iP_ H; obtain ⟨rfl, rfl⟩ := H
     go_wp2
     go_ret2
     exact ⟨es_, a0_⟩
 ·replace H := iP_ H; obtain ⟨rfl, rfl⟩ := H
  go_enter Tryz.func26, Tryz.ntmps26
  exact lM_
set_option maxHeartbeats 1600000 in
set_option maxRecDepth 1000000 in
open Go.Sort Go.Lib in
theorem slices_Reverse_byte_byte.rev (blk off cap : Nat) (d : Array Int) (w : World) (hH : Go.Sort.Holds (Value.int .u8) w blk off d) (hsz : d.size ≤ 9223372036854775807) :
  Calls Tryz.prog 67 #[.slice (some ⟨blk, off, none⟩) d.size cap] w fun e w' => e = .returned (.tuple #[]) ∧ ∃ n, w' = Go.Sort.putRow (Value.int .u8) (Go.Sort.ahead w n) blk off d.reverse := by
 go_enter Tryz.func67, Tryz.ntmps67
 go_wp2
 go_loopg [2, 3] d.size (fun k s2 s3 wr => ∃ (i jn : Nat) (jz : Int) (dk : Array Int) (n : Nat), s2 = .int .i64 i ∧ s3 = .int .i64 jz ∧ ((i : Int) < jz → jz = jn ∧ jn < d.size) ∧ (¬ (i : Int) < jz → ¬ i < jn) ∧ jn - i ≤ k ∧
  dk.size = d.size ∧ wr = Go.Sort.putRow (Value.int .u8) (Go.Sort.ahead w n) blk off dk ∧ Go.Sort.reverseLoop i jn dk = Go.Sort.reverseLoop 0 (d.size - 1) d)
 case atStart => exact ⟨0, d.size - 1, (d.size : Int) - 1, d, 0, rfl, rfl, fun h => ⟨(by omega), (by omega)⟩, fun h => by omega, (by omega), rfl, (Go.Sort.putRow_self (Value.int .u8) w blk off d hH).symm, rfl⟩
 case round =>
  obtain ⟨i, jn, jz, dk, n, rfl, rfl, h1, h2, hk, hds, hwr, heq⟩ := hrel
  by_cases hlt : (i : Int) < jz
  ·obtain ⟨rfl, hjn⟩ := h1 hlt
   have hij : i < jn := by omega
   have hHk : Go.Sort.Holds (Value.int .u8) wr blk off dk := by rw [hwr]; exact Go.Sort.holds_putRow (Value.int .u8) _ blk off d dk (Go.Sort.holds_ahead (Value.int .u8) w n blk off d hH) hds
   obtain ⟨ci, fi⟩ := hHk i (by omega)
   obtain ⟨cj, fj⟩ := hHk jn (by omega)
   have A : Aside (wr = Go.Sort.putRow (Value.int .u8) (Go.Sort.ahead w n) blk off dk) := hwr
   clear hwr hHk hH h1 h2
   go_wp2_with fail
   go_region
   go_wp2
   go_roundg (jn - 1 - (i + 1))
   case measure => omega
   case rel =>
    rw [Go.Sort.reverseLoop, if_pos hij] at heq
    exact ⟨i + 1, jn - 1, (jn : Int) - 1, Go.Sort.swp dk i jn, n + 1, by simp, rfl, fun h => ⟨by omega, by omega⟩, fun h => by omega, Nat.le_refl _, by rw [Go.Sort.size_swp]; exact hds,
     Go.Proofs.swap_world (Value.int .u8) (by omega) (by omega) A.out (by first | rfl | simp [getElem!_pos, show jn < dk.size by omega]) (by first | rfl | simp [getElem!_pos, show i < dk.size by omega]), heq⟩
  ·have hnot := h2 hlt
   go_wp2
   go_end0
   refine ⟨rfl, n, ?_⟩
   rw [Go.Sort.reverseLoop, if_neg hnot] at heq
   rw [← Go.Lib.reverseLoop_reverse, ← heq]
def impl_BackDeliveries.f (k : Nat) (a0 : ByteArray) : Option (ByteArray × Bool) := (impl_AreDeliveries.f k a0).bind fun t => if t = true then (if a0.size ≤ 1048576 then some (strOfNums (bytesOf a0).reverse, true) else none) else some (⟨#[]⟩, false)
theorem impl_BackDeliveries.mono : ∀ a0 k, LeO (impl_BackDeliveries.f k a0) (impl_BackDeliveries.f (k + 1) a0) := fun a0 k => LeO.bind (impl_AreDeliveries.mono a0 k) (fun _ => LeO.refl _)
theorem impl_BackDeliveries.made (w W : World) (s : ByteArray) (hb : Below w.heap.size w W) : Go.Sort.Holds (Value.int .u8) (Lib.bytesWorld W 5 s) W.heap.size 0 (bytesOf s).toArray ∧ Below w.heap.size w (Lib.bytesWorld W 5 s) := by
 refine ⟨fun j hj => ?_, bytes_below hb hb.size _ _⟩
 have hn := Lib.bytesWorld_at_new W 5 s
 have hj' : j < s.size := by simpa [bytesOf_length] using hj
 have e : Lib.bytesCells W 5 s = (nums .u8 (bytesOf s) ++ List.replicate (grownCap W s.size 0 5 - s.size) (Value.int .u8 0)).toArray := by
  simp [Lib.bytesCells, nums, bytesOf]
 have e2 : (Lib.bytesCells W 5 s).size = s.size + (List.replicate (grownCap W s.size 0 5 - s.size) (Value.int .u8 0)).length := by
  rw [e]; simp [nums, bytesOf_length]
 rw [e2, e] at hn
 constructor
 ·rw [Nat.zero_add, cell_of_row _ _ _ _ _ _ hn, List.getElem?_toArray, List.getElem?_append_left (by simp [nums, bytesOf_length, hj'])]
  have : j < (bytesOf s).length := by rw [bytesOf_length]; exact hj'
  simp [nums, this]
 ·rw [Nat.zero_add]
  simp [World.frozen?, hn]
  omega
theorem impl_BackDeliveries.put_below {w W : World} {g n : Nat} (hb : Below w.heap.size w W) (hg : w.heap.size ≤ g) (d : Array Int) : Below w.heap.size w (Go.Sort.putRow (Value.int .u8) (Go.Sort.ahead W n) g 0 d) := by
 have hs : (Go.Sort.putRow (Value.int .u8) (Go.Sort.ahead W n) g 0 d).heap.size = W.heap.size := by simp [Go.Sort.putRow, Go.Sort.mapBlock, Go.Sort.ahead]
 refine ⟨hb.os, hb.tape, hb.output, (by rw [hs]; exact hb.size), fun k hk => ?_⟩
 refine Eq.trans ?_ (hb.block k hk)
 simp [Go.Sort.putRow, Go.Sort.mapBlock, Go.Sort.ahead, Array.getElem?_modify]
 omega
theorem impl_BackDeliveries.rev (g cap n : Nat) (xs : List Int) (W : World) (hH : Go.Sort.Holds (Value.int .u8) W g 0 xs.toArray) (hn : xs.length = n) (h6 : n ≤ 1048576) :
  Calls Tryz.prog 67 #[.slice (some ⟨g, 0, none⟩) n cap] W fun e w' => e = .returned (.tuple #[]) ∧ ∃ m, w' = Go.Sort.putRow (Value.int .u8) (Go.Sort.ahead W m) g 0 xs.reverse.toArray := by
 have h := slices_Reverse_byte_byte.rev g 0 cap xs.toArray W hH ca_
 simp only [List.size_toArray, hn] at h
 simpa using h
set_option maxHeartbeats 2000000 in
set_option maxRecDepth 100000 in
theorem impl_BackDeliveries.calls (k : Nat) (a0 : ByteArray) (r1 : ByteArray) (r2 : Bool) (w : World) (h : impl_BackDeliveries.f k a0 = some (r1, r2)) :
  Calls Tryz.prog 27 #[.string a0] w fun e w' => e = .returned (.tuple #[.string r1, .bool r2]) ∧ Below w.heap.size w w' := by
 unfold impl_BackDeliveries.f at h
 obtain ⟨t, ht, h⟩ := Option.bind_eq_some_iff.1 h
 have HT := qb.mk ht
 clear ht
 cases t with
 | false =>
  simp only [Bool.false_eq_true, if_false, Option.some.injEq, Prod.mk.injEq] at h
  obtain ⟨rfl, rfl⟩ := h
  go_enter Tryz.func27, Tryz.ntmps27
  exact lP_
 | true =>
  by_cases hs : a0.size ≤ 1048576
  ·simp only [if_true, if_pos hs, Option.some.injEq, Prod.mk.injEq] at h
   obtain ⟨rfl, rfl⟩ := h
   have kc := fun (W : World) => print_bytes (P := Tryz.prog) 9 22 5 Tryz.underlying9 Tryz.underlying22 Tryz.underlying5 a0 W
   go_enter Tryz.func27, Tryz.ntmps27
   go_upto_region 4 with (first | (go_at_call 43; refine (impl_AreDeliveries.calls k a0 true _ HT.out).mono ?_; rintro e w' ⟨rfl, ⟨nd, rfl⟩⟩))
   have hm : Go.Sort.Holds (Value.int .u8) (Lib.bytesWorld (w.drewN nd) 5 a0) w.heap.size 0 (bytesOf a0).toArray ∧ Below w.heap.size w (Lib.bytesWorld (w.drewN nd) 5 a0) := impl_BackDeliveries.made w (w.drewN nd) a0 (qa (Below.refl _ _) nd)
   have HM := Lib.hid (And.intro hm.1 hm.2)
   clear hm
   generalize grownCap (w.drewN nd) a0.size 0 5 = cp
   generalize Lib.bytesWorld (w.drewN nd) 5 a0 = W1 at HM ⊢
   have HG := Lib.hid (Nat.le_refl w.heap.size)
   clear kc HT
   go_wp2_with (go_at_call 67; refine (impl_BackDeliveries.rev w.heap.size cp a0.size (bytesOf a0) W1 HM.out.1 (bytesOf_length a0) hs).mono ?_; rintro e w' ⟨rfl, m, hw'⟩; have HB := Lib.hid (impl_BackDeliveries.put_below (n := m) HM.out.2 HG.out (bytesOf a0).reverse.toArray); have hh := Go.Sort.holds_putRow (Value.int .u8) (Go.Sort.ahead W1 m) w.heap.size 0 (bytesOf a0).toArray (bytesOf a0).reverse.toArray (Go.Sort.holds_ahead (Value.int .u8) W1 m w.heap.size 0 _ HM.out.1) (by simp); rw [← hw'] at hh HB; have HH := Lib.hid hh; clear hh hw'; have kd := run_convert_bytes_arg (P := Tryz.prog) w' 22 5 Tryz.underlying22 Tryz.underlying5 w.heap.size 0 a0.size cp (bytesOf a0).reverse (by rw [List.length_reverse]; exact bytesOf_length a0) (fun i hi => by
      rw [(HH.out i (by simpa [bytesOf_length] using hi)).1]
      have hl : i < (bytesOf a0).reverse.length := by rw [List.length_reverse, bytesOf_length]; exact hi
      simp [getElem!_pos, hl]) 9 Tryz.underlying9)
   go_ret2
   exact ⟨rfl, HB.out⟩
  ·simp only [if_true, if_neg hs] at h
   cases h
def spec_BackDeliveries.l0 : Nat → ByteArray → ByteArray → Int → Option (ByteArray × Bool)
 | 0, _, _, _ => none
 | k + 1, x0, x4, x5 => if x5 ≥ 0 then (if 0 ≤ x5 then (if x5 ≤ (wrap64 (x5 + 1)) then (if (wrap64 (x5 + 1)) ≤ (x0.size : Int) then (if x4.size + (x0.extract (x5 : Int).toNat ((wrap64 (x5 + 1)) : Int).toNat).size ≤ 9223372036854775807 then (spec_BackDeliveries.l0 k x0 (x4 ++ (x0.extract (x5 : Int).toNat ((wrap64 (x5 + 1)) : Int).toNat)) (wrap64 (x5 - 1))) else (none)) else (none)) else (none)) else (none)) else (some (x4, true))
def spec_BackDeliveries.f (k : Nat) (a0 : ByteArray) : Option (ByteArray × Bool) := (spec_poGood.f k a0).bind fun t416 => (if t416 = true then (spec_BackDeliveries.l0 k a0 (⟨#[]⟩ : ByteArray) (wrap64 ((a0.size : Int) - 1))) else (some ((⟨#[]⟩ : ByteArray), false)))
theorem spec_BackDeliveries.zd : ∀ k, (∀ y0 y1 y2, LeO (spec_BackDeliveries.l0 k y0 y1 y2) (spec_BackDeliveries.l0 (k + 1) y0 y1 y2))
 | 0 => fun _ _ _ r h => by simp [spec_BackDeliveries.l0] at h
 | k + 1 => by
  have ih0 := spec_BackDeliveries.zd k
  intro y0 y1 y2
  unfold spec_BackDeliveries.l0
  exact le_
theorem spec_BackDeliveries.mono : ∀ a0 k, LeO (spec_BackDeliveries.f k a0) (spec_BackDeliveries.f (k + 1) a0) := by
 intro a0 k
 have ih0 := spec_BackDeliveries.zd k
 unfold spec_BackDeliveries.f
 exact le_
set_option maxHeartbeats 8000000 in
set_option maxRecDepth 100000 in
theorem spec_BackDeliveries.calls (k : Nat) (a0 : ByteArray) (r1 : ByteArray) (r2 : Bool) (w : World) (h : spec_BackDeliveries.f k a0 = some (r1, r2)) :
  Calls Tryz.prog 28 #[.string a0] w fun e w' => e = .returned (.tuple #[.string r1, .bool r2]) ∧ ql w w' := by
 have H := h; clear h; unfold spec_BackDeliveries.f at H
 replace H := bX_ H; obtain ⟨t416, A2, H⟩ := H
 replace H := iB_ H; obtain ⟨rfl, H⟩ | ⟨rfl, H⟩ := H
 ·have H' := qb.mk H
  clear H
  go_enter Tryz.func28, Tryz.ntmps28
  go_wp2_with (first | (refine gL_ 7 Tryz.func45 #[.string a0] ?_; refine (spec_poGood.calls k a0 true _ A2.out).mono ?_; rintro e w' ⟨rfl, ⟨nd, rfl⟩⟩; refine ⟨_, rfl, ?_⟩))
  go_loopg [4, 5] k (fun kq v4 v5 w' => ∃ (x4_1 : ByteArray) (x5_1 : Int), v4 = .string x4_1 ∧ v5 = .int .i64 x5_1 ∧ qb (spec_BackDeliveries.l0 kq a0 x4_1 x5_1 = some (r1, r2)) ∧ qb (kq ≤ k) ∧ ql w w')
  case atStart => exact ⟨((⟨#[]⟩ : ByteArray)), (wrap64 ((a0.size : Int) - 1)), es_, es_, H', ⟨Nat.le_refl _⟩, a0_⟩
  case round =>
   clear H'
   obtain ⟨x4_1, x5_1, rfl, rfl, HA, HK1, ⟨m1, rfl⟩⟩ := hrel
   cases gk with
   | zero => exact absurd HA.out (by simp [spec_BackDeliveries.l0])
   | succ k1 =>
    have H := HA.out
    clear HA
    simp only [spec_BackDeliveries.l0] at H
    replace H := iC_ H; obtain ⟨c4, H⟩ | ⟨c4, H⟩ := H
    ·have c4b0 : decide (0 ≤ x5_1) = true := decide_eq_true c4
     clear c4
     replace H := iC_ H; obtain ⟨c5, H⟩ | ⟨c5, H⟩ := H
     ·have c5b0 := eq_true c5
      have c5b1 : decide (0 ≤ x5_1) = true := decide_eq_true c5
      clear c5
      replace H := iC_ H; obtain ⟨c6, H⟩ | ⟨c6, H⟩ := H
      ·have c6b0 := eq_true c6
       have c6b1 : decide (x5_1 ≤ (wrap64 (x5_1 + 1))) = true := decide_eq_true c6
       replace H := iC_ H; obtain ⟨c7, H⟩ | ⟨c7, H⟩ := H
       ·have c7b0 := eq_true c7
        have c7b1 : decide ((wrap64 (x5_1 + 1)) ≤ (a0.size : Int)) = true := decide_eq_true c7
        replace H := iC_ H; obtain ⟨c8, H⟩ | ⟨c8, H⟩ := H
        ·have c8b0 := eq_true c8
         have c8b1 : decide (x4_1.size + (a0.extract (x5_1 : Int).toNat ((wrap64 (x5_1 + 1)) : Int).toNat).size ≤ 9223372036854775807) = true := decide_eq_true c8
         try have c8b2 : (9223372036854775807 < x4_1.size + (a0.extract (x5_1 : Int).toNat ((wrap64 (x5_1 + 1)) : Int).toNat).size) = False := eq_false (Nat.not_lt.2 c8)
         have H' := qb.mk H
         clear H
         go_wp2
         go_roundg k1
         case measure => have := HK1.out; omega
         case rel => exact ⟨(x4_1 ++ (a0.extract (x5_1 : Int).toNat ((wrap64 (x5_1 + 1)) : Int).toNat)), (wrap64 (x5_1 - 1)), es_, es_, H', ⟨by have := HK1.out; omega⟩, a0_⟩
        ·cases H
       ·cases H
      ·cases H
     ·cases H
    ·have c4b0 : decide (0 ≤ x5_1) = false := decide_eq_false c4
     clear c4
     replace H := iP_ H; obtain ⟨rfl, rfl⟩ := H
     go_wp2
     go_ret2
     exact ⟨es_, a0_⟩
 ·replace H := iP_ H; obtain ⟨rfl, rfl⟩ := H
  go_enter Tryz.func28, Tryz.ntmps28
  exact lM_
def spec_DrawJoinDeliveries.f (k : Nat) (l0 : List Int) : Option (ByteArray × ByteArray) := (spec_l1Cur_deliveries.f k l0 0 0).bind fun bt418 => ((spec_l1Cur_one.f l0 bt418.2.1 bt418.2.2 6).bind fun bt421 => (if bt421.1 = true then ((spec_l1Cur_sureDeliveries.f k l0 bt421.2.1 bt421.2.2 54).bind fun bt424 => (some (bt418.1, bt424.1))) else ((spec_l1Cur_deliveries.f k l0 bt421.2.1 bt421.2.2).bind fun bt427 => (some (bt418.1, bt427.1)))))
theorem spec_DrawJoinDeliveries.mono : ∀ a0 k, LeO (spec_DrawJoinDeliveries.f k a0) (spec_DrawJoinDeliveries.f (k + 1) a0) := by
 intro a0 k
 unfold spec_DrawJoinDeliveries.f
 repeat' first | (with_reducible first | exact spec_l1Cur_deliveries.mono _ _ _ _ | exact spec_l1Cur_sureDeliveries.mono _ _ _ _ _ | exact LeO.refl _ | exact LeO.none _ | refine LeO.ite ?_ ?_ | refine LeO.bind ?_ (fun _ => ?_)) | exact spec_l1Cur_deliveries.mono _ _ _ _ | exact spec_l1Cur_sureDeliveries.mono _ _ _ _ _ | exact LeO.none _ | refine LeO.ite ?_ ?_ | refine LeO.bind ?_ (fun _ => ?_)
set_option maxHeartbeats 8000000 in
set_option maxRecDepth 100000 in
theorem spec_DrawJoinDeliveries.calls (k : Nat) (A0 : Option Addr) (c0 : Nat) (l0 : List Int) (r1 : ByteArray) (r2 : ByteArray) (w : World) (hr0 : Kd.C (Kd.int .u8) w A0 l0.length l0) (hc0 : l0.length ≤ c0) (h : spec_DrawJoinDeliveries.f k l0 = some (r1, r2)) :
  Calls Tryz.prog 29 #[.slice A0 l0.length c0] w fun e w' => e = .returned (.tuple #[.string r1, .string r2]) ∧ Below w.heap.size w w' := by
 have hu76 := Tryz.underlying76;have HR0 := qb.mk hr0;have HC0 := qb.mk hc0;clear hr0 hc0;have HB := qb.mk (Below.refl w.heap.size w);have H := h; clear h; unfold spec_DrawJoinDeliveries.f at H;replace H := bX_ H; obtain ⟨⟨b5, b1, b2⟩, A2, H⟩ := H; (try dsimp only at H);replace H := bX_ H; obtain ⟨⟨d4, b3, b4⟩, A3, H⟩ := H; (try dsimp only at H);replace H := iB_ H; obtain ⟨rfl, H⟩ | ⟨rfl, H⟩ := H
 ·replace H := bX_ H; obtain ⟨⟨b8, b9, d0⟩, A5, H⟩ := H; (try dsimp only at H)
  replace H := iP_ H; obtain ⟨rfl, rfl⟩ := H
  go_enter Tryz.func29, Tryz.ntmps29
  go_wp2_with (first | (refine bE_ 8 #[.slice A0 l0.length c0, .int .i64 0, .int .u64 0] 76 ?_; intro b0 hg w6 hbox hb; have b6 := qb.mk (bq_); have b7 := qb.mk (bq_); have HI417 := qb.mk ((⟨_, _, hbox, (by rw [hg]; exact c3_), HR0.out⟩ : IsS76 w w6 b0 l0 0 0)); replace HB := qb.mk ac_; clear hb hbox hg) | (refine gL_ 10 Tryz.func63 #[.pointer (some ⟨b0, 0, none⟩)] ?_; refine (spec_l1Cur_deliveries.calls k b0 l0 0 0 b5 b1 b2 w _ aa_ (by repeat (first | (with_reducible first | exact HB.out | apply qd | apply qa | apply qe | refine qf ?_ c1_) | exact HB.out)) A2.out).mono ?_; rintro e w7 ⟨rfl, hi, hb, hk⟩; refine ⟨_, rfl, ?_⟩; replace HB := qb.mk (hb); replace HI417 := qb.mk (hi); (try clear hb hk hi)) | (refine gL_ 12 Tryz.func57 #[.pointer (some ⟨b0, 0, none⟩), .int .i64 6] ?_; refine (spec_l1Cur_one.calls b0 l0 b1 b2 6 true b3 b4 w _ aa_ (by repeat (first | (with_reducible first | exact HB.out | apply qd | apply qa | apply qe | refine qf ?_ c1_) | exact HB.out)) A3.out).mono ?_; rintro e w8 ⟨rfl, hi, hb, hk⟩; refine ⟨_, rfl, ?_⟩; replace HB := qb.mk (hb); replace HI417 := qb.mk (hi); (try clear hb hk hi)) | (refine gL_ 15 Tryz.func68 #[.pointer (some ⟨b0, 0, none⟩), .int .i64 54] ?_; refine (spec_l1Cur_sureDeliveries.calls k b0 l0 b3 b4 54 b8 b9 d0 w _ aa_ (by repeat (first | (with_reducible first | exact HB.out | apply qd | apply qa | apply qe | refine qf ?_ c1_) | exact HB.out)) A5.out).mono ?_; rintro e w9 ⟨rfl, hi, hb, hk⟩; refine ⟨_, rfl, ?_⟩; replace HB := qb.mk (hb); replace HI417 := qb.mk (hi); (try clear hb hk hi)))
  exact lU_
 ·replace H := bX_ H; obtain ⟨⟨d1, d2, d3⟩, A10, H⟩ := H; (try dsimp only at H)
  replace H := iP_ H; obtain ⟨rfl, rfl⟩ := H
  go_enter Tryz.func29, Tryz.ntmps29
  go_wp2_with (first | (refine bE_ 8 #[.slice A0 l0.length c0, .int .i64 0, .int .u64 0] 76 ?_; intro b0 hg w11 hbox hb; have b6 := qb.mk (bq_); have b7 := qb.mk (bq_); have HI417 := qb.mk ((⟨_, _, hbox, (by rw [hg]; exact c3_), HR0.out⟩ : IsS76 w w11 b0 l0 0 0)); replace HB := qb.mk ac_; clear hb hbox hg) | (refine gL_ 10 Tryz.func63 #[.pointer (some ⟨b0, 0, none⟩)] ?_; refine (spec_l1Cur_deliveries.calls k b0 l0 0 0 b5 b1 b2 w _ aa_ (by repeat (first | (with_reducible first | exact HB.out | apply qd | apply qa | apply qe | refine qf ?_ c1_) | exact HB.out)) A2.out).mono ?_; rintro e w12 ⟨rfl, hi, hb, hk⟩; refine ⟨_, rfl, ?_⟩; replace HB := qb.mk (hb); replace HI417 := qb.mk (hi); (try clear hb hk hi)) | (refine gL_ 12 Tryz.func57 #[.pointer (some ⟨b0, 0, none⟩), .int .i64 6] ?_; refine (spec_l1Cur_one.calls b0 l0 b1 b2 6 false b3 b4 w _ aa_ (by repeat (first | (with_reducible first | exact HB.out | apply qd | apply qa | apply qe | refine qf ?_ c1_) | exact HB.out)) A3.out).mono ?_; rintro e w13 ⟨rfl, hi, hb, hk⟩; refine ⟨_, rfl, ?_⟩; replace HB := qb.mk (hb); replace HI417 := qb.mk (hi); (try clear hb hk hi)) | (refine gL_ 18 Tryz.func63 #[.pointer (some ⟨b0, 0, none⟩)] ?_; refine (spec_l1Cur_deliveries.calls k b0 l0 b3 b4 d1 d2 d3 w _ aa_ (by repeat (first | (with_reducible first | exact HB.out | apply qd | apply qa | apply qe | refine qf ?_ c1_) | exact HB.out)) A10.out).mono ?_; rintro e w14 ⟨rfl, hi, hb, hk⟩; refine ⟨_, rfl, ?_⟩; replace HB := qb.mk (hb); replace HI417 := qb.mk (hi); (try clear hb hk hi)))
  exact lU_
def impl_JoinDeliveries.f (k : Nat) (a0 : ByteArray) (a1 : ByteArray) : Option (ByteArray × Bool) := (impl_AreDeliveries.f k a0).bind fun t430 => (if t430 = true then ((impl_AreDeliveries.f k a1).bind fun t431 => (if t431 = true then (if a0.size + a1.size ≤ 9223372036854775807 then ((impl_AreDeliveries.f k (a0 ++ a1)).bind fun t432 => (if t432 = true then (some (a0 ++ a1, true)) else (some ((⟨#[]⟩ : ByteArray), false)))) else (none)) else (some ((⟨#[]⟩ : ByteArray), false)))) else (some ((⟨#[]⟩ : ByteArray), false)))
theorem impl_JoinDeliveries.mono : ∀ a0 a1 k, LeO (impl_JoinDeliveries.f k a0 a1) (impl_JoinDeliveries.f (k + 1) a0 a1) := by
 intro a0 a1 k
 unfold impl_JoinDeliveries.f
 exact lg_
set_option maxHeartbeats 8000000 in
set_option maxRecDepth 100000 in
theorem impl_JoinDeliveries.calls (k : Nat) (a0 : ByteArray) (a1 : ByteArray) (r1 : ByteArray) (r2 : Bool) (w : World) (h : impl_JoinDeliveries.f k a0 a1 = some (r1, r2)) :
  Calls Tryz.prog 30 #[.string a0, .string a1] w fun e w' => e = .returned (.tuple #[.string r1, .bool r2]) ∧ ql w w' := by
 have H := h; clear h; unfold impl_JoinDeliveries.f at H
 replace H := bX_ H; obtain ⟨t430, A3, H⟩ := H
 replace H := iB_ H; obtain ⟨rfl, H⟩ | ⟨rfl, H⟩ := H
 ·replace H := bX_ H; obtain ⟨t431, A5, H⟩ := H
  replace H := iB_ H; obtain ⟨rfl, H⟩ | ⟨rfl, H⟩ := H
  ·replace H := iC_ H; obtain ⟨c7, H⟩ | ⟨c7, H⟩ := H
   ·have c7b0 := eq_true c7
    have c7b1 : decide (a0.size + a1.size ≤ 9223372036854775807) = true := decide_eq_true c7
    try have c7b2 : (9223372036854775807 < a0.size + a1.size) = False := eq_false (Nat.not_lt.2 c7)
    replace H := bX_ H; obtain ⟨t432, A8, H⟩ := H
    replace H := iB_ H; obtain ⟨rfl, H⟩ | ⟨rfl, H⟩ := H
    ·replace H := iP_ H; obtain ⟨rfl, rfl⟩ := H
     go_enter Tryz.func30, Tryz.ntmps30
     go_wp2_with (first | (refine gL_ 7 Tryz.func43 #[.string a0] ?_; refine (impl_AreDeliveries.calls k a0 true _ A3.out).mono ?_; rintro e w' ⟨rfl, ⟨nd, rfl⟩⟩; refine ⟨_, rfl, ?_⟩) | (go_at_call 43; (with_reducible refine (impl_AreDeliveries.calls k a1 true _ A5.out).mono ?_); rintro e w' ⟨rfl, ⟨nd, rfl⟩⟩) | (go_at_call 43; (with_reducible refine (impl_AreDeliveries.calls k (a0 ++ a1) true _ A8.out).mono ?_); rintro e w' ⟨rfl, ⟨nd, rfl⟩⟩))
     go_ret2
     exact ⟨es_, a0_⟩
    ·replace H := iP_ H; obtain ⟨rfl, rfl⟩ := H
     go_enter Tryz.func30, Tryz.ntmps30
     go_wp2_with (first | (refine gL_ 7 Tryz.func43 #[.string a0] ?_; refine (impl_AreDeliveries.calls k a0 true _ A3.out).mono ?_; rintro e w' ⟨rfl, ⟨nd, rfl⟩⟩; refine ⟨_, rfl, ?_⟩) | (go_at_call 43; (with_reducible refine (impl_AreDeliveries.calls k a1 true _ A5.out).mono ?_); rintro e w' ⟨rfl, ⟨nd, rfl⟩⟩) | (go_at_call 43; (with_reducible refine (impl_AreDeliveries.calls k (a0 ++ a1) false _ A8.out).mono ?_); rintro e w' ⟨rfl, ⟨nd, rfl⟩⟩))
     go_ret2
     exact ⟨es_, a0_⟩
   ·cases H
  ·replace H := iP_ H; obtain ⟨rfl, rfl⟩ := H
   go_enter Tryz.func30, Tryz.ntmps30
   go_wp2_with (first | (refine gL_ 7 Tryz.func43 #[.string a0] ?_; refine (impl_AreDeliveries.calls k a0 true _ A3.out).mono ?_; rintro e w' ⟨rfl, ⟨nd, rfl⟩⟩; refine ⟨_, rfl, ?_⟩) | (go_at_call 43; (with_reducible refine (impl_AreDeliveries.calls k a1 false _ A5.out).mono ?_); rintro e w' ⟨rfl, ⟨nd, rfl⟩⟩))
   go_ret2
   exact ⟨es_, a0_⟩
 ·replace H := iP_ H; obtain ⟨rfl, rfl⟩ := H
  go_enter Tryz.func30, Tryz.ntmps30
  go_wp2_with (first | (refine gL_ 7 Tryz.func43 #[.string a0] ?_; refine (impl_AreDeliveries.calls k a0 false _ A3.out).mono ?_; rintro e w' ⟨rfl, ⟨nd, rfl⟩⟩; refine ⟨_, rfl, ?_⟩))
  go_ret2
  exact ⟨es_, a0_⟩
def spec_JoinDeliveries.f (k : Nat) (a0 : ByteArray) (a1 : ByteArray) : Option (ByteArray × Bool) := (spec_poGood.f k a0).bind fun t433 => (if t433 = true then ((spec_poGood.f k a1).bind fun t434 => (if t434 = true then (if a0.size + a1.size ≤ 9223372036854775807 then ((spec_poGood.f k (a0 ++ a1)).bind fun t435 => (if t435 = true then (some (a0 ++ a1, true)) else (some ((⟨#[]⟩ : ByteArray), false)))) else (none)) else (some ((⟨#[]⟩ : ByteArray), false)))) else (some ((⟨#[]⟩ : ByteArray), false)))
theorem spec_JoinDeliveries.mono : ∀ a0 a1 k, LeO (spec_JoinDeliveries.f k a0 a1) (spec_JoinDeliveries.f (k + 1) a0 a1) := by
 intro a0 a1 k
 unfold spec_JoinDeliveries.f
 repeat' first | (with_reducible first | exact spec_poGood.mono _ _ | exact LeO.refl _ | exact LeO.none _ | refine LeO.ite ?_ ?_ | refine LeO.bind ?_ (fun _ => ?_)) | exact spec_poGood.mono _ _ | exact LeO.none _ | refine LeO.ite ?_ ?_ | refine LeO.bind ?_ (fun _ => ?_)
set_option maxHeartbeats 8000000 in
set_option maxRecDepth 100000 in
theorem spec_JoinDeliveries.calls (k : Nat) (a0 : ByteArray) (a1 : ByteArray) (r1 : ByteArray) (r2 : Bool) (w : World) (h : spec_JoinDeliveries.f k a0 a1 = some (r1, r2)) :
  Calls Tryz.prog 31 #[.string a0, .string a1] w fun e w' => e = .returned (.tuple #[.string r1, .bool r2]) ∧ ql w w' := by
 have H := h; clear h; unfold spec_JoinDeliveries.f at H
 replace H := bX_ H; obtain ⟨t433, A3, H⟩ := H
 replace H := iB_ H; obtain ⟨rfl, H⟩ | ⟨rfl, H⟩ := H
 ·replace H := bX_ H; obtain ⟨t434, A5, H⟩ := H
  replace H := iB_ H; obtain ⟨rfl, H⟩ | ⟨rfl, H⟩ := H
  ·replace H := iC_ H; obtain ⟨c7, H⟩ | ⟨c7, H⟩ := H
   ·have c7b0 := eq_true c7
    have c7b1 : decide (a0.size + a1.size ≤ 9223372036854775807) = true := decide_eq_true c7
    try have c7b2 : (9223372036854775807 < a0.size + a1.size) = False := eq_false (Nat.not_lt.2 c7)
    replace H := bX_ H; obtain ⟨t435, A8, H⟩ := H
    replace H := iB_ H; obtain ⟨rfl, H⟩ | ⟨rfl, H⟩ := H
    ·replace H := iP_ H; obtain ⟨rfl, rfl⟩ := H
     go_enter Tryz.func31, Tryz.ntmps31
     go_wp2_with (first | (refine gL_ 7 Tryz.func45 #[.string a0] ?_; refine (spec_poGood.calls k a0 true _ A3.out).mono ?_; rintro e w' ⟨rfl, ⟨nd, rfl⟩⟩; refine ⟨_, rfl, ?_⟩) | (go_at_call 45; (with_reducible refine (spec_poGood.calls k a1 true _ A5.out).mono ?_); rintro e w' ⟨rfl, ⟨nd, rfl⟩⟩) | (go_at_call 45; (with_reducible refine (spec_poGood.calls k (a0 ++ a1) true _ A8.out).mono ?_); rintro e w' ⟨rfl, ⟨nd, rfl⟩⟩))
     go_ret2
     exact ⟨es_, a0_⟩
    ·replace H := iP_ H; obtain ⟨rfl, rfl⟩ := H
     go_enter Tryz.func31, Tryz.ntmps31
     go_wp2_with (first | (refine gL_ 7 Tryz.func45 #[.string a0] ?_; refine (spec_poGood.calls k a0 true _ A3.out).mono ?_; rintro e w' ⟨rfl, ⟨nd, rfl⟩⟩; refine ⟨_, rfl, ?_⟩) | (go_at_call 45; (with_reducible refine (spec_poGood.calls k a1 true _ A5.out).mono ?_); rintro e w' ⟨rfl, ⟨nd, rfl⟩⟩) | (go_at_call 45; (with_reducible refine (spec_poGood.calls k (a0 ++ a1) false _ A8.out).mono ?_); rintro e w' ⟨rfl, ⟨nd, rfl⟩⟩))
     go_ret2
     exact ⟨es_, a0_⟩
   ·cases H
  ·replace H := iP_ H; obtain ⟨rfl, rfl⟩ := H
   go_enter Tryz.func31, Tryz.ntmps31
   go_wp2_with (first | (refine gL_ 7 Tryz.func45 #[.string a0] ?_; refine (spec_poGood.calls k a0 true _ A3.out).mono ?_; rintro e w' ⟨rfl, ⟨nd, rfl⟩⟩; refine ⟨_, rfl, ?_⟩) | (go_at_call 45; (with_reducible refine (spec_poGood.calls k a1 false _ A5.out).mono ?_); rintro e w' ⟨rfl, ⟨nd, rfl⟩⟩))
   go_ret2
   exact ⟨es_, a0_⟩
 ·replace H := iP_ H; obtain ⟨rfl, rfl⟩ := H
  go_enter Tryz.func31, Tryz.ntmps31
  go_wp2_with (first | (refine gL_ 7 Tryz.func45 #[.string a0] ?_; refine (spec_poGood.calls k a0 false _ A3.out).mono ?_; rintro e w' ⟨rfl, ⟨nd, rfl⟩⟩; refine ⟨_, rfl, ?_⟩))
  go_ret2
  exact ⟨es_, a0_⟩
end Go.Proofs.YtpopeedfgenebaaGreat.PFnPostDelivers
