/- Cut by wip/cut.py out of the texts of this claim (printed by the kit's printer, or this session's own): what the row's theorem does not reach is struck. Not trusted: Lean checks it. -/
import Derived.Test.YtpopeedfgenebaaDoorZFnPostCrossesPx0
import Derived.Test.YtpopeedfgenebaaDoorZFnPostCrossesPx1
namespace Go.Proofs.YtpopeedfgenebaaDoor.PFnPostCrosses
open Go.RowKit Go.Proofs.YtpopeedfgenebaaDoorW.PrintWords Go.Proofs.YtpopeedfgenebaaDoorW.PrintLast Go.Proofs.YtpopeedfgenebaaDoorW.PrintMore
attribute [local go_sem] zb qz zf ze qw qv za qy
set_option linter.unusedVariables false
set_option linter.unusedSimpArgs false
def strings_LastIndexAny.down (l cs : List UInt8) : Nat → Int
 | 0 => -1
 | i + 1 => match l[i]? with
  | some x => if cs.contains x = true then (i : Int) else strings_LastIndexAny.down l cs i
  | none => strings_LastIndexAny.down l cs i
def strings_LastIndexAny.f (a0 : ByteArray) (a1 : ByteArray) : Option Int := if a0.size < 4294967281 ∧ a1.size < 4294967281 ∧ 2 ≤ a1.size ∧ strings_ContainsAny.ascii a0 = true ∧ strings_ContainsAny.ascii a1 = true then some (strings_LastIndexAny.down a0.data.toList a1.data.toList a0.size) else none
theorem strings_LastIndexAny.big (n : Int) (w : World) : Calls Tryd.prog 61 #[.int .i64 n] w fun e w' => e = .returned (.bool (decide (8 < n))) ∧ w' = w := by
 go_enter Tryd.func61, Tryd.ntmps61
 go_wp2
 go_ret
 exact ⟨rfl, rfl⟩
theorem strings_LastIndexAny.hit {l cs : List UInt8} {i : Nat} {x : UInt8} (hx : l[i]? = some x) (hc : cs.contains x = true) : strings_LastIndexAny.down l cs (i + 1) = (i : Int) := by
 unfold strings_LastIndexAny.down
 rw [hx]
 simp only [hc, if_true]
theorem strings_LastIndexAny.miss {l cs : List UInt8} {i : Nat} {x : UInt8} (hx : l[i]? = some x) (hc : cs.contains x = false) : strings_LastIndexAny.down l cs (i + 1) = strings_LastIndexAny.down l cs i := by
 rw [strings_LastIndexAny.down, hx]
 simp only [hc, Bool.false_eq_true, if_false]
theorem strings_LastIndexAny.last (s : ByteArray) (n : Nat) (x : UInt8) (w : World) (hn : s.size = n + 1) (hb : s.size < 4294967281) (hxl : s.data.toList[n]? = some x) (hx1 : x.toNat < 128) : Calls Tryd.prog 64 #[.string s] w fun e w' => e = .returned (.tuple #[.int .i32 x.toNat, .int .i64 1]) ∧ w' = w := by
 have hlt : n < s.size := by omega
 have hx : s[n]'hlt = x := by
  have h := Lib.data_getElem? s n hlt
  rw [hxl] at h
  exact (Option.some.inj h).symm
 have e0 : ((s.size : Int) == 0) = false := beq_eq_false_iff_ne.2 (by omega)
 have e1 : IntKind.i64.wrap ((s.size : Int) - 1) = (n : Int) := by rw [i64_w]; unfold wrap64; omega
 have p1 : (0 : Int) ≤ (n : Int) := by omega
 have p2 : (n : Int) < (s.size : Int) := by omega
 have p3 : decide ((x.toNat : Int) < 128) = true := decide_eq_true (by omega)
 have p4 : (x.toNat : Int) < 128 := by omega
 clear hn hb hxl
 go_enter Tryd.func64, Tryd.ntmps64
 go_wp2
 go_ret2
 exact ⟨rfl, rfl⟩
theorem strings_LastIndexAny.rune (s : ByteArray) (x : UInt8) (w : World) (hx : x.toNat < 128) : Calls Tryd.prog 60 #[.string s, .int .i32 x.toNat] w fun e w' => e = .returned (.int .i64 (Lib.indexByte s.data.toList x)) ∧ w' = w := by
 have hback : ((x.toNat : Int)).toNat.toUInt8 = x := by simp
 have h := Go.Proofs.Any.strings_IndexRune_ascii { strings_ContainsAny.lay with } s (x.toNat : Int) w (by omega) (by omega)
 rw [hback] at h
 exact h
set_option maxHeartbeats 4000000 in
set_option maxRecDepth 1000000 in
theorem strings_LastIndexAny.one (s chars : ByteArray) (w : World) (h2 : 2 ≤ chars.size) (h1 : s.size = 1) (hb : s.size < 4294967281) (has : ∀ (j : Nat) b, s.data.toList[j]? = some b → b.toNat < 128) :
  Calls Tryd.prog 51 #[.string s, .string chars] w fun e w' => e = .returned (.int .i64 (strings_LastIndexAny.down s.data.toList chars.data.toList s.size)) ∧ w' = w := by
 have hemp : chars.toList.isEmpty = false := by
  exact lg_
 have hemq : (chars.toList == []) = false := by
  exact lA_
 have hlt : 0 < s.size := by omega
 obtain ⟨x, hx⟩ : ∃ x : UInt8, s[0]'hlt = x := ⟨_, rfl⟩
 have hxl : s.data.toList[0]? = some x := by rw [← hx]; exact Lib.data_getElem? s 0 hlt
 have hx128 := has 0 x hxl
 have HR := Lib.hid (strings_LastIndexAny.rune chars x w hx128)
 have hcon := Lib.contains_iff_indexByte chars.data.toList x
 have hn1 : ((s.size : Int) == 1) = true := beq_iff_eq.2 (by omega)
 have hsz : (0 : Int) < (s.size : Int) := by omega
 have hcz : ¬ ((128 : Int) ≤ (x.toNat : Int)) := by omega
 rw [h1]
 cases hc : chars.data.toList.contains x
 ·rw [strings_LastIndexAny.miss hxl hc]
  have hng : ¬ (0 : Int) ≤ Lib.indexByte chars.data.toList x := by rw [hc] at hcon; simpa using hcon
  exact ly_
 ·rw [strings_LastIndexAny.hit hxl hc]
  have hng : (0 : Int) ≤ Lib.indexByte chars.data.toList x := by rw [hc] at hcon; simpa using hcon
  exact ly_
theorem strings_LastIndexAny.cut (s : ByteArray) (k : Nat) (h : k < s.size) : (s.extract 0 (k + 1)).size = k + 1 ∧ (s.extract 0 (k + 1)).data.toList[k]? = s.data.toList[k]? := by
 have e : (s.extract 0 (k + 1)).data.toList = s.data.toList.take (k + 1) := by simp [ByteArray.data_extract]
 refine ⟨?_, (by rw [e, List.getElem?_take_of_lt (by omega)])⟩
 rw [Lib.size_eq, e, List.length_take, ← Lib.size_eq]
 omega
set_option maxHeartbeats 4000000 in
set_option maxRecDepth 1000000 in
theorem strings_LastIndexAny.short (s chars : ByteArray) (w : World) (h2 : 2 ≤ chars.size) (h8 : s.size ≤ 8) (hne : s.size ≠ 1) (has : ∀ (j : Nat) b, s.data.toList[j]? = some b → b.toNat < 128) :
  Calls Tryd.prog 51 #[.string s, .string chars] w fun e w' => e = .returned (.int .i64 (strings_LastIndexAny.down s.data.toList chars.data.toList s.size)) ∧ w' = w := by
 have hemp : chars.toList.isEmpty = false := by
  exact lg_
 have hemq : (chars.toList == []) = false := by
  exact lA_
 have hn1 : ((s.size : Int) == 1) = false := beq_eq_false_iff_ne.2 (by omega)
 have hc1 : ((chars.size : Int) == 1) = false := beq_eq_false_iff_ne.2 (by omega)
 have h8z : decide ((8 : Int) < (s.size : Int)) = false := decide_eq_false (by omega)
 have HA := Lib.hid has
 clear has
 have HG := Lib.hid (strings_LastIndexAny.big (s.size : Int) w)
 go_enter Tryd.func51, Tryd.ntmps51
 go_wp2_with (go_at_call 61; refine HG.out.mono ?_; rintro e w2 ⟨rfl, rfl⟩; rw [h8z])
 go_loopg [13] s.size (fun g v13 wr => ∃ i : Nat, g = i ∧ i ≤ s.size ∧ v13 = .int .i64 i ∧ wr = w2 ∧ Hid (strings_LastIndexAny.down s.data.toList chars.data.toList s.size = strings_LastIndexAny.down s.data.toList chars.data.toList i))
 case atStart => exact ⟨s.size, rfl, Nat.le_refl _, rfl, rfl, Lib.hid rfl⟩
 case round =>
  obtain ⟨i, rfl, hi, rfl, rfl, HD⟩ := hrel
  cases gk with
  | zero =>
   have cb1 : decide ((0 : Int) < ((0 : Nat) : Int)) = false := rfl
   go_wp2
   go_ret
   exact ⟨(by rw [HD.out]; rfl), rfl⟩
  | succ k =>
   have hlt : k < s.size := by omega
   obtain ⟨x, hx⟩ : ∃ x : UInt8, s[k]'hlt = x := ⟨_, rfl⟩
   have hxl : s.data.toList[k]? = some x := by rw [← hx]; exact Lib.data_getElem? s k hlt
   have hx128 := HA.out k x hxl
   obtain ⟨t, ht⟩ : ∃ t, s.extract 0 (k + 1) = t := ⟨_, rfl⟩
   have hcut := strings_LastIndexAny.cut s k hlt
   rw [ht] at hcut
   have HT := Lib.hid (strings_LastIndexAny.last t k x wr hcut.1 (by omega) (by rw [hcut.2]; exact hxl) hx128)
   have HR := Lib.hid (strings_LastIndexAny.rune chars x wr hx128)
   have hcon := Lib.contains_iff_indexByte chars.data.toList x
   have cb1 : decide ((0 : Int) < ((k + 1 : Nat) : Int)) = true := decide_eq_true (by omega)
   have p1 : (0 : Int) ≤ ((k + 1 : Nat) : Int) := by omega
   have p2 : ((k + 1 : Nat) : Int) ≤ (s.size : Int) := by omega
   have e1 : IntKind.i64.wrap (((k + 1 : Nat) : Int) - 1) = (k : Int) := by rw [i64_w]; unfold wrap64; omega
   cases hc : chars.data.toList.contains x
   ·have hng : ¬ (0 : Int) ≤ Lib.indexByte chars.data.toList x := by rw [hc] at hcon; simpa using hcon
    have hmiss := strings_LastIndexAny.miss hxl hc
    have HM := Lib.hid hmiss
    clear hcon hxl hx128 hcut hmiss
    go_wp2_with (first | (go_at_call 64; refine HT.out.mono ?_; rintro e w3 ⟨rfl, rfl⟩) | (go_at_call 60; refine HR.out.mono ?_; rintro e w3 ⟨rfl, rfl⟩))
    go_roundg k
    case measure => omega
    case rel => exact ⟨k, rfl, (by omega), (by first | rfl | simp [e1]), rfl, Lib.hid (by rw [HD.out, HM.out])⟩
   ·have hng : (0 : Int) ≤ Lib.indexByte chars.data.toList x := by rw [hc] at hcon; simpa using hcon
    have hhit := strings_LastIndexAny.hit hxl hc
    have HM := Lib.hid hhit
    clear hcon hxl hx128 hcut hhit
    go_wp2_with (first | (go_at_call 64; refine HT.out.mono ?_; rintro e w3 ⟨rfl, rfl⟩) | (go_at_call 60; refine HR.out.mono ?_; rintro e w3 ⟨rfl, rfl⟩))
    go_ret
    exact ⟨(by rw [HD.out, HM.out]; rfl), rfl⟩
set_option maxHeartbeats 8000000 in
set_option maxRecDepth 1000000 in
theorem strings_LastIndexAny.long (s chars : ByteArray) (w : World) (h2 : 2 ≤ chars.size) (h8 : 8 < s.size) (hs : s.size < 4294967281) (hcs : chars.size < 4294967281) (hascii : ∀ (j : Nat) b, chars.data.toList[j]? = some b → b.toNat < 128) :
  Calls Tryd.prog 51 #[.string s, .string chars] w fun e w' => e = .returned (.int .i64 (strings_LastIndexAny.down s.data.toList chars.data.toList s.size)) ∧ w' = ((w.alloc (.cells (Lib.setCells chars.data.toList) 73)).alloc (.cells (Lib.setCells chars.data.toList) 73)) := by
 have hz := Go.zero_of_info strings_ContainsAny.set
 have hi116 : (Tryd.prog.info? 73).map (·.size) = some 256 := hz.2
 have hM := Lib.hid (show Calls Tryd.prog 62 #[.string chars] w (fun e w' => e = .returned (.tuple #[.agg (Lib.setCells chars.data.toList), .bool true]) ∧ w' = w.alloc (.cells (Lib.setCells chars.data.toList) 73)) from Go.Proofs.Any.strings_makeASCIISet { strings_ContainsAny.lay with } hz.1 hz.2 chars w hcs hascii)
 clear hascii hz
 have hemp : chars.toList.isEmpty = false := by
  exact lg_
 have hemq : (chars.toList == []) = false := by
  exact lA_
 have hn1 : ((s.size : Int) == 1) = false := beq_eq_false_iff_ne.2 (by omega)
 have h8z : decide ((8 : Int) < (s.size : Int)) = true := decide_eq_true (by omega)
 have hsc : (storeCells ⟨w.heap.size + 1, 0, none⟩ (Lib.setCells chars.data.toList).toList 0).run Tryd.prog ((w.alloc (.cells (Lib.setCells chars.data.toList) 73)).alloc (.cells Tryd.zeroCells73 73)) = .ok () ((w.alloc (.cells (Lib.setCells chars.data.toList) 73)).alloc (.cells (Lib.setCells chars.data.toList) 73)) := by
  have := run_storeCells_new (P := Tryd.prog) (w.alloc (.cells (Lib.setCells chars.data.toList) 73)) 73 (Array.replicate 256 (.bool false)) (Lib.setCells chars.data.toList) (by rw [Lib.setCells_size]; exact hi116) (by rw [Lib.setCells_size, Array.size_replicate]) (Lib.setCells_one _)
  rw [show Tryd.zeroCells73 = Array.replicate 256 (.bool false) by kernel_rfl]
  simpa using this
 have hsz := Lib.setCells_size chars.data.toList
 have HC := Lib.hid (show ∀ x : UInt8, ((w.alloc (.cells (Lib.setCells chars.data.toList) 73)).alloc (.cells (Lib.setCells chars.data.toList) 73)).cell? ⟨w.heap.size + 1, x.toNat, none⟩ = some (.bool (chars.data.toList.contains x)) from fun x => by
  rw [World.cell?_alloc_at _ _ _ _ (by simp), Lib.setCells_at])
 have HG := Lib.hid (strings_LastIndexAny.big (s.size : Int) w)
 have e1 : IntKind.i64.wrap ((s.size : Int) - 1) = (s.size : Int) - 1 := by rw [i64_w]; unfold wrap64; omega
 go_enter Tryd.func51, Tryd.ntmps51
 go_wp2_with (first | (go_at_call 61; refine HG.out.mono ?_; rintro e w2 ⟨rfl, hw⟩; rw [hw, h8z]) | (go_at_call 62; refine hM.out.mono ?_; rintro e w' ⟨rfl, hw⟩; rw [hw]))
 clear hsc
 go_loopg [8] s.size (fun g v8 wx => ∃ i : Nat, g = i ∧ i ≤ s.size ∧ v8 = .int .i64 ((i : Int) - 1) ∧ wx = ((w.alloc (.cells (Lib.setCells chars.data.toList) 73)).alloc (.cells (Lib.setCells chars.data.toList) 73)) ∧ Hid (strings_LastIndexAny.down s.data.toList chars.data.toList s.size = strings_LastIndexAny.down s.data.toList chars.data.toList i))
 case atStart => exact ⟨s.size, rfl, Nat.le_refl _, (by first | rfl | rw [e1] | simp [e1]), rfl, Lib.hid rfl⟩
 case round =>
  clear e1
  obtain ⟨i, rfl, hi, rfl, rfl, HD⟩ := hrel
  cases gk with
  | zero =>
   have cb1 : ¬ ((0 : Int) ≤ ((0 : Nat) : Int) - 1) := by omega
   go_wp2
   go_ret
   exact ⟨(by rw [HD.out]; rfl), rfl⟩
  | succ k =>
   have hlt : k < s.size := by omega
   obtain ⟨x, hx⟩ : ∃ x : UInt8, s[k]'hlt = x := ⟨_, rfl⟩
   have hxl : s.data.toList[k]? = some x := by rw [← hx]; exact Lib.data_getElem? s k hlt
   have hcx := HC.out x
   have ek : ((k + 1 : Nat) : Int) - 1 = (k : Int) := by omega
   rw [ek]
   have cb1 : (0 : Int) ≤ (k : Int) := by omega
   have p2 : (k : Int) < (s.size : Int) := by omega
   have e1 : IntKind.i64.wrap ((k : Int) - 1) = (k : Int) - 1 := by rw [i64_w]; unfold wrap64; omega
   cases hc : chars.data.toList.contains x
   ·have HM := Lib.hid (strings_LastIndexAny.miss hxl hc)
    rw [hc] at hcx
    have HK := Lib.hid (Go.Proofs.Any.asciiSet_contains { strings_ContainsAny.lay with } _ x _ _ hcx)
    clear hxl hcx
    go_wp2_with (go_at_call 63; refine HK.out.mono ?_; rintro e w3 ⟨rfl, hw3⟩; rw [hw3])
    go_roundg k
    case measure => omega
    case rel => exact ⟨k, rfl, (by omega), (by first | rfl | rw [e1] | simp [e1]), rfl, Lib.hid (by rw [HD.out, HM.out])⟩
   ·have HM := Lib.hid (strings_LastIndexAny.hit hxl hc)
    rw [hc] at hcx
    have HK := Lib.hid (Go.Proofs.Any.asciiSet_contains { strings_ContainsAny.lay with } _ x _ _ hcx)
    clear hxl hcx
    go_wp2_with (go_at_call 63; refine HK.out.mono ?_; rintro e w3 ⟨rfl, hw3⟩; rw [hw3])
    go_ret
    exact ⟨(by rw [HD.out, HM.out]; rfl), rfl⟩
theorem strings_LastIndexAny.calls (a0 : ByteArray) (a1 : ByteArray) (r : Int) (w : World) (h : strings_LastIndexAny.f a0 a1 = some r) :
  Calls Tryd.prog 51 #[.string a0, .string a1] w fun e w' => e = .returned (.int .i64 r) ∧ Below w.heap.size w w' := by
 unfold strings_LastIndexAny.f at h
 by_cases hc : a0.size < 4294967281 ∧ a1.size < 4294967281 ∧ 2 ≤ a1.size ∧ strings_ContainsAny.ascii a0 = true ∧ strings_ContainsAny.ascii a1 = true
 ·rw [if_pos hc] at h
  obtain rfl := Option.some.inj h
  obtain ⟨h0, h1, h2, h3, h4⟩ := hc
  have g0 := fun j b => strings_ContainsAny.ascii_at h3 j b
  have g1 := fun j b => strings_ContainsAny.ascii_at h4 j b
  by_cases c1 : a0.size = 1
  ·exact (strings_LastIndexAny.one a0 a1 w h2 c1 h0 g0).mono fun e w' ⟨e1, e2⟩ => ⟨e1, e2 ▸ Below.refl _ _⟩
  ·by_cases c8 : a0.size ≤ 8
   ·exact (strings_LastIndexAny.short a0 a1 w h2 c8 c1 g0).mono fun e w' ⟨e1, e2⟩ => ⟨e1, e2 ▸ Below.refl _ _⟩
   ·refine (strings_LastIndexAny.long a0 a1 w h2 (by omega) h0 h1 g1).mono fun e w' ⟨e1, e2⟩ => ⟨e1, ?_⟩
    rw [e2]
    exact qd (qd (Below.refl _ _) _) _
 ·rw [if_neg hc] at h
  cases h
def impl_aroundCost.f (a0 : ByteArray) (a1 : Int) : Option (Int) := (strings_LastIndexAny.f a0 (⟨#[108, 114, 98]⟩ : ByteArray)).bind fun t109 => ((strings_ContainsAny.f a0 (⟨#[114, 98]⟩ : ByteArray)).bind fun t110 => (if t110 = true then (some (wrap64 ((wrap64 (2 * (mx 0 t109))) + (wrap64 (2 * a1))))) else (some (wrap64 (2 * (mx 0 t109))))))
set_option maxHeartbeats 8000000 in
set_option maxRecDepth 100000 in
theorem impl_aroundCost.calls (a0 : ByteArray) (a1 : Int) (r : Int) (w : World) (h : impl_aroundCost.f a0 a1 = some r) :
  Calls Tryd.prog 31 #[.string a0, .int .i64 a1] w fun e w' => e = .returned (.int .i64 r) ∧ Below w.heap.size w w' := by
 have HB := qa.mk (Below.refl w.heap.size w)
 have H := h; clear h; unfold impl_aroundCost.f at H
 replace H := bX_ H; obtain ⟨t109, A3, H⟩ := H
 obtain ⟨ji4, hji4⟩ : ∃ j_ : Int, (mx 0 t109) = j_ := ⟨_, rfl⟩
 replace H : ((strings_ContainsAny.f a0 (⟨#[114, 98]⟩ : ByteArray)).bind fun t110 => (if t110 = true then (some (wrap64 ((wrap64 (2 * (ji4))) + (wrap64 (2 * a1))))) else (some (wrap64 (2 * (ji4)))))) = some r := by first | (rw [hji4] at H; exact H) | (simp only [hji4] at H ⊢; exact H)
 (try rw [hji4] at A3)
 (try (have hji4l : 0 ≤ ji4 := by (rw [← hji4]; unfold mx; (repeat' split) <;> omega)))
 (try (have hji4m : 0 ≤ ji4 := by omega))
 have hji4_ : (if 0 < t109 then t109 else 0) = ji4 := hji4
 replace H := bX_ H; obtain ⟨t110, A5, H⟩ := H
 replace H := iB_ H; obtain ⟨rfl, H⟩ | ⟨rfl, H⟩ := H
 ·obtain rfl := Option.some.inj H
  go_enter Tryd.func31, Tryd.ntmps31
  go_wp2_with (first | (refine gL_ 7 Tryd.func51 #[.string a0, .string (⟨#[108, 114, 98]⟩ : ByteArray)] ?_; refine (strings_LastIndexAny.calls a0 (⟨#[108, 114, 98]⟩ : ByteArray) t109 _ A3.out).mono ?_; rintro e w7 ⟨rfl, hb⟩; refine ⟨_, rfl, ?_⟩; replace HB := qa.mk a5_; (try clear hb)) | (refine gL_ 11 Tryd.func52 #[.string a0, .string (⟨#[114, 98]⟩ : ByteArray)] ?_; refine (strings_ContainsAny.calls a0 (⟨#[114, 98]⟩ : ByteArray) true _ A5.out).mono ?_; rintro e w8 ⟨rfl, hb⟩; refine ⟨_, rfl, ?_⟩; replace HB := qa.mk a5_; (try clear hb)))
  go_ret
  exact ⟨ai_, be0_ HB⟩
 ·obtain rfl := Option.some.inj H
  go_enter Tryd.func31, Tryd.ntmps31
  go_wp2_with (first | (refine gL_ 7 Tryd.func51 #[.string a0, .string (⟨#[108, 114, 98]⟩ : ByteArray)] ?_; refine (strings_LastIndexAny.calls a0 (⟨#[108, 114, 98]⟩ : ByteArray) t109 _ A3.out).mono ?_; rintro e w9 ⟨rfl, hb⟩; refine ⟨_, rfl, ?_⟩; replace HB := qa.mk a5_; (try clear hb)) | (refine gL_ 11 Tryd.func52 #[.string a0, .string (⟨#[114, 98]⟩ : ByteArray)] ?_; refine (strings_ContainsAny.calls a0 (⟨#[114, 98]⟩ : ByteArray) false _ A5.out).mono ?_; rintro e w10 ⟨rfl, hb⟩; refine ⟨_, rfl, ?_⟩; replace HB := qa.mk a5_; (try clear hb)))
  go_ret
  exact ⟨ai_, be0_ HB⟩
def impl_AroundCost.f (k : Nat) (a0 : ByteArray) (a1 : Int) : Option (Int × Bool) := (impl_AreDeliveries.f k a0).bind fun t111 => (if t111 = true then ((impl_isWide.f a1).bind fun t112 => (if t112 = true then ((impl_aroundCost.f a0 a1).bind fun t113 => (some (t113, true))) else (some (0, false)))) else (some (0, false)))
theorem impl_AroundCost.mono : ∀ a0 a1 k, LeO (impl_AroundCost.f k a0 a1) (impl_AroundCost.f (k + 1) a0 a1) := by
 intro a0 a1 k
 unfold impl_AroundCost.f
 exact lf_
set_option maxHeartbeats 8000000 in
set_option maxRecDepth 100000 in
theorem impl_AroundCost.calls (k : Nat) (a0 : ByteArray) (a1 : Int) (r1 : Int) (r2 : Bool) (w : World) (h : impl_AroundCost.f k a0 a1 = some (r1, r2)) :
  Calls Tryd.prog 7 #[.string a0, .int .i64 a1] w fun e w' => e = .returned (.tuple #[.int .i64 r1, .bool r2]) ∧ Below w.heap.size w w' := by
 have HB := qa.mk (Below.refl w.heap.size w)
 have H := h; clear h; unfold impl_AroundCost.f at H
 replace H := bX_ H; obtain ⟨t111, A3, H⟩ := H
 replace H := iB_ H; obtain ⟨rfl, H⟩ | ⟨rfl, H⟩ := H
 ·replace H := bX_ H; obtain ⟨t112, A5, H⟩ := H
  replace H := iB_ H; obtain ⟨rfl, H⟩ | ⟨rfl, H⟩ := H
  ·replace H := bX_ H; obtain ⟨t113, A7, H⟩ := H
   simp only [Option.some.injEq, Prod.mk.injEq] at H
   obtain ⟨rfl, rfl⟩ := H
   go_enter Tryd.func7, Tryd.ntmps7
   go_wp2_with (first | (refine gL_ 7 Tryd.func21 #[.string a0] ?_; refine (impl_AreDeliveries.calls k a0 true _ A3.out).mono ?_; rintro e w' ⟨rfl, ⟨nd, rfl⟩⟩; refine ⟨_, rfl, ?_⟩) | (go_at_call 30; refine (impl_isWide.calls a1 true _ A5.out).mono ?_; rintro e w' ⟨rfl, ⟨nd, rfl⟩⟩) | (refine gL_ 16 Tryd.func31 #[.string a0, .int .i64 a1] ?_; refine (impl_aroundCost.calls a0 a1 t113 _ A7.out).mono ?_; rintro e w8 ⟨rfl, hb⟩; refine ⟨_, rfl, ?_⟩; replace HB := qa.mk a5_; (try clear hb)))
   exact l5_
  ·simp only [Option.some.injEq, Prod.mk.injEq] at H
   obtain ⟨rfl, rfl⟩ := H
   go_enter Tryd.func7, Tryd.ntmps7
   go_wp2_with (first | (refine gL_ 7 Tryd.func21 #[.string a0] ?_; refine (impl_AreDeliveries.calls k a0 true _ A3.out).mono ?_; rintro e w' ⟨rfl, ⟨nd, rfl⟩⟩; refine ⟨_, rfl, ?_⟩) | (go_at_call 30; refine (impl_isWide.calls a1 false _ A5.out).mono ?_; rintro e w' ⟨rfl, ⟨nd, rfl⟩⟩))
   exact l5_
 ·simp only [Option.some.injEq, Prod.mk.injEq] at H
  obtain ⟨rfl, rfl⟩ := H
  go_enter Tryd.func7, Tryd.ntmps7
  go_wp2_with (first | (refine gL_ 7 Tryd.func21 #[.string a0] ?_; refine (impl_AreDeliveries.calls k a0 false _ A3.out).mono ?_; rintro e w' ⟨rfl, ⟨nd, rfl⟩⟩; refine ⟨_, rfl, ?_⟩))
  exact l5_
def spec_poAsked.f (k : Nat) (a0 : ByteArray) (a1 : Int) : Option (Bool) := (spec_poGood.f k a0).bind fun t114 => (if t114 = true then ((spec_l1In.f a1 0 2).bind fun t115 => (some t115)) else (some false))
theorem spec_poAsked.mono : ∀ a0 a1 k, LeO (spec_poAsked.f k a0 a1) (spec_poAsked.f (k + 1) a0 a1) := by
 intro a0 a1 k
 unfold spec_poAsked.f
 exact lh_
set_option maxHeartbeats 8000000 in
set_option maxRecDepth 100000 in
theorem spec_poAsked.calls (k : Nat) (a0 : ByteArray) (a1 : Int) (r : Bool) (w : World) (h : spec_poAsked.f k a0 a1 = some r) :
  Calls Tryd.prog 38 #[.string a0, .int .i64 a1] w fun e w' => e = .returned (.bool r) ∧ qg w w' := by
 have H := h; clear h; unfold spec_poAsked.f at H
 replace H := bX_ H; obtain ⟨t114, A3, H⟩ := H
 replace H := iB_ H; obtain ⟨rfl, H⟩ | ⟨rfl, H⟩ := H
 ·replace H := bX_ H; obtain ⟨t115, A5, H⟩ := H
  obtain rfl := Option.some.inj H
  go_enter Tryd.func38, Tryd.ntmps38
  go_wp2_with (first | (refine gL_ 6 Tryd.func27 #[.string a0] ?_; refine (spec_poGood.calls k a0 true _ A3.out).mono ?_; rintro e w' ⟨rfl, ⟨nd, rfl⟩⟩; refine ⟨_, rfl, ?_⟩) | (go_at_call 50; refine (spec_l1In.calls a1 0 2 t115 _ A5.out).mono ?_; rintro e w' ⟨rfl, ⟨nd, rfl⟩⟩))
  go_ret
  exact ⟨es_, a1_⟩
 ·obtain rfl := Option.some.inj H
  go_enter Tryd.func38, Tryd.ntmps38
  go_wp2_with (first | (refine gL_ 6 Tryd.func27 #[.string a0] ?_; refine (spec_poGood.calls k a0 false _ A3.out).mono ?_; rintro e w' ⟨rfl, ⟨nd, rfl⟩⟩; refine ⟨_, rfl, ?_⟩))
  go_ret
  exact ⟨es_, a1_⟩
def spec_poCross.f (a0 : Int) (a1 : Int) (a2 : Int) : Option (Int) := if a1 = a2 then (if a0 = 98 then (some 2) else (if a0 = 108 then (if a1 = 1 then (some 2) else (if a0 = 114 then (if a1 = 0 then (some 2) else (some 0)) else (some 0))) else (if a0 = 114 then (if a1 = 0 then (some 2) else (some 0)) else (some 0)))) else (some 1)
set_option maxHeartbeats 8000000 in
set_option maxRecDepth 100000 in
theorem spec_poCross.calls (a0 : Int) (a1 : Int) (a2 : Int) (r : Int) (w : World) (h : spec_poCross.f a0 a1 a2 = some r) :
  Calls Tryd.prog 49 #[.int .u8 a0, .int .i64 a1, .int .i64 a2] w fun e w' => e = .returned (.int .i64 r) ∧ qg w w' := by
 have H := h; clear h; unfold spec_poCross.f at H
 replace H := iE_ H; obtain ⟨c4b0, c4b1, H⟩ | ⟨c4, c4b0, c4b1, H⟩ := H
 ·replace H := iE_ H; obtain ⟨c5b0, c5b1, H⟩ | ⟨c5, c5b0, c5b1, H⟩ := H
  ·exact l6_
  ·replace H := iE_ H; obtain ⟨c6b0, c6b1, H⟩ | ⟨c6, c6b0, c6b1, H⟩ := H
   ·replace H := iE_ H; obtain ⟨c7b0, c7b1, H⟩ | ⟨c7, c7b0, c7b1, H⟩ := H
    ·exact l6_
    ·replace H := iE_ H; obtain ⟨c8b0, c8b1, H⟩ | ⟨c8, c8b0, c8b1, H⟩ := H
     ·replace H := iE_ H; obtain ⟨c9b0, c9b1, H⟩ | ⟨c9, c9b0, c9b1, H⟩ := H
      ·exact l6_
      ·exact l6_
     ·exact l6_
   ·replace H := iE_ H; obtain ⟨c10b0, c10b1, H⟩ | ⟨c10, c10b0, c10b1, H⟩ := H
    ·replace H := iE_ H; obtain ⟨c11b0, c11b1, H⟩ | ⟨c11, c11b0, c11b1, H⟩ := H
     ·exact l6_
     ·exact l6_
    ·exact l6_
 ·exact l6_
def spec_poEnd.f (a0 : Int) (a1 : Int) : Option (Bool) := if a0 = 2 then (some true) else (some (a0 == a1))
set_option maxHeartbeats 8000000 in
set_option maxRecDepth 100000 in
theorem spec_poEnd.calls (a0 : Int) (a1 : Int) (r : Bool) (w : World) (h : spec_poEnd.f a0 a1 = some r) :
  Calls Tryd.prog 56 #[.int .i64 a0, .int .i64 a1] w fun e w' => e = .returned (.bool r) ∧ qg w w' := by
 have H := h; clear h; unfold spec_poEnd.f at H
 replace H := iE_ H; obtain ⟨c3b0, c3b1, H⟩ | ⟨c3, c3b0, c3b1, H⟩ := H
 ·obtain rfl := Option.some.inj H
  go_enter Tryd.func56, Tryd.ntmps56
  exact l3_
 ·obtain rfl := Option.some.inj H
  go_enter Tryd.func56, Tryd.ntmps56
  exact l3_
def spec_l1Least.f (a0 : Int) (a1 : Int) : Option (Int) := if a0 < a1 then (some a0) else (some a1)
set_option maxHeartbeats 8000000 in
set_option maxRecDepth 100000 in
theorem spec_l1Least.calls (a0 : Int) (a1 : Int) (r : Int) (w : World) (h : spec_l1Least.f a0 a1 = some r) :
  Calls Tryd.prog 57 #[.int .i64 a0, .int .i64 a1] w fun e w' => e = .returned (.int .i64 r) ∧ qg w w' := by
 have H := h; clear h; unfold spec_l1Least.f at H
 replace H := iD_ H; obtain ⟨c3b0, H⟩ | ⟨c3b0, H⟩ := H
 ·obtain rfl := Option.some.inj H
  go_enter Tryd.func57, Tryd.ntmps57
  exact l3_
 ·obtain rfl := Option.some.inj H
  go_enter Tryd.func57, Tryd.ntmps57
  exact l3_
end Go.Proofs.YtpopeedfgenebaaDoor.PFnPostCrosses
