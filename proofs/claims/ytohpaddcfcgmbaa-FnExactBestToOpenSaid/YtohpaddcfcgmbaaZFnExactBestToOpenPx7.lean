/- Cut by wip/cut.py out of the texts of this claim (printed by the kit's printer, or this session's own): what the row's theorem does not reach is struck. Not trusted: Lean checks it. -/
import Derived.Test.YtohpaddcfcgmbaaZFnExactBestToOpenPx0
import Derived.Test.YtohpaddcfcgmbaaZFnExactBestToOpenPx1
import Derived.Test.YtohpaddcfcgmbaaZFnExactBestToOpenPx6
namespace Go.Proofs.Ytohpaddcfcgmbaa.PFnExactBestToOpen
open Go.RowKit Go.Proofs.YtohpaddcfcgmbaaW.PrintWords Go.Proofs.YtohpaddcfcgmbaaW.PrintLast Go.Proofs.YtohpaddcfcgmbaaW.PrintMore
attribute [local go_sem] max2_int min2_int max_two min_two max_three min_three max_four min_four
set_option linter.unusedVariables false
set_option linter.unusedSimpArgs false
def impl_opened.eqo (b o : S38) : Bool := o.f0 == b.f0 && (o.f1 == b.f1 && (o.f2 == b.f2))
def impl_opened.f (_k : Nat) (a0_0 : Int) (a0_1 : Int) (l0_2 : List S38) (a1_0 : Int) (a1_1 : Int) (a1_2 : Bool) : Option (Int × Int × List S38) := (impl_Block_98.f l0_2).bind fun l => if l.length ≤ 1000000 then some (a0_0, a0_1, l.filter fun o => !impl_opened.eqo ⟨a1_0, a1_1, a1_2⟩ o) else none
theorem impl_opened.mono : ∀ a0 a1 a2 a3 a4 a5 k, LeO (impl_opened.f k a0 a1 a2 a3 a4 a5) (impl_opened.f (k + 1) a0 a1 a2 a3 a4 a5) := fun _ _ _ _ _ _ _ => LeO.refl _
attribute [local go_sem high] eqA38
set_option maxHeartbeats 2000000 in
set_option maxRecDepth 100000 in
theorem impl_opened.clo (B : Nat) (b o : S38) (w : World) (hB : w.heap[B]? = some (.cells #[.int .i64 b.f0, .int .i64 b.f1, .bool b.f2] 38 (0, 0))) :
  Calls Try.prog 110 #[.agg #[.int .i64 o.f0, .int .i64 o.f1, .bool o.f2], .pointer (some ⟨B, 0, none⟩)] w fun e w' => e = .returned (.bool (impl_opened.eqo b o)) ∧ Below w.heap.size w w' := by
 have hub := Try.underlying38
 have HB := Lib.hid hB
 have HBE := Lib.hid (qg (Below.refl w.heap.size w) (.cells #[.int .i64 o.f0, .int .i64 o.f1, .bool o.f2] 38))
 clear hB
 go_enter Try.func110, Try.ntmps110
 go_upto_region 1 with (fail)
 have HN := Lib.hid (blk_new w (.cells #[.int .i64 o.f0, .int .i64 o.f1, .bool o.f2] 38))
 have HX := Lib.hid (qb HB.out (.cells #[.int .i64 o.f0, .int .i64 o.f1, .bool o.f2] 38))
 generalize w.alloc (.cells #[.int .i64 o.f0, .int .i64 o.f1, .bool o.f2] 38) = W1 at HN HX HBE ⊢
 have h0 : W1.cell? ⟨w.heap.size, 0, none⟩ = some (.int .i64 o.f0) := (qi HN.out 0).trans rfl
 have h1 : W1.cell? ⟨w.heap.size, 1, none⟩ = some (.int .i64 o.f1) := (qi HN.out 1).trans rfl
 have h2 : W1.cell? ⟨w.heap.size, 2, none⟩ = some (.bool o.f2) := (qi HN.out 2).trans rfl
 have g0 : W1.cell? ⟨B, 0, none⟩ = some (.int .i64 b.f0) := (qi HX.out 0).trans rfl
 have g1 : W1.cell? ⟨B, 1, none⟩ = some (.int .i64 b.f1) := (qi HX.out 1).trans rfl
 have g2 : W1.cell? ⟨B, 2, none⟩ = some (.bool b.f2) := (qi HX.out 2).trans rfl
 go_wp2
 go_ret
 exact ⟨rfl, HBE.out⟩
theorem impl_opened.elem {W : World} {base g n cap : Nat} {ok : Nat → Prop} {xs : List S38} (h : Kd.R k38 38 W base ok (.slice (some ⟨g, 0, none⟩) n cap) xs) (i : Nat) (hi : i < n) :
  W.cell? ⟨g, i * 3, none⟩ = some (.int .i64 (xs.getD i z38).f0) ∧ W.cell? ⟨g, i * 3 + 1, none⟩ = some (.int .i64 (xs.getD i z38).f1) ∧ W.cell? ⟨g, i * 3 + 2, none⟩ = some (.bool (xs.getD i z38).f2) ∧ (W.frozen? ⟨g, i * 3, none⟩ = false ∧ W.frozen? ⟨g, i * 3 + 1, none⟩ = false ∧ W.frozen? ⟨g, i * 3 + 2, none⟩ = false) ∧
   ∀ x : S38, Kd.R k38 38 (W.setCells g (i * 3) [.int .i64 x.f0, .int .i64 x.f1, .bool x.f2]) base ok (.slice (some ⟨g, 0, none⟩) n cap) (xs.set i x) ∧ W.grownBy (W.setCells g (i * 3) [.int .i64 x.f0, .int .i64 x.f1, .bool x.f2]) (some g) := by
 obtain ⟨c, hcl, hM, hcc, hfr⟩ := Kd.R_elem h z38 (i : Int) (by omega) (by omega)
 obtain rfl := k38_openM hM
 rw [Int.toNat_natCast] at hcc hfr
 refine ⟨hcc 0 _ rfl, hcc 1 _ rfl, hcc 2 _ rfl, ⟨hfr 0, hfr 1, hfr 2⟩, fun x => ?_⟩
 have h0 := Kd.R_seg h (i : Int) (by omega) (by omega) (c := [.int .i64 (xs.getD i z38).f0, .int .i64 (xs.getD i z38).f1, .bool (xs.getD i z38).f2]) (seg := [.int .i64 x.f0, .int .i64 x.f1, .bool x.f2]) (j := 0) (x' := x) (okp := fun k => ok k ∧ k ≠ g) rfl (by rw [Int.toNat_natCast]; exact hcc) (by show 0 + 3 ≤ 3; omega) (k38_mkM _ _ _ x) (fun _ hk => hk)
 rw [Int.toNat_natCast] at h0
 exact h0
theorem impl_opened.ix_drop (p : S38 → Bool) (l : List S38) (i : Nat) (hi : i < l.length) : (l.drop i).findIdx p = if p (l.getD i z38) = true then 0 else (l.drop (i + 1)).findIdx p + 1 := by
 have e : l.getD i z38 = l[i] := by simp [hi]
 rw [List.drop_eq_getElem_cons hi, List.findIdx_cons, e]
 cases p l[i] <;> simp
set_option maxHeartbeats 4000000 in
set_option maxRecDepth 100000 in
theorem impl_opened.find (B base : Nat) (b : S38) (A : Option Addr) (n c : Nat) (xs : List S38) (w : World) (hB : w.heap[B]? = some (.cells #[.int .i64 b.f0, .int .i64 b.f1, .bool b.f2] 38 (0, 0))) (hR : Kd.R k38 38 w base (fun _ => True) (.slice A n c) xs) (hn : xs.length ≤ 1000000) (r : Int) (hres : (xs.findIdx (impl_opened.eqo b) < n → r = ((xs.findIdx (impl_opened.eqo b) : Nat) : Int)) ∧ (¬ xs.findIdx (impl_opened.eqo b) < n → r = -1)) :
  Calls Try.prog 126 #[.slice A n c, .func (.func 110) #[] #[.pointer (some ⟨B, 0, none⟩)]] w fun e w' => e = .returned (.int .i64 r) ∧ Below w.heap.size w w' := by
 have HNX := Lib.hid (Kd.zb hR).1
 have HRES := Lib.hid hres
 clear hres
 have HX := Lib.hid hB
 have HR := Lib.hid hR
 clear hB hR
 go_enter Try.func126, Try.ntmps126
 go_wp2
 go_loopg [8] n (fun kq v8 wr => ∃ (i : Nat), v8 = .int .i64 i ∧ kq = n - i ∧ i ≤ n ∧ Hid (xs.findIdx (impl_opened.eqo b) = i + (xs.drop i).findIdx (impl_opened.eqo b)) ∧ Hid (Below w.heap.size w wr))
 case atStart => exact ⟨0, rfl, by omega, by omega, Lib.hid (by simp), Lib.hid (Below.refl _ _)⟩
 case round =>
  obtain ⟨i, rfl, hk, hin, HI, HB⟩ := hrel
  by_cases hi : i < n
  ·have c1 : decide ((i : Int) < (n : Int)) = true := decide_eq_true (by omega)
   have HW := Lib.hid (Kd.zc HR.out HB.out)
   obtain ⟨g, cap, ev, _, _, _⟩ := Kd.R_form HW.out (by have := HNX.out; omega)
   rw [← HNX.out] at ev
   cases ev
   obtain ⟨e0, e1, e2, _, _⟩ := impl_opened.elem HW.out i hi
   have hix := impl_opened.ix_drop (impl_opened.eqo b) xs i (by have := HNX.out; omega)
   generalize xs.getD i z38 = o at e0 e1 e2 hix
   have HC := Lib.hid (impl_opened.clo B b o wr ((HB.out.block _ (qr HX.out)).trans HX.out))
   have p1 : (0 : Int) ≤ (i : Int) := by omega
   have p2 : (i : Int) < (n : Int) := by omega
   have hi6 : i < 1000000 := by have := HNX.out; omega
   obtain ⟨t, ht⟩ : ∃ t, impl_opened.eqo b o = t := ⟨_, rfl⟩
   rw [ht] at HC hix
   have HIX := Lib.hid hix
   clear hix ht
   cases t with
   | true =>
    go_wp2_with (go_at_call 110; refine HC.out.mono ?_; rintro e w2 ⟨rfl, hb2⟩; have HB2 := Lib.hid (below_then HB.out HB.out.size hb2); clear hb2)
    go_ret
    have hz : (xs.drop i).findIdx (impl_opened.eqo b) = 0 := by have h0 := HIX.out; simpa using h0
    have hr := HI.out
    rw [hz, Nat.add_zero] at hr
    rw [show (i : Int) = r by rw [HRES.out.1 (by omega), hr]]
    exact ⟨rfl, HB2.out⟩
   | false =>
    go_wp2_with (go_at_call 110; refine HC.out.mono ?_; rintro e w2 ⟨rfl, hb2⟩; have HB2 := Lib.hid (below_then HB.out HB.out.size hb2); clear hb2)
    go_roundg (n - (i + 1))
    case measure => omega
    case rel =>
     refine ⟨i + 1, by go_num, rfl, by omega, Lib.hid ?_, HB2⟩
     have hr := HI.out
     have hz : (xs.drop i).findIdx (impl_opened.eqo b) = (xs.drop (i + 1)).findIdx (impl_opened.eqo b) + 1 := by have h0 := HIX.out; simpa using h0
     rw [hz] at hr
     omega
  ·have c1 : decide ((i : Int) < (n : Int)) = false := decide_eq_false (by omega)
   go_wp2
   go_ret
   have hr := HI.out
   rw [List.drop_eq_nil_of_le (by have := HNX.out; omega)] at hr
   rw [show r = -1 from HRES.out.2 (by simp at hr; omega)]
   exact ⟨rfl, HB.out⟩
theorem impl_opened.setCells3 (W : World) (g o : Nat) (a b c : Value) (l : List Value) : W.setCells g o (a :: b :: c :: l) = (W.setCells g o [a, b, c]).setCells g (o + 3) l := rfl
def impl_opened.zs : Nat → List Value
 | 0 => []
 | m + 1 => .int .i64 0 :: .int .i64 0 :: .bool false :: impl_opened.zs m
theorem impl_opened.struck {base g n cap : Nat} : ∀ (m i : Nat) (xs : List S38) (W : World), Kd.R k38 38 W base (fun _ => True) (.slice (some ⟨g, 0, none⟩) n cap) xs → i + m ≤ n → ∃ ys : List S38, Kd.R k38 38 (W.setCells g (i * 3) (impl_opened.zs m)) base (fun _ => True) (.slice (some ⟨g, 0, none⟩) n cap) ys ∧ ys.take i = xs.take i ∧ Below base W (W.setCells g (i * 3) (impl_opened.zs m))
 | 0, i, xs, W, h, hi => ⟨xs, h, rfl, Below.refl _ _⟩
 | m + 1, i, xs, W, h, hi => by
  obtain ⟨_, _, _, _, hs⟩ := impl_opened.elem h i (by omega)
  obtain ⟨h1, h2⟩ := hs z38
  obtain ⟨ys, h3, h4, h5⟩ := impl_opened.struck m (i + 1) _ _ h1 (by omega)
  have e : W.setCells g (i * 3) (impl_opened.zs (m + 1)) = (W.setCells g (i * 3) [.int .i64 z38.f0, .int .i64 z38.f1, .bool z38.f2]).setCells g ((i + 1) * 3) (impl_opened.zs m) := by
   rw [show (i + 1) * 3 = i * 3 + 3 by omega]
   exact impl_opened.setCells3 W g (i * 3) _ _ _ _
  rw [e]
  have hb0 : Below base W (W.setCells g (i * 3) [.int .i64 z38.f0, .int .i64 z38.f1, .bool z38.f2]) := pw_below_grown (Below.refl _ _) _ (Nat.le_of_lt (Nat.lt_of_le_of_lt (Kd.zx h g (by simp [Value.ownBlock])) (Kd.R_lt h g (by simp [Value.ownBlock])))) h2 (fun k hk => by cases hk; exact Kd.zx h g (by simp [Value.ownBlock]))
  refine ⟨ys, h3, ?_, hb0.trans h5⟩
  have h6 : ys.take i = (ys.take (i + 1)).take i := by rw [List.take_take, Nat.min_eq_left (by omega)]
  rw [h6, h4, List.take_take, Nat.min_eq_left (by omega), List.take_set_of_le (by omega)]
theorem impl_opened.zs_len : ∀ m, (impl_opened.zs m).length = m * 3
 | 0 => rfl
 | m + 1 => by simp [impl_opened.zs, impl_opened.zs_len m]; omega
theorem impl_opened.zs_eq (m : Nat) : (Builtin.zeroCells #[.int .i64 0, .int .i64 0, .bool false] m).toList = impl_opened.zs m := by
 have h1 : ∀ m i : Nat, i < m * 3 → (impl_opened.zs m)[i]? = #[Value.int .i64 0, .int .i64 0, .bool false][i % 3]? := by
  intro m
  induction m with
  | zero => intro i hi; omega
  | succ m ih =>
   intro i hi
   match i with
   | 0 => rfl
   | 1 => rfl
   | 2 => rfl
   | i + 3 =>
    have := ih i (by omega)
    rw [show (i + 3) % 3 = i % 3 by omega, ← this]
    rfl
 refine List.ext_getElem (by simp [Builtin.zeroCells, impl_opened.zs_len]) fun i ha hb => ?_
 have hi : i < m * 3 := by rw [impl_opened.zs_len] at hb; exact hb
 have h2 := h1 m i hi
 rw [List.getElem?_eq_getElem hb] at h2
 have h3 : i % 3 = 0 ∨ i % 3 = 1 ∨ i % 3 = 2 := by omega
 simp only [Builtin.zeroCells, Array.toList_map, List.getElem_map, Array.getElem_toList, Array.getElem_range]
 rcases h3 with e | e | e
 ·rw [e] at h2; exact (congrArg _ e).trans (Option.some.inj h2).symm
 ·rw [e] at h2; exact (congrArg _ e).trans (Option.some.inj h2).symm
 ·rw [e] at h2; exact (congrArg _ e).trans (Option.some.inj h2).symm
theorem impl_opened.zs_one : ∀ m, ∀ v ∈ impl_opened.zs m, v.oneCell' = true
 | 0, v, h => by cases h
 | m + 1, v, h => by
  simp only [impl_opened.zs, List.mem_cons] at h
  rcases h with rfl | rfl | rfl | h
  ·rfl
  ·rfl
  ·rfl
  ·exact impl_opened.zs_one m v h
theorem impl_opened.clear (W : World) (base g n cap i c : Nat) (xs : List S38) (ty : TypeId) (h : Kd.R k38 38 W base (fun _ => True) (.slice (some ⟨g, 0, none⟩) n cap) xs) (hi : i < n) :
  (Builtin.clear_ #[28] ty #[.slice (some ⟨g, i * 3, none⟩) (n - i) c]).run Try.prog W = .ok (.tuple #[]) (W.setCells g (i * 3) (impl_opened.zs (n - i))) := by
 have hcell : ∀ j, j < (impl_opened.zs (n - i)).length → (W.cell? ⟨g, i * 3 + j, none⟩).isSome = true ∧ W.frozen? ⟨g, i * 3 + j, none⟩ = false := by
  intro j hj
  rw [impl_opened.zs_len] at hj
  obtain ⟨e0, e1, e2, ⟨f0, f1, f2⟩, _⟩ := impl_opened.elem h (i + j / 3) (by omega)
  have h3 : j % 3 = 0 ∨ j % 3 = 1 ∨ j % 3 = 2 := by omega
  rcases h3 with e | e | e
  ·rw [show i * 3 + j = (i + j / 3) * 3 by omega, e0, f0]; exact ⟨rfl, rfl⟩
  ·rw [show i * 3 + j = (i + j / 3) * 3 + 1 by omega, e1, f1]; exact ⟨rfl, rfl⟩
  ·rw [show i * 3 + j = (i + j / 3) * 3 + 2 by omega, e2, f2]; exact ⟨rfl, rfl⟩
 have hst := run_storeCells_cells (P := Try.prog) g (i * 3) (impl_opened.zs (n - i)) 0 W (fun j hj => (hcell j hj).1) (fun j hj => (hcell j hj).2) (impl_opened.zs_one _)
 simp only [Nat.add_zero] at hst
 have hz := impl_opened.zs_eq (n - i)
 obtain ⟨m, hm⟩ : ∃ m, n - i = m + 1 := ⟨n - i - 1, by omega⟩
 rw [hm] at hst hz ⊢
 have hzc : (Value.agg #[.int .i64 0, .int .i64 0, .bool false]).cells = #[.int .i64 0, .int .i64 0, .bool false] := rfl
 simp [Builtin.clear_, run_underlying Try.underlying28, Try.zeroValue38, hzc, hz, hst]
set_option maxHeartbeats 8000000 in
set_option maxRecDepth 100000 in
theorem impl_opened.del (B base : Nat) (b : S38) (A : Option Addr) (n c : Nat) (xs : List S38) (w : World) (hBb : B < base) (hbw : base ≤ w.heap.size) (hB : w.heap[B]? = some (.cells #[.int .i64 b.f0, .int .i64 b.f1, .bool b.f2] 38 (0, 0))) (hR : Kd.R k38 38 w base (fun _ => True) (.slice A n c) xs) (hn : xs.length ≤ 1000000) :
  Calls Try.prog 109 #[.slice A n c, .func (.func 110) #[] #[.pointer (some ⟨B, 0, none⟩)]] w fun e w' => ∃ v : Value, e = .returned v ∧ Kd.R k38 38 w' base (fun _ => True) v (xs.filter fun o => !impl_opened.eqo b o) ∧ Below base w w' := by
 have hub := Try.underlying38
 have HNX := Lib.hid (Kd.zb hR).1
 have HX := Lib.hid hB
 have HR := Lib.hid hR
 have HN6 := Lib.hid hn
 clear hB hR hn
 by_cases hf : xs.findIdx (impl_opened.eqo b) < n
 ·obtain ⟨k0, hk0⟩ : ∃ k0, xs.findIdx (impl_opened.eqo b) = k0 := ⟨_, rfl⟩
  have HF := Lib.hid (impl_opened.find B base b A n c xs w HX.out HR.out HN6.out (k0 : Int) ⟨fun _ => by rw [hk0], fun h => absurd hf h⟩)
  have HK0 := Lib.hid hk0
  have h1 : k0 < n := by omega
  obtain ⟨g, cap, ev, _, _, _⟩ := Kd.R_form HR.out (by have := HNX.out; omega)
  rw [← HNX.out] at ev
  cases ev
  have t1 : ((k0 : Int) == -1) = false := beq_eq_false_iff_ne.mpr (by omega)
  have hk6 : k0 < 1000000 := by have := HNX.out; have := HN6.out; omega
  clear hf hk0
  go_enter Try.func109, Try.ntmps109
  go_wp2_with (go_at_call 126; refine HF.out.mono ?_; rintro e w2 ⟨rfl, hb2⟩; have HB2 := Lib.hid hb2; clear hb2)
  clear t1
  go_loopg [5, 6] (n - (k0 + 1)) (fun kq v5 v6 wr => ∃ (i j : Nat) (ys : List S38), v5 = .int .i64 i ∧ v6 = .int .i64 j ∧ kq = n - j ∧ i < j ∧ j ≤ n ∧ Hid (ys.take i = (xs.take j).filter fun o => !impl_opened.eqo b o) ∧ Hid (ys.drop j = xs.drop j) ∧ Hid (Kd.R k38 38 wr base (fun _ => True) (.slice (some ⟨g, 0, none⟩) n c) ys) ∧ Hid (Below base w wr))
  case atStart =>
   refine ⟨k0, k0 + 1, xs, rfl, by go_num, rfl, by omega, by omega, Lib.hid ?_, Lib.hid rfl, Lib.hid (Kd.zc HR.out HB2.out), Lib.hid (HB2.out.mono hbw)⟩
   have hlt : k0 < xs.length := by have := HNX.out; omega
   have e0 := HK0.out
   have hp : impl_opened.eqo b xs[k0] = true := by
    have := List.findIdx_getElem (p := impl_opened.eqo b) (xs := xs) (w := by rw [e0]; exact hlt)
    simpa only [e0] using this
   have hno : ∀ o ∈ xs.take k0, impl_opened.eqo b o = false := by
    intro o ho
    obtain ⟨q, hq, rfl⟩ := List.mem_iff_getElem.1 ho
    have hq' : q < k0 := by simp at hq; omega
    have := List.not_of_lt_findIdx (p := impl_opened.eqo b) (xs := xs) (i := q) (by rw [e0]; exact hq')
    simpa using this
   rw [List.take_succ_eq_append_getElem hlt, List.filter_append]
   have e1 : ([xs[k0]].filter fun o => !impl_opened.eqo b o) = [] := by simp [hp]
   rw [e1, List.append_nil]
   exact (List.filter_eq_self.2 (fun o ho => by rw [hno o ho]; rfl)).symm
  case round =>
   clear HF HB2
   obtain ⟨i, j, ys, rfl, rfl, hk, hij, hjn, H1, H2, HO, HB⟩ := hrel
   have HYN := Lib.hid (Kd.zb HO.out).1
   by_cases hj : j < n
   ·have c1 : decide ((j : Int) < (n : Int)) = true := decide_eq_true (by omega)
    obtain ⟨e0, e1, e2, _, _⟩ := impl_opened.elem HO.out j hj
    have hxy : ys.getD j z38 = xs.getD j z38 := by
     have h0 := congrArg (fun l => l.getD 0 z38) H2.out
     simpa [List.getD_eq_getElem?_getD, List.getElem?_drop] using h0
    rw [hxy] at e0 e1 e2
    obtain ⟨o, ho⟩ : ∃ o, xs.getD j z38 = o := ⟨_, rfl⟩
    rw [ho] at e0 e1 e2
    have HOO := Lib.hid ho
    clear ho hxy
    have p1 : (0 : Int) ≤ (j : Int) := by omega
    have p2 : (j : Int) < (n : Int) := by omega
    have hj6 : j < 1000000 := by have := HNX.out; have := HN6.out; omega
    go_upto_region 8 with (fail)
    have HOW := Lib.hid (Kd.qt HO.out (.cells #[.int .i64 o.f0, .int .i64 o.f1, .bool o.f2] 38))
    have HBW := Lib.hid (HB.out.trans ((qg (Below.refl wr.heap.size wr) (.cells #[.int .i64 o.f0, .int .i64 o.f1, .bool o.f2] 38)).mono (Nat.le_trans hbw HB.out.size)))
    have HXW := Lib.hid (qb ((HB.out.block _ hBb).trans HX.out) (.cells #[.int .i64 o.f0, .int .i64 o.f1, .bool o.f2] 38))
    have HNW := Lib.hid (blk_new wr (.cells #[.int .i64 o.f0, .int .i64 o.f1, .bool o.f2] 38))
    clear e0 e1 e2
    generalize wr.alloc (.cells #[.int .i64 o.f0, .int .i64 o.f1, .bool o.f2] 38) = W2 at HOW HBW HXW HNW ⊢
    obtain ⟨BB, hBB⟩ : ∃ BB, BB = wr.heap.size := ⟨_, rfl⟩
    rw [← hBB] at HNW ⊢
    clear hBB
    have f0 : W2.cell? ⟨BB, 0, none⟩ = some (.int .i64 o.f0) := (qi HNW.out 0).trans rfl
    have f1 : W2.cell? ⟨BB, 1, none⟩ = some (.int .i64 o.f1) := (qi HNW.out 1).trans rfl
    have f2 : W2.cell? ⟨BB, 2, none⟩ = some (.bool o.f2) := (qi HNW.out 2).trans rfl
    have HC := Lib.hid (impl_opened.clo B b o W2 HXW.out)
    have hjl : j < xs.length := by have := HNX.out; omega
    have eo : xs[j] = o := by have h0 := HOO.out; simpa [hjl] using h0
    have htk : xs.take (j + 1) = xs.take j ++ [o] := by rw [List.take_succ_eq_append_getElem hjl, eo]
    obtain ⟨t, ht⟩ : ∃ t, impl_opened.eqo b o = t := ⟨_, rfl⟩
    rw [ht] at HC
    have HTK := Lib.hid htk
    have HTT := Lib.hid ht
    clear htk eo hjl ht
    cases t with
    | true =>
     go_wp2_with (go_at_call 110; refine HC.out.mono ?_; rintro e w3 ⟨rfl, hb3⟩; have HB3 := Lib.hid (HBW.out.trans (hb3.mono (Nat.le_trans hbw HBW.out.size))); have HO3 := Lib.hid (Kd.zc HOW.out hb3); clear hb3)
     go_roundg (n - (j + 1))
     case measure => omega
     case rel =>
      refine ⟨i, j + 1, ys, rfl, by go_num, rfl, by omega, by omega, Lib.hid ?_, Lib.hid ?_, HO3, HB3⟩
      ·rw [HTK.out, List.filter_append, H1.out]
       simp [HTT.out]
      ·have h0 := congrArg (List.drop 1) H2.out
       simpa [List.drop_drop] using h0
    | false =>
     have pi1 : (0 : Int) ≤ (i : Int) := by omega
     have pi2 : (i : Int) < (n : Int) := by omega
     have hi6 : i < 1000000 := by omega
     go_upto_region 9 with (go_at_call 110; refine HC.out.mono ?_; rintro e w3 ⟨rfl, hb3⟩; have HB3 := Lib.hid (HBW.out.trans (hb3.mono (Nat.le_trans hbw HBW.out.size))); have HO3 := Lib.hid (Kd.zc HOW.out hb3); have f0' := zg hb3 f0; have f1' := zg hb3 f1; have f2' := zg hb3 f2; clear hb3)
     obtain ⟨e0, e1, e2, ⟨z0, z1, z2⟩, hs⟩ := impl_opened.elem HO3.out i (by omega)
     have HS := Lib.hid (hs o)
     clear hs f0 f1 f2 HNW HXW HOW HBW HC
     go_upto_region 10 with (fail)
     have HS1 := Lib.hid (show Kd.R k38 38 (((w3.setCell ⟨g, i * 3, none⟩ (.int .i64 o.f0)).setCell ⟨g, i * 3 + 1, none⟩ (.int .i64 o.f1)).setCell ⟨g, i * 3 + 2, none⟩ (.bool o.f2)) base (fun _ => True) (.slice (some ⟨g, 0, none⟩) n c) (ys.set i o) from HS.out.1)
     have HS2 := Lib.hid (show Below base w (((w3.setCell ⟨g, i * 3, none⟩ (.int .i64 o.f0)).setCell ⟨g, i * 3 + 1, none⟩ (.int .i64 o.f1)).setCell ⟨g, i * 3 + 2, none⟩ (.bool o.f2)) from pw_below_grown HB3.out (some g) (Nat.le_trans hbw HB3.out.size) HS.out.2 (fun k hk => by cases hk; exact Kd.zx HO3.out g (by simp [Value.ownBlock])))
     clear HS e0 e1 e2 z0 z1 z2 f0' f1' f2'
     generalize (((w3.setCell ⟨g, i * 3, none⟩ (.int .i64 o.f0)).setCell ⟨g, i * 3 + 1, none⟩ (.int .i64 o.f1)).setCell ⟨g, i * 3 + 2, none⟩ (.bool o.f2)) = W9 at HS1 HS2 ⊢
     go_wp2
     go_roundg (n - (j + 1))
     case measure => omega
     case rel =>
      have hyl := HYN.out
      refine ⟨i + 1, j + 1, ys.set i o, by go_num, by go_num, rfl, by omega, by omega, Lib.hid ?_, Lib.hid ?_, HS1, HS2⟩
      ·have hil : i < (ys.set i o).length := by simp; omega
       rw [HTK.out, List.filter_append, ← H1.out, List.take_succ_eq_append_getElem hil, List.take_set_of_le (Nat.le_refl i)]
       simp [HTT.out]
      ·have h0 := congrArg (List.drop 1) H2.out
       rw [List.drop_set_of_lt (by omega)]
       simpa [List.drop_drop] using h0
   ·obtain rfl : n = j := by omega
    have c1 : decide ((n : Int) < (n : Int)) = false := decide_eq_false (by omega)
    have hnc := (Kd.zb HO.out).2.1
    have hcl : ∀ ty c', (Builtin.clear_ #[28] ty #[.slice (some ⟨g, i * 3, none⟩) (n - i) c']).run Try.prog wr = _ := fun ty c' => impl_opened.clear wr base g n c i c' ys ty HO.out hij
    have pi1 : (0 : Int) ≤ (i : Int) := by omega
    have pi2 : (i : Int) ≤ (n : Int) := by omega
    have pi3 : (i : Int) ≤ (c : Int) := by omega
    have pi4 : (n : Int) ≤ (c : Int) := by omega
    have pn1 : i ≤ n := by omega
    have pn2 : i ≤ c := by omega
    go_upto_region 12 with (fail)
    obtain ⟨ys', r1, r2, r3⟩ := impl_opened.struck (n - i) i ys wr HO.out (by omega)
    have R1 := Lib.hid r1
    have R2 := Lib.hid r2
    have R3 := Lib.hid (HB.out.trans r3)
    clear hcl r1 r2 r3
    generalize wr.setCells g (i * 3) (impl_opened.zs (n - i)) = W9 at R1 R3 ⊢
    go_wp2
    go_ret
    have hy' := (Kd.zb R1.out).1
    have e9 : (xs.filter fun o => !impl_opened.eqo b o) = ys'.take i := by
     rw [R2.out, H1.out, List.take_of_length_le (by have := HNX.out; omega)]
    rw [e9]
    exact ⟨_, rfl, Kd.R_take R1.out (by omega), R3.out⟩
 ·have HF := Lib.hid (impl_opened.find B base b A n c xs w HX.out HR.out HN6.out (-1) ⟨fun h => absurd h hf, fun _ => rfl⟩)
  have hall : ∀ o ∈ xs, impl_opened.eqo b o = false := by
   have h0 : ¬ xs.findIdx (impl_opened.eqo b) < xs.length := by have := HNX.out; omega
   intro o ho
   cases hq : impl_opened.eqo b o with
   | false => rfl
   | true => exact absurd (List.findIdx_lt_length.2 ⟨o, ho, hq⟩) h0
  have HFI := Lib.hid (show (xs.filter fun o => !impl_opened.eqo b o) = xs from List.filter_eq_self.2 (fun o ho => by rw [hall o ho]; rfl))
  clear hf hall
  go_enter Try.func109, Try.ntmps109
  go_wp2_with (go_at_call 126; refine HF.out.mono ?_; rintro e w2 ⟨rfl, hb2⟩; have HB2 := Lib.hid hb2; clear hb2)
  go_ret
  exact ⟨_, rfl, by rw [HFI.out]; exact Kd.zc HR.out HB2.out, HB2.out.mono hbw⟩
set_option maxHeartbeats 8000000 in
set_option maxRecDepth 100000 in
theorem impl_opened.calls (k : Nat) (a0_0 : Int) (a0_1 : Int) (A0_2 : Option Addr) (c0_2 : Nat) (l0_2 : List S38) (a1_0 : Int) (a1_1 : Int) (a1_2 : Bool) (r1 : Int) (r2 : Int) (r3 : List S38) (w : World) (hr0_2 : Kd.C k38 w A0_2 l0_2.length l0_2) (hc0_2 : l0_2.length ≤ c0_2) (h : impl_opened.f k a0_0 a0_1 l0_2 a1_0 a1_1 a1_2 = some (r1, r2, r3)) :
  Calls Try.prog 75 #[.agg #[.int .i64 a0_0, .int .i64 a0_1, .slice A0_2 l0_2.length c0_2], .agg #[.int .i64 a1_0, .int .i64 a1_1, .bool a1_2]] w fun e w' => ∃ v2_ : Value, e = .returned (.agg #[.int .i64 r1, .int .i64 r2, v2_]) ∧ Kd.R k38 38 w' w.heap.size (fun _ => True) v2_ r3 ∧ Below w.heap.size w w' := by
 have hu := Try.underlying30
 have hub := Try.underlying38
 have hmf : ∀ (fn : Fn) (first cap : Array Value) (w : World), (Instr.makeFunc fn first cap).run Try.prog w = .ok (.func fn first cap) w := fun _ _ _ _ => rfl
 unfold impl_opened.f at h
 obtain ⟨l, hl, h⟩ := Option.bind_eq_some_iff.mp h
 by_cases hlen : l.length ≤ 1000000
 ·rw [if_pos hlen] at h
  simp only [Option.some.injEq, Prod.mk.injEq] at h
  obtain ⟨rfl, rfl, rfl⟩ := h
  have HL := Lib.hid hr0_2
  have HLN := Lib.hid hlen
  have HCL := Lib.hid hl
  clear hr0_2 hlen hl
  go_enter Try.func75, Try.ntmps75
  go_upto_region 1 with (fail)
  have HC0 := Lib.hid (qb (qb (blk_new w (.cells #[.int .i64 a0_0, .int .i64 a0_1, .slice A0_2 l0_2.length c0_2] 30)) (.cells #[.int .i64 a1_0, .int .i64 a1_1, .bool a1_2] 38)) (.cells #[.int .i64 0, .int .i64 0, .slice none 0 0] 30))
  have HC1 := Lib.hid (qb (blk_new (w.alloc (.cells #[.int .i64 a0_0, .int .i64 a0_1, .slice A0_2 l0_2.length c0_2] 30)) (.cells #[.int .i64 a1_0, .int .i64 a1_1, .bool a1_2] 38)) (.cells #[.int .i64 0, .int .i64 0, .slice none 0 0] 30))
  have HC2 := Lib.hid (blk_new ((w.alloc (.cells #[.int .i64 a0_0, .int .i64 a0_1, .slice A0_2 l0_2.length c0_2] 30)).alloc (.cells #[.int .i64 a1_0, .int .i64 a1_1, .bool a1_2] 38)) (.cells #[.int .i64 0, .int .i64 0, .slice none 0 0] 30))
  have hal : ∀ (W : World) (o : Obj), Below W.heap.size W (W.alloc o) := fun W o => qg (Below.refl _ _) o
  have HB := Lib.hid (((hal w (.cells #[.int .i64 a0_0, .int .i64 a0_1, .slice A0_2 l0_2.length c0_2] 30)).trans ((hal _ (.cells #[.int .i64 a1_0, .int .i64 a1_1, .bool a1_2] 38)).mono (by simp))).trans ((hal _ (.cells #[.int .i64 0, .int .i64 0, .slice none 0 0] 30)).mono (by simp; omega)))
  have HSZ := Lib.hid (show (((w.alloc (.cells #[.int .i64 a0_0, .int .i64 a0_1, .slice A0_2 l0_2.length c0_2] 30)).alloc (.cells #[.int .i64 a1_0, .int .i64 a1_1, .bool a1_2] 38)).alloc (.cells #[.int .i64 0, .int .i64 0, .slice none 0 0] 30)).heap.size = w.heap.size + 1 + 1 + 1 by simp)
  have hs1 : (w.alloc (.cells #[.int .i64 a0_0, .int .i64 a0_1, .slice A0_2 l0_2.length c0_2] 30)).heap.size = w.heap.size + 1 := by simp
  have hs2 : ((w.alloc (.cells #[.int .i64 a0_0, .int .i64 a0_1, .slice A0_2 l0_2.length c0_2] 30)).alloc (.cells #[.int .i64 a1_0, .int .i64 a1_1, .bool a1_2] 38)).heap.size = w.heap.size + 1 + 1 := by simp
  rw [hs1] at HC1
  rw [hs2] at HC2
  clear hal hs1 hs2
  generalize (((w.alloc (.cells #[.int .i64 a0_0, .int .i64 a0_1, .slice A0_2 l0_2.length c0_2] 30)).alloc (.cells #[.int .i64 a1_0, .int .i64 a1_1, .bool a1_2] 38)).alloc (.cells #[.int .i64 0, .int .i64 0, .slice none 0 0] 30)) = W1 at HC0 HC1 HC2 HB HSZ ⊢
  obtain ⟨s, hs⟩ : ∃ s, s = w.heap.size := ⟨_, rfl⟩
  have HSW := Lib.hid hs
  rw [← hs] at HC0 HC1 HC2 HSZ ⊢
  clear hs
  have hcz0 : W1.cell? ⟨s, 0, none⟩ = some (.int .i64 a0_0) := (qi HC0.out 0).trans rfl
  have hcz1 : W1.cell? ⟨s, 1, none⟩ = some (.int .i64 a0_1) := (qi HC0.out 1).trans rfl
  have hcz2 : W1.cell? ⟨s, 2, none⟩ = some (.slice A0_2 l0_2.length c0_2) := (qi HC0.out 2).trans rfl
  go_region_held3 (fun w' => w'.cell? ⟨s, 0, none⟩ = some (.int .i64 a0_0) ∧ w'.cell? ⟨s, 1, none⟩ = some (.int .i64 a0_1) ∧ w'.cell? ⟨s, 2, none⟩ = some (.slice A0_2 l0_2.length c0_2)) (first | exact ⟨hcz0, hcz1, hcz2⟩ | exact ⟨hf0, hf1, hf2⟩ | exact ⟨he0, he1, he2⟩ | exact ⟨hd0, hd1, hd2⟩) (first | (go_at_call 98; refine (impl_Block_98.calls A0_2 c0_2 l0_2 l _ (Kd.zf HL.out (zk HB.out)) hc0_2 HCL.out).mono ?_; rintro e w3 ⟨v3, rfl, hR3, hb3⟩; obtain ⟨A3, c3, rfl⟩ := Kd.zr hR3; have hd0 := zg hb3 hcz0; have hd1 := zg hb3 hcz1; have hd2 := zg hb3 hcz2) | (go_at_call 109; refine (impl_opened.del (s + 1) W1.drew.heap.size ⟨a1_0, a1_1, a1_2⟩ A3 l.length c3 l _ (by have := HSZ.out; show s + 1 < W1.heap.size; omega) hb3.size ((hb3.block _ (qr HC1.out)).trans HC1.out) hR3 HLN.out).mono ?_; rintro e w4 ⟨v4, rfl, hR4, hb4⟩; obtain ⟨A4, c4, ev4⟩ := Kd.zr hR4; subst ev4; have hq2 : w4.heap[s + 1 + 1]? = some (.cells #[.int .i64 0, .int .i64 0, .slice none 0 0] 30 (0, 0)) := (hb4.block _ (qr HC2.out)).trans ((hb3.block _ (qr HC2.out)).trans HC2.out); have hq0 : w4.heap[s]? = some (.cells #[.int .i64 a0_0, .int .i64 a0_1, .slice A0_2 l0_2.length c0_2] 30 (0, 0)) := (hb4.block _ (qr HC0.out)).trans ((hb3.block _ (qr HC0.out)).trans HC0.out); have he0 : w4.cell? ⟨s, 0, none⟩ = some (.int .i64 a0_0) := (qi hq0 0).trans rfl; have he1 : w4.cell? ⟨s, 1, none⟩ = some (.int .i64 a0_1) := (qi hq0 1).trans rfl; have he2 : w4.cell? ⟨s, 2, none⟩ = some (.slice A0_2 l0_2.length c0_2) := (qi hq0 2).trans rfl; have hr0 : w4.cell? ⟨s + 1 + 1, 0, none⟩ = some (.int .i64 0) := (qi hq2 0).trans rfl; have hr1 : w4.cell? ⟨s + 1 + 1, 1, none⟩ = some (.int .i64 0) := (qi hq2 1).trans rfl; have hr2 : w4.cell? ⟨s + 1 + 1, 2, none⟩ = some (.slice none 0 0) := (qi hq2 2).trans rfl; have hz0 := qj hq2 0; have hz1 := qj hq2 1; have hz2 := qj hq2 2; have hf0 := (World.cell?_setCell_far ((w4.setCell ⟨s + 1 + 1, 0, none⟩ (.int .i64 a0_0)).setCell ⟨s + 1 + 1, 1, none⟩ (.int .i64 a0_1)) ⟨s + 1 + 1, 2, none⟩ ⟨s, 0, none⟩ (.slice A4 (l.filter fun o => !impl_opened.eqo ⟨a1_0, a1_1, a1_2⟩ o).length c4) (by simp only; omega)).trans ((World.cell?_setCell_far (w4.setCell ⟨s + 1 + 1, 0, none⟩ (.int .i64 a0_0)) ⟨s + 1 + 1, 1, none⟩ ⟨s, 0, none⟩ (.int .i64 a0_1) (by simp only; omega)).trans ((World.cell?_setCell_far w4 ⟨s + 1 + 1, 0, none⟩ ⟨s, 0, none⟩ (.int .i64 a0_0) (by simp only; omega)).trans he0)); have hf1 := (World.cell?_setCell_far ((w4.setCell ⟨s + 1 + 1, 0, none⟩ (.int .i64 a0_0)).setCell ⟨s + 1 + 1, 1, none⟩ (.int .i64 a0_1)) ⟨s + 1 + 1, 2, none⟩ ⟨s, 1, none⟩ (.slice A4 (l.filter fun o => !impl_opened.eqo ⟨a1_0, a1_1, a1_2⟩ o).length c4) (by simp only; omega)).trans ((World.cell?_setCell_far (w4.setCell ⟨s + 1 + 1, 0, none⟩ (.int .i64 a0_0)) ⟨s + 1 + 1, 1, none⟩ ⟨s, 1, none⟩ (.int .i64 a0_1) (by simp only; omega)).trans ((World.cell?_setCell_far w4 ⟨s + 1 + 1, 0, none⟩ ⟨s, 1, none⟩ (.int .i64 a0_0) (by simp only; omega)).trans he1)); have hf2 := (World.cell?_setCell_far ((w4.setCell ⟨s + 1 + 1, 0, none⟩ (.int .i64 a0_0)).setCell ⟨s + 1 + 1, 1, none⟩ (.int .i64 a0_1)) ⟨s + 1 + 1, 2, none⟩ ⟨s, 2, none⟩ (.slice A4 (l.filter fun o => !impl_opened.eqo ⟨a1_0, a1_1, a1_2⟩ o).length c4) (by simp only; omega)).trans ((World.cell?_setCell_far (w4.setCell ⟨s + 1 + 1, 0, none⟩ (.int .i64 a0_0)) ⟨s + 1 + 1, 1, none⟩ ⟨s, 2, none⟩ (.int .i64 a0_1) (by simp only; omega)).trans ((World.cell?_setCell_far w4 ⟨s + 1 + 1, 0, none⟩ ⟨s, 2, none⟩ (.int .i64 a0_0) (by simp only; omega)).trans he2))))
  all_goals
   have hsz : W1.drew.heap.size = s + 1 + 1 + 1 := HSZ.out
   have hsw := HSW.out
   have hbase : w.heap.size ≤ W1.drew.heap.size := by omega
   have HF := Lib.hid (show Below w.heap.size w (((w4.setCell ⟨s + 1 + 1, 0, none⟩ (.int .i64 a0_0)).setCell ⟨s + 1 + 1, 1, none⟩ (.int .i64 a0_1)).setCell ⟨s + 1 + 1, 2, none⟩ (.slice A4 (l.filter fun o => !impl_opened.eqo ⟨a1_0, a1_1, a1_2⟩ o).length c4)) from ((((((HB.out.trans ((zk (Below.refl W1.heap.size W1)).mono (by have := HSZ.out; have := HSW.out; omega))).trans (hb3.mono hbase)).trans (hb4.mono hbase)).setCell (by simp only; omega) _).setCell (by simp only; omega) _).setCell (by simp only; omega) _))
   have HR := Lib.hid (Kd.zq (Kd.R_far (p := ⟨s + 1 + 1, 2, none⟩) (Kd.R_far (p := ⟨s + 1 + 1, 1, none⟩) (Kd.R_far (p := ⟨s + 1 + 1, 0, none⟩) (Kd.R_bound hR4) (fun k hk => by have := hk.2.1; simp only; omega) (.int .i64 a0_0)) (fun k hk => by have := hk.2.1; simp only; omega) (.int .i64 a0_1)) (fun k hk => by have := hk.2.1; simp only; omega) (.slice A4 (l.filter fun o => !impl_opened.eqo ⟨a1_0, a1_1, a1_2⟩ o).length c4)) hbase)
   have HH := Lib.hid (show (((w4.setCell ⟨s + 1 + 1, 0, none⟩ (.int .i64 a0_0)).setCell ⟨s + 1 + 1, 1, none⟩ (.int .i64 a0_1)).setCell ⟨s + 1 + 1, 2, none⟩ (.slice A4 (l.filter fun o => !impl_opened.eqo ⟨a1_0, a1_1, a1_2⟩ o).length c4)).heap[s + 1 + 1]? = some (.cells #[.int .i64 a0_0, .int .i64 a0_1, (.slice A4 (l.filter fun o => !impl_opened.eqo ⟨a1_0, a1_1, a1_2⟩ o).length c4)] 30 (0, 0)) by
    refine qv (cs := #[.int .i64 a0_0, .int .i64 a0_1, .slice none 0 0]) ?_ 2 _ rfl
    refine qv (cs := #[.int .i64 a0_0, .int .i64 0, .slice none 0 0]) ?_ 1 _ rfl
    refine qv (cs := #[.int .i64 0, .int .i64 0, .slice none 0 0]) ?_ 0 _ rfl
    exact hq2)
   clear hb3 hR3 hb4 hR4 hq2 hq0 he0 he1 he2 hr0 hr1 hr2 hz0 hz1 hz2 hf0 hf1 hf2 hd0 hd1 hd2 hcz0 hcz1 hcz2
   go_wp2
   refine bodyPost_ret (results_cell_row rfl _ _ (s + 1 + 1) 30 #[.int .i64 a0_0, .int .i64 a0_1, (.slice A4 (l.filter fun o => !impl_opened.eqo ⟨a1_0, a1_1, a1_2⟩ o).length c4)] (0, 0) _ rfl HH.out Try.underlying30 rfl (by kernel_rfl)) rfl ?_
   exact ⟨_, rfl, Kd.zm HR.out (fun _ _ => trivial), HF.out⟩
 ·rw [if_neg hlen] at h; cases h
def impl_within.f (a0 : Int) (a1 : Int) (a2 : Int) : Option (Bool) := if a0 ≥ a1 then (some (decide (a0 ≤ a2))) else (some false)
set_option maxHeartbeats 8000000 in
set_option maxRecDepth 100000 in
theorem impl_within.calls (a0 : Int) (a1 : Int) (a2 : Int) (r : Bool) (w : World) (h : impl_within.f a0 a1 a2 = some r) :
  Calls Try.prog 101 #[.int .i64 a0, .int .i64 a1, .int .i64 a2] w fun e w' => e = .returned (.bool r) ∧ zl w w' := by
 have H : (if a0 ≥ a1 then (some (decide (a0 ≤ a2))) else (some false)) = some r := h
 clear h
 by_cases c4 : a0 ≥ a1
 ·rw [if_pos c4] at H
  have c4b0 : decide (a1 ≤ a0) = true := decide_eq_true c4
  clear c4
  obtain rfl := Option.some.inj H
  go_enter Try.func101, Try.ntmps101
  go_wp2
  go_ret
  exact ⟨by first | rfl | (simp; done) | (simp [*]; done), by repeat (first | exact zl.refl _ | apply zl.step)⟩
 ·rw [if_neg c4] at H
  have c4b0 : decide (a1 ≤ a0) = false := decide_eq_false c4
  clear c4
  obtain rfl := Option.some.inj H
  go_enter Try.func101, Try.ntmps101
  go_wp2
  go_ret
  exact ⟨by first | rfl | (simp; done) | (simp [*]; done), by repeat (first | exact zl.refl _ | apply zl.step)⟩
def cmp_Or_int.l0 : Nat → Int → List Int → Int → Int → Option (Int)
 | 0, _, _, _, _ => none
 | k + 1, x3, x6, x7, x8 => if x8 < x7 then (if 0 ≤ x8 then (if x8 < (x6.length : Int) then (if (rd x6 x8) = x3 then (cmp_Or_int.l0 k x3 x6 x7 (wrap64 (x8 + 1))) else (some (rd x6 x8))) else (none)) else (none)) else (some x3)
def cmp_Or_int.f (k : Nat) (l0 : List Int) : Option (Int) := cmp_Or_int.l0 k 0 l0 (l0.length : Int) 0
theorem cmp_Or_int.zu : ∀ k, (∀ y0 y1 y2 y3, LeO (cmp_Or_int.l0 k y0 y1 y2 y3) (cmp_Or_int.l0 (k + 1) y0 y1 y2 y3))
 | 0 => fun _ _ _ _ r h => by simp [cmp_Or_int.l0] at h
 | k + 1 => by
  have ih0 := cmp_Or_int.zu k
  ·intro y0 y1 y2 y3
   unfold cmp_Or_int.l0
   repeat' first
   | (with_reducible exact ih0 _ _ _ _)
   | (with_reducible exact LeO.refl _)
   | (with_reducible exact LeO.none _)
   | (with_reducible refine LeO.ite ?_ ?_)
   | (with_reducible refine LeO.bind ?_ (fun _ => ?_))
   | exact ih0 _ _ _ _
   | exact LeO.none _
   | refine LeO.ite ?_ ?_
   | refine LeO.bind ?_ (fun _ => ?_)
theorem cmp_Or_int.mono : ∀ a0 k, LeO (cmp_Or_int.f k a0) (cmp_Or_int.f (k + 1) a0) := by
 intro a0 k
 have ih0 := cmp_Or_int.zu k
 unfold cmp_Or_int.f
 repeat' first
   | (with_reducible exact ih0 _ _ _ _)
   | (with_reducible exact LeO.refl _)
   | (with_reducible exact LeO.none _)
   | (with_reducible refine LeO.ite ?_ ?_)
   | (with_reducible refine LeO.bind ?_ (fun _ => ?_))
   | exact ih0 _ _ _ _
   | exact LeO.none _
   | refine LeO.ite ?_ ?_
   | refine LeO.bind ?_ (fun _ => ?_)
set_option maxHeartbeats 8000000 in
set_option maxRecDepth 100000 in
theorem cmp_Or_int.calls (k : Nat) (A0 : Option Addr) (c0 : Nat) (l0 : List Int) (r : Int) (w : World) (hr0 : Kd.C (Kd.int .i64) w A0 l0.length l0) (hc0 : l0.length ≤ c0) (h : cmp_Or_int.f k l0 = some r) :
  Calls Try.prog 123 #[.slice A0 l0.length c0] w fun e w' => e = .returned (.int .i64 r) ∧ zl w w' := by
 have HR0 := qd.mk hr0
 have HC0 := qd.mk hc0
 clear hr0 hc0
 have H : (cmp_Or_int.l0 k 0 l0 (l0.length : Int) 0) = some r := h
 clear h
 have H' := qd.mk H
 clear H
 go_enter Try.func123, Try.ntmps123
 go_wp2
 go_loopg [8] k (fun kq v8 w' => ∃ (x8_1 : Int), v8 = .int .i64 x8_1 ∧ qd (cmp_Or_int.l0 kq 0 l0 (l0.length : Int) x8_1 = some r) ∧ qd (kq ≤ k) ∧ zl w w')
 case atStart => exact ⟨(0), (by first | rfl | (simp; done) | (simp [*]; done)), H', ⟨Nat.le_refl _⟩, by repeat (first | exact zl.refl _ | apply zl.step)⟩
 case round =>
  clear H'
  obtain ⟨x8_1, rfl, HA, HK1, ⟨m1, rfl⟩⟩ := hrel
  cases gk with
  | zero => exact absurd HA.out (by simp [cmp_Or_int.l0])
  | succ k1 =>
   have H := HA.out
   clear HA
   simp only [cmp_Or_int.l0] at H
   by_cases c2 : x8_1 < (l0.length : Int)
   ·rw [if_pos c2] at H
    have c2b0 : decide (x8_1 < (l0.length : Int)) = true := decide_eq_true c2
    clear c2
    by_cases c3 : 0 ≤ x8_1
    ·rw [if_pos c3] at H
     have c3b0 : decide (0 ≤ x8_1) = true := decide_eq_true c3
     clear c3
     by_cases c4 : x8_1 < (l0.length : Int)
     ·rw [if_pos c4] at H
      have c4b0 : decide (x8_1 < (l0.length : Int)) = true := decide_eq_true c4
      clear c4
      by_cases c5 : (rd l0 x8_1) = 0
      ·rw [if_pos c5] at H
       have c5b0 : ((rd l0 x8_1) == 0) = true := beq_iff_eq.mpr c5
       have c5b1 : ((rd l0 x8_1) != 0) = false := bne_eq_false_iff_eq.mpr c5
       clear c5
       have H' := qd.mk H
       clear H
       have p181 : 0 ≤ (x8_1 : Int) := of_decide_eq_true (by first | (with_reducible assumption) | assumption)
       have q181 : x8_1 < (l0.length : Int) := of_decide_eq_true (by first | (with_reducible assumption) | assumption)
       obtain ⟨ad181, e181, hx181_0⟩ := Kd.jc HR0.out x8_1 p181 q181
       cases e181
       replace p181 := eq_true p181
       replace q181 := eq_true q181
       go_wp2
       go_roundg k1
       case measure => have := HK1.out; omega
       case rel => exact ⟨(wrap64 (x8_1 + 1)), (by first | rfl | (simp; done) | (simp [*]; done)), H', ⟨by have := HK1.out; omega⟩, by repeat (first | exact zl.refl _ | apply zl.step)⟩
      ·rw [if_neg c5] at H
       have c5b0 : ((rd l0 x8_1) == 0) = false := beq_eq_false_iff_ne.mpr c5
       have c5b1 : ((rd l0 x8_1) != 0) = true := bne_iff_ne.mpr c5
       obtain rfl := Option.some.inj H
       have p181 : 0 ≤ (x8_1 : Int) := of_decide_eq_true (by first | (with_reducible assumption) | assumption)
       have q181 : x8_1 < (l0.length : Int) := of_decide_eq_true (by first | (with_reducible assumption) | assumption)
       obtain ⟨ad181, e181, hx181_0⟩ := Kd.jc HR0.out x8_1 p181 q181
       cases e181
       replace p181 := eq_true p181
       replace q181 := eq_true q181
       go_wp2
       go_ret
       exact ⟨by first | rfl | (simp; done) | (simp [*]; done), by repeat (first | exact zl.refl _ | apply zl.step)⟩
     ·rw [if_neg c4] at H
      exact absurd H (by simp)
    ·rw [if_neg c3] at H
     exact absurd H (by simp)
   ·rw [if_neg c2] at H
    have c2b0 : decide (x8_1 < (l0.length : Int)) = false := decide_eq_false c2
    clear c2
    obtain rfl := Option.some.inj H
    go_wp2
    go_ret
    exact ⟨by first | rfl | (simp; done) | (simp [*]; done), by repeat (first | exact zl.refl _ | apply zl.step)⟩
def cmp_isNaN_int.f (a0 : Int) : Option (Bool) := some (a0 != a0)
set_option maxHeartbeats 8000000 in
set_option maxRecDepth 100000 in
theorem cmp_isNaN_int.calls (a0 : Int) (r : Bool) (w : World) (h : cmp_isNaN_int.f a0 = some r) :
  Calls Try.prog 140 #[.int .i64 a0] w fun e w' => e = .returned (.bool r) ∧ zl w w' := by
 have H : (some (a0 != a0)) = some r := h
 clear h
 obtain rfl := Option.some.inj H
 go_enter Try.func140, Try.ntmps140
 go_wp2
 go_ret
 exact ⟨by first | rfl | (simp; done) | (simp [*]; done), by repeat (first | exact zl.refl _ | apply zl.step)⟩
def cmp_Compare_int.f (a0 : Int) (a1 : Int) : Option (Int) := (cmp_isNaN_int.f a0).bind fun t182 => ((cmp_isNaN_int.f a1).bind fun t183 => (if t182 = true then (if t183 = true then (some 0) else (some (-1))) else (if t183 = true then (some 1) else (if a0 < a1 then (some (-1)) else (if a0 > a1 then (some 1) else (some 0))))))
set_option maxHeartbeats 8000000 in
set_option maxRecDepth 100000 in
theorem cmp_Compare_int.calls (a0 : Int) (a1 : Int) (r : Int) (w : World) (h : cmp_Compare_int.f a0 a1 = some r) :
  Calls Try.prog 124 #[.int .i64 a0, .int .i64 a1] w fun e w' => e = .returned (.int .i64 r) ∧ zl w w' := by
 have H : ((cmp_isNaN_int.f a0).bind fun t182 => ((cmp_isNaN_int.f a1).bind fun t183 => (if t182 = true then (if t183 = true then (some 0) else (some (-1))) else (if t183 = true then (some 1) else (if a0 < a1 then (some (-1)) else (if a0 > a1 then (some 1) else (some 0))))))) = some r := h
 clear h
 replace H := Option.bind_eq_some_iff.mp H
 obtain ⟨t182, A30, H⟩ := H
 replace H : ((cmp_isNaN_int.f a1).bind fun t183 => (if t182 = true then (if t183 = true then (some 0) else (some (-1))) else (if t183 = true then (some 1) else (if a0 < a1 then (some (-1)) else (if a0 > a1 then (some 1) else (some 0)))))) = some r := H
 have A3 := qd.mk A30
 clear A30
 replace H := Option.bind_eq_some_iff.mp H
 obtain ⟨t183, A40, H⟩ := H
 replace H : (if t182 = true then (if t183 = true then (some 0) else (some (-1))) else (if t183 = true then (some 1) else (if a0 < a1 then (some (-1)) else (if a0 > a1 then (some 1) else (some 0))))) = some r := H
 have A4 := qd.mk A40
 clear A40
 by_cases c5 : t182 = true
 ·subst c5
  have H1 : (if t183 = true then (some 0) else (some (-1))) = some r := by rw [if_pos rfl] at H; exact H
  clear H
  have H := H1
  clear H1
  by_cases c6 : t183 = true
  ·subst c6
   have H1 : (some 0) = some r := by rw [if_pos rfl] at H; exact H
   clear H
   have H := H1
   clear H1
   obtain rfl := Option.some.inj H
   go_enter Try.func124, Try.ntmps124
   go_wp2_with (first | ((with_reducible refine qw (f := 140) rfl ?_); refine zj (some 8) rfl rfl Try.func140 (by kernel_rfl) rfl #[.int .i64 a0] rfl (by (try simp only [List.map_toArray, List.map_cons, List.map_nil]); first | done | rfl | (simp only [List.length_drop, List.length_take]; rfl)) ?_; (with_reducible refine (cmp_isNaN_int.calls a0 true _ A3.out).mono ?_); rintro e w' ⟨rfl, ⟨nd, rfl⟩⟩; refine ⟨_, rfl, ?_⟩) | ((with_reducible refine qw (f := 140) rfl ?_); refine zj (some 10) rfl rfl Try.func140 (by kernel_rfl) rfl #[.int .i64 a1] rfl (by (try simp only [List.map_toArray, List.map_cons, List.map_nil]); first | done | rfl | (simp only [List.length_drop, List.length_take]; rfl)) ?_; (with_reducible refine (cmp_isNaN_int.calls a1 true _ A4.out).mono ?_); rintro e w' ⟨rfl, ⟨nd, rfl⟩⟩; refine ⟨_, rfl, ?_⟩))
   go_ret
   exact ⟨by first | rfl | (simp; done) | (simp [*]; done), by repeat (first | exact zl.refl _ | apply zl.step)⟩
  ·replace c6 := Bool.eq_false_iff.mpr c6
   subst c6
   have H1 : (some (-1)) = some r := by rw [if_neg (show ¬ (false = true) by decide)] at H; exact H
   clear H
   have H := H1
   clear H1
   obtain rfl := Option.some.inj H
   go_enter Try.func124, Try.ntmps124
   go_wp2_with (first | ((with_reducible refine qw (f := 140) rfl ?_); refine zj (some 8) rfl rfl Try.func140 (by kernel_rfl) rfl #[.int .i64 a0] rfl (by (try simp only [List.map_toArray, List.map_cons, List.map_nil]); first | done | rfl | (simp only [List.length_drop, List.length_take]; rfl)) ?_; (with_reducible refine (cmp_isNaN_int.calls a0 true _ A3.out).mono ?_); rintro e w' ⟨rfl, ⟨nd, rfl⟩⟩; refine ⟨_, rfl, ?_⟩) | ((with_reducible refine qw (f := 140) rfl ?_); refine zj (some 10) rfl rfl Try.func140 (by kernel_rfl) rfl #[.int .i64 a1] rfl (by (try simp only [List.map_toArray, List.map_cons, List.map_nil]); first | done | rfl | (simp only [List.length_drop, List.length_take]; rfl)) ?_; (with_reducible refine (cmp_isNaN_int.calls a1 false _ A4.out).mono ?_); rintro e w' ⟨rfl, ⟨nd, rfl⟩⟩; refine ⟨_, rfl, ?_⟩))
   go_ret
   exact ⟨by first | rfl | (simp; done) | (simp [*]; done), by repeat (first | exact zl.refl _ | apply zl.step)⟩
 ·replace c5 := Bool.eq_false_iff.mpr c5
  subst c5
  have H1 : (if t183 = true then (some 1) else (if a0 < a1 then (some (-1)) else (if a0 > a1 then (some 1) else (some 0)))) = some r := by rw [if_neg (show ¬ (false = true) by decide)] at H; exact H
  clear H
  have H := H1
  clear H1
  by_cases c7 : t183 = true
  ·subst c7
   have H1 : (some 1) = some r := by rw [if_pos rfl] at H; exact H
   clear H
   have H := H1
   clear H1
   obtain rfl := Option.some.inj H
   go_enter Try.func124, Try.ntmps124
   go_wp2_with (first | ((with_reducible refine qw (f := 140) rfl ?_); refine zj (some 8) rfl rfl Try.func140 (by kernel_rfl) rfl #[.int .i64 a0] rfl (by (try simp only [List.map_toArray, List.map_cons, List.map_nil]); first | done | rfl | (simp only [List.length_drop, List.length_take]; rfl)) ?_; (with_reducible refine (cmp_isNaN_int.calls a0 false _ A3.out).mono ?_); rintro e w' ⟨rfl, ⟨nd, rfl⟩⟩; refine ⟨_, rfl, ?_⟩) | ((with_reducible refine qw (f := 140) rfl ?_); refine zj (some 10) rfl rfl Try.func140 (by kernel_rfl) rfl #[.int .i64 a1] rfl (by (try simp only [List.map_toArray, List.map_cons, List.map_nil]); first | done | rfl | (simp only [List.length_drop, List.length_take]; rfl)) ?_; (with_reducible refine (cmp_isNaN_int.calls a1 true _ A4.out).mono ?_); rintro e w' ⟨rfl, ⟨nd, rfl⟩⟩; refine ⟨_, rfl, ?_⟩))
   go_ret
   exact ⟨by first | rfl | (simp; done) | (simp [*]; done), by repeat (first | exact zl.refl _ | apply zl.step)⟩
  ·replace c7 := Bool.eq_false_iff.mpr c7
   subst c7
   have H1 : (if a0 < a1 then (some (-1)) else (if a0 > a1 then (some 1) else (some 0))) = some r := by rw [if_neg (show ¬ (false = true) by decide)] at H; exact H
   clear H
   have H := H1
   clear H1
   by_cases c8 : a0 < a1
   ·rw [if_pos c8] at H
    have c8b0 : decide (a0 < a1) = true := decide_eq_true c8
    clear c8
    obtain rfl := Option.some.inj H
    go_enter Try.func124, Try.ntmps124
    go_wp2_with (first | ((with_reducible refine qw (f := 140) rfl ?_); refine zj (some 8) rfl rfl Try.func140 (by kernel_rfl) rfl #[.int .i64 a0] rfl (by (try simp only [List.map_toArray, List.map_cons, List.map_nil]); first | done | rfl | (simp only [List.length_drop, List.length_take]; rfl)) ?_; (with_reducible refine (cmp_isNaN_int.calls a0 false _ A3.out).mono ?_); rintro e w' ⟨rfl, ⟨nd, rfl⟩⟩; refine ⟨_, rfl, ?_⟩) | ((with_reducible refine qw (f := 140) rfl ?_); refine zj (some 10) rfl rfl Try.func140 (by kernel_rfl) rfl #[.int .i64 a1] rfl (by (try simp only [List.map_toArray, List.map_cons, List.map_nil]); first | done | rfl | (simp only [List.length_drop, List.length_take]; rfl)) ?_; (with_reducible refine (cmp_isNaN_int.calls a1 false _ A4.out).mono ?_); rintro e w' ⟨rfl, ⟨nd, rfl⟩⟩; refine ⟨_, rfl, ?_⟩))
    go_ret
    exact ⟨by first | rfl | (simp; done) | (simp [*]; done), by repeat (first | exact zl.refl _ | apply zl.step)⟩
   ·rw [if_neg c8] at H
    have c8b0 : decide (a0 < a1) = false := decide_eq_false c8
    clear c8
    by_cases c9 : a0 > a1
    ·rw [if_pos c9] at H
     have c9b0 : decide (a1 < a0) = true := decide_eq_true c9
     clear c9
     obtain rfl := Option.some.inj H
     go_enter Try.func124, Try.ntmps124
     go_wp2_with (first | ((with_reducible refine qw (f := 140) rfl ?_); refine zj (some 8) rfl rfl Try.func140 (by kernel_rfl) rfl #[.int .i64 a0] rfl (by (try simp only [List.map_toArray, List.map_cons, List.map_nil]); first | done | rfl | (simp only [List.length_drop, List.length_take]; rfl)) ?_; (with_reducible refine (cmp_isNaN_int.calls a0 false _ A3.out).mono ?_); rintro e w' ⟨rfl, ⟨nd, rfl⟩⟩; refine ⟨_, rfl, ?_⟩) | ((with_reducible refine qw (f := 140) rfl ?_); refine zj (some 10) rfl rfl Try.func140 (by kernel_rfl) rfl #[.int .i64 a1] rfl (by (try simp only [List.map_toArray, List.map_cons, List.map_nil]); first | done | rfl | (simp only [List.length_drop, List.length_take]; rfl)) ?_; (with_reducible refine (cmp_isNaN_int.calls a1 false _ A4.out).mono ?_); rintro e w' ⟨rfl, ⟨nd, rfl⟩⟩; refine ⟨_, rfl, ?_⟩))
     go_ret
     exact ⟨by first | rfl | (simp; done) | (simp [*]; done), by repeat (first | exact zl.refl _ | apply zl.step)⟩
    ·rw [if_neg c9] at H
     have c9b0 : decide (a1 < a0) = false := decide_eq_false c9
     clear c9
     obtain rfl := Option.some.inj H
     go_enter Try.func124, Try.ntmps124
     go_wp2_with (first | ((with_reducible refine qw (f := 140) rfl ?_); refine zj (some 8) rfl rfl Try.func140 (by kernel_rfl) rfl #[.int .i64 a0] rfl (by (try simp only [List.map_toArray, List.map_cons, List.map_nil]); first | done | rfl | (simp only [List.length_drop, List.length_take]; rfl)) ?_; (with_reducible refine (cmp_isNaN_int.calls a0 false _ A3.out).mono ?_); rintro e w' ⟨rfl, ⟨nd, rfl⟩⟩; refine ⟨_, rfl, ?_⟩) | ((with_reducible refine qw (f := 140) rfl ?_); refine zj (some 10) rfl rfl Try.func140 (by kernel_rfl) rfl #[.int .i64 a1] rfl (by (try simp only [List.map_toArray, List.map_cons, List.map_nil]); first | done | rfl | (simp only [List.length_drop, List.length_take]; rfl)) ?_; (with_reducible refine (cmp_isNaN_int.calls a1 false _ A4.out).mono ?_); rintro e w' ⟨rfl, ⟨nd, rfl⟩⟩; refine ⟨_, rfl, ?_⟩))
     go_ret
     exact ⟨by first | rfl | (simp; done) | (simp [*]; done), by repeat (first | exact zl.refl _ | apply zl.step)⟩
end Go.Proofs.Ytohpaddcfcgmbaa.PFnExactBestToOpen
