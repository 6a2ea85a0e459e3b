/- Cut by wip/cut.py out of the texts of this claim (printed by the kit's printer, or this session's own): what the row's theorem does not reach is struck. Not trusted: Lean checks it. -/
import Derived.Test.YtpopeedfgenebaaDoorZFnPostCrossesPx0
import Derived.Test.YtpopeedfgenebaaDoorZFnPostCrossesPx1
import Derived.Test.YtpopeedfgenebaaDoorZFnPostCrossesPx2
import Derived.Test.YtpopeedfgenebaaDoorZFnPostCrossesPx5
namespace Go.Proofs.YtpopeedfgenebaaDoor.PFnPostCrosses
open Go.RowKit Go.Proofs.YtpopeedfgenebaaDoorW.PrintWords Go.Proofs.YtpopeedfgenebaaDoorW.PrintLast Go.Proofs.YtpopeedfgenebaaDoorW.PrintMore
attribute [local go_sem] zb qz zf ze qw qv za qy
set_option linter.unusedVariables false
set_option linter.unusedSimpArgs false
def spec_DrawRouteCrossings.ascii (a : ByteArray) : Bool := a.data.toList.all fun b => decide (b.toNat < 128)
def spec_DrawRouteCrossings.rows (code : List Int) (at_ seed : Int) : Nat → Option (List Int × Int × Int)
 | 0 => some ([], at_, seed)
 | j + 1 => (spec_DrawRouteCrossings.rows code at_ seed j).bind fun x => (spec_l1Cur_pick.f code x.2.1 x.2.2 2).bind fun p => some (x.1 ++ [p.1], p.2.1, p.2.2)
def spec_DrawRouteCrossings.f (k : Nat) (l0 : List Int) : Option (ByteArray × List Int) := (spec_l1Cur_deliveries.f k l0 0 0).bind fun bt => if spec_DrawRouteCrossings.ascii bt.1 = true ∧ bt.1.size ≤ 1048576 then (spec_DrawRouteCrossings.rows l0 bt.2.1 bt.2.2 bt.1.size).bind fun x => (spec_l1Cur_one.f l0 x.2.1 x.2.2 10).bind fun b => if b.1 = true then (spec_l1Cur_among.f l0 b.2.1 b.2.2 [0, 1, 2]).bind fun y => some (bt.1, x.1 ++ [y.1]) else some (bt.1, x.1) else none
theorem spec_DrawRouteCrossings.mono : ∀ a0 k, LeO (spec_DrawRouteCrossings.f k a0) (spec_DrawRouteCrossings.f (k + 1) a0) := by
 intro a0 k
 unfold spec_DrawRouteCrossings.f
 exact LeO.bind (spec_l1Cur_deliveries.mono _ _ _ _) (fun _ => LeO.refl _)
def spec_DrawRouteCrossings.setIter (W : World) (g : Nat) (o : Obj) : World := { W with heap := W.heap.setIfInBounds g o }
theorem spec_DrawRouteCrossings.next_at {P : Program} (W : World) (g : Nat) (s : ByteArray) (pos : Nat) (ty : TypeId) (hi : W.heap[g]? = some (.stringIter s pos)) (h : pos < s.size) (ha : (s[pos]'h).toNat < 128) :
  (Instr.next (.pointer (some ⟨g, 0, none⟩)) true ty).run P W = .ok (.tuple #[.bool true, .int .i64 pos, .int .i32 (s[pos]'h).toNat]) (spec_DrawRouteCrossings.setIter W g (.stringIter s (pos + 1))) := by
 simp only [Instr.next, getObj, setObj, Sem.run_bind, Sem.run, hi, Result.andThen, h, if_true, decode_ascii s pos h ha]
 simp [goInt, Sem.run, hi, spec_DrawRouteCrossings.setIter]
theorem spec_DrawRouteCrossings.next_end {P : Program} (W : World) (g : Nat) (s : ByteArray) (pos : Nat) (ty : TypeId) (hi : W.heap[g]? = some (.stringIter s pos)) (h : ¬ pos < s.size) :
  (Instr.next (.pointer (some ⟨g, 0, none⟩)) true ty).run P W = .ok (.tuple #[.bool false]) W := by
 simp [Instr.next, getObj, Sem.run, hi, h]
theorem spec_DrawRouteCrossings.setIter_other {W : World} {g k : Nat} (o : Obj) (h : k ≠ g) : (spec_DrawRouteCrossings.setIter W g o).heap[k]? = W.heap[k]? := by
 simp [spec_DrawRouteCrossings.setIter, Array.getElem?_setIfInBounds, Ne.symm h]
theorem spec_DrawRouteCrossings.setIter_same {W : World} {g : Nat} (o : Obj) (h : g < W.heap.size) : (spec_DrawRouteCrossings.setIter W g o).heap[g]? = some o := by
 simp [spec_DrawRouteCrossings.setIter, Array.getElem?_setIfInBounds, h]
theorem spec_DrawRouteCrossings.setIter_size (W : World) (g : Nat) (o : Obj) : (spec_DrawRouteCrossings.setIter W g o).heap.size = W.heap.size := by simp [spec_DrawRouteCrossings.setIter]
theorem spec_DrawRouteCrossings.setIter_below {w W : World} {b g : Nat} (h : Below b w W) (hg : b ≤ g) (o : Obj) : Below b w (spec_DrawRouteCrossings.setIter W g o) :=
 ⟨h.os, h.tape, h.output, (by rw [spec_DrawRouteCrossings.setIter_size]; exact h.size), fun k hk => (spec_DrawRouteCrossings.setIter_other o (by omega)).trans (h.block k hk)⟩
theorem spec_DrawRouteCrossings.rows_at {code : List Int} {a s : Int} {n : Nat} {r : List Int × Int × Int} (h : spec_DrawRouteCrossings.rows code a s n = some r) : ∀ d j : Nat, j + d = n → ∃ o, spec_DrawRouteCrossings.rows code a s j = some o
 | 0, j, hj => ⟨r, (by rw [show j = n by omega]; exact h)⟩
 | d + 1, j, hj => by
  obtain ⟨o, ho⟩ := spec_DrawRouteCrossings.rows_at h d (j + 1) (by omega)
  obtain ⟨o', h1, _⟩ := Option.bind_eq_some_iff.mp ho
  exact ⟨o', h1⟩
theorem spec_DrawRouteCrossings.rows_step {code : List Int} {a s : Int} {n j : Nat} {r : List Int × Int × Int} {xs : List Int} {a1 s1 : Int} (h : spec_DrawRouteCrossings.rows code a s n = some r) (hj : j < n) (ho : spec_DrawRouteCrossings.rows code a s j = some (xs, a1, s1)) : ∃ p a2 s2 : Int, spec_l1Cur_pick.f code a1 s1 2 = some (p, a2, s2) ∧ spec_DrawRouteCrossings.rows code a s (j + 1) = some (xs ++ [p], a2, s2) := by
 obtain ⟨o', h1⟩ := spec_DrawRouteCrossings.rows_at h (n - (j + 1)) (j + 1) (by omega)
 have h2 := h1
 rw [spec_DrawRouteCrossings.rows, ho, Option.bind_some] at h2
 obtain ⟨p, h3, h4⟩ := Option.bind_eq_some_iff.mp h2
 obtain rfl := Option.some.inj h4
 exact ⟨p.1, p.2.1, p.2.2, h3, h1⟩
theorem spec_DrawRouteCrossings.rows_len {code : List Int} {a s : Int} : ∀ (n : Nat) {r : List Int × Int × Int}, spec_DrawRouteCrossings.rows code a s n = some r → r.1.length = n
 | 0, r, h => by cases h; rfl
 | n + 1, r, h => by
  obtain ⟨o, h1, h2⟩ := Option.bind_eq_some_iff.mp h
  obtain ⟨p, h3, h4⟩ := Option.bind_eq_some_iff.mp h2
  obtain rfl := Option.some.inj h4
  have := spec_DrawRouteCrossings.rows_len n h1
  simp [this]
theorem spec_DrawRouteCrossings.ascii_at {a : ByteArray} (h : spec_DrawRouteCrossings.ascii a = true) {j : Nat} (hj : j < a.size) : (a[j]'hj).toNat < 128 := by
 have h1 := List.all_eq_true.1 h (a.data.toList[j]'(by simpa using hj)) (List.getElem_mem _)
 have h2 : (a.data[j]'hj).toNat < 128 := by simpa using h1
 exact h2
structure spec_DrawRouteCrossings.DW (w wr : World) (g i : Nat) (code : List Int) (a s : Int) (t : ByteArray) (pos : Nat) (v : Value) (xs : List Int) : Prop where
  st : IsS48 w wr g code a s
  it : wr.heap[i]? = some (.stringIter t pos)
  row : Kd.R (Kd.int .i64) 3 wr w.heap.size (fun k => k ≠ g ∧ k ≠ i) v xs
  hi : w.heap.size ≤ i
  ne : g ≠ i
  bel : Below w.heap.size w wr
theorem spec_DrawRouteCrossings.DW.next {w wr : World} {g i : Nat} {code : List Int} {a s : Int} {t : ByteArray} {pos : Nat} {v : Value} {xs : List Int} (h : spec_DrawRouteCrossings.DW w wr g i code a s t pos v xs) (p' : Nat) : spec_DrawRouteCrossings.DW w (spec_DrawRouteCrossings.setIter wr i (.stringIter t p')) g i code a s t p' v xs := by
 obtain ⟨A, c, hb, hge, hC⟩ := h.st
 exact ⟨⟨A, c, (spec_DrawRouteCrossings.setIter_other _ h.ne).trans hb, hge, hC⟩, spec_DrawRouteCrossings.setIter_same _ (blk_lt h.it), Kd.R_step h.row (fun k hk _ => spec_DrawRouteCrossings.setIter_other _ hk.2), h.hi, h.ne, spec_DrawRouteCrossings.setIter_below h.bel h.hi _⟩
theorem spec_DrawRouteCrossings.DW.draw {w wr w1 : World} {g i : Nat} {code : List Int} {a s a1 s1 : Int} {t : ByteArray} {pos : Nat} {v : Value} {xs : List Int} (h : spec_DrawRouteCrossings.DW w wr g i code a s t pos v xs) (hI : IsS48 w w1 g code a1 s1) (hb : Below w.heap.size w w1) (hk : ql wr w1 g none) : spec_DrawRouteCrossings.DW w w1 g i code a1 s1 t pos v xs :=
 ⟨hI, (hk.2 _ (blk_lt h.it) (fun e => h.ne e.symm) (by simp)).trans h.it, Kd.R_keep h.row hk (fun k hk => hk.1), h.hi, h.ne, hb⟩
theorem spec_DrawRouteCrossings.DW.below {w wr w1 : World} {g i : Nat} {code : List Int} {a s : Int} {t : ByteArray} {pos : Nat} {v : Value} {xs : List Int} (h : spec_DrawRouteCrossings.DW w wr g i code a s t pos v xs) (hb : Below wr.heap.size wr w1) : spec_DrawRouteCrossings.DW w w1 g i code a s t pos v xs :=
 ⟨h.st.below hb, (hb.block _ (blk_lt h.it)).trans h.it, Kd.R_below h.row hb, h.hi, h.ne, below_then h.bel h.bel.size hb⟩
theorem spec_DrawRouteCrossings.DW.app {w wr w1 : World} {g i : Nat} {code : List Int} {a s : Int} {t : ByteArray} {pos : Nat} {v v1 : Value} {xs ys : List Int} (h : spec_DrawRouteCrossings.DW w wr g i code a s t pos v xs) (ho : Kd.R (Kd.int .i64) 3 w1 w.heap.size (fun k => k ≠ g ∧ k ≠ i) v1 ys) (hb : Below w.heap.size w w1) (hg : wr.grownBy w1 v.ownBlock) : spec_DrawRouteCrossings.DW w w1 g i code a s t pos v1 ys :=
 ⟨h.st.grown hg (Kd.R_away h.row (fun k hk => hk.1)), (hg.block _ (blk_lt h.it) (Kd.R_away h.row (fun k hk => hk.2))).trans h.it, ho, h.hi, h.ne, hb⟩
theorem spec_DrawRouteCrossings.DW.fresh {w wr : World} {g i : Nat} {code : List Int} {a s : Int} {t : ByteArray} {pos : Nat} {v : Value} {xs : List Int} (h : spec_DrawRouteCrossings.DW w wr g i code a s t pos v xs) (k : Nat) (hk : wr.heap.size ≤ k) : k ≠ g ∧ k ≠ i := by
 have := h.st.lt
 have := blk_lt h.it
 omega
theorem spec_DrawRouteCrossings.info3 : (Tryd.prog.info? 3).map (fun i => (i.zero, i.size, i.bytes)) = some (some (.int .i64 0), 1, 8) := by kernel_rfl
set_option maxHeartbeats 4000000 in
set_option maxRecDepth 100000 in
theorem spec_DrawRouteCrossings.calls (k : Nat) (A0 : Option Addr) (c0 : Nat) (l0 : List Int) (r1 : ByteArray) (r2 : List Int) (w : World) (hr0 : Kd.C (Kd.int .u8) w A0 l0.length l0) (hc0 : l0.length ≤ c0) (h : spec_DrawRouteCrossings.f k l0 = some (r1, r2)) :
  Calls Tryd.prog 24 #[.slice A0 l0.length c0] w fun e w' => ∃ v0_ : Value, e = .returned (.tuple #[.string r1, v0_]) ∧ Kd.R (Kd.int .i64) 3 w' w.heap.size (fun _ => True) v0_ r2 ∧ Below w.heap.size w w' := by
 have hus := Tryd.underlying48
 have hu9 := Tryd.underlying9
 have HR := Lib.hid hr0
 clear hr0
 unfold spec_DrawRouteCrossings.f at h
 obtain ⟨⟨t, a1, s1⟩, hd, h⟩ := Option.bind_eq_some_iff.mp h
 simp only at h
 by_cases hz : spec_DrawRouteCrossings.ascii t = true ∧ t.size ≤ 1048576
 ·rw [if_pos hz] at h
  obtain ⟨⟨xs, a2, s2⟩, hrw, h⟩ := Option.bind_eq_some_iff.mp h
  simp only at h
  obtain ⟨⟨b, a3, s3⟩, ho, h⟩ := Option.bind_eq_some_iff.mp h
  simp only at h
  have HD := Lib.hid hd
  have HZ := Lib.hid hz
  have HRW := Lib.hid hrw
  have HO := Lib.hid ho
  have HL := Lib.hid (spec_DrawRouteCrossings.rows_len _ hrw)
  clear hd hz hrw ho
  go_enter Tryd.func24, Tryd.ntmps24
  go_wp2_with (go_at_call 35; refine (spec_l1Cur_deliveries.calls k w.heap.size l0 0 0 t a1 s1 w _ (IsS48.new w w A0 c0 l0 0 0 (Below.refl _ _) HR.out) (qd (Below.refl _ _) _) HD.out).mono ?_; rintro e w2 ⟨rfl, hI, hb, hk⟩; have HB2 := Lib.hid (And.intro hI hb); clear hI hb hk)
  obtain ⟨i, hi⟩ : ∃ i, i = w2.heap.size := ⟨_, rfl⟩
  have hdw : spec_DrawRouteCrossings.DW w (w2.iter t 0) w.heap.size i l0 a1 s1 t 0 (.slice none 0 0) [] := by
   subst hi
   exact ⟨HB2.out.1.alloc _, World.iter_heap w2 t 0, Kd.R_nil _ _ _ _ _, HB2.out.2.size, Nat.ne_of_lt HB2.out.1.lt, qd HB2.out.2 _⟩
  rw [← hi]
  have HW := Lib.hid hdw
  clear hdw hi
  generalize w2.iter t 0 = W3 at HW ⊢
  go_loopw [6] (fun v6 wr => ∃ (j : Nat) (o : List Int) (a s : Int), j ≤ t.size ∧ spec_DrawRouteCrossings.rows l0 a1 s1 j = some (o, a, s) ∧ spec_DrawRouteCrossings.DW w wr w.heap.size i l0 a s t j v6 o) (fun _ wr => t.size - wr.iterPos i)
  case atStart => exact ⟨0, [], a1, s1, (by omega), rfl, HW.out⟩
  case round =>
   obtain ⟨j, o, a, s, hj, hro, hdw⟩ := hrel
   clear HW
   have HW := Lib.hid hdw
   by_cases hlt : j < t.size
   ·have hnx : ∀ ty, (Instr.next (.pointer (some ⟨i, 0, none⟩)) true ty).run Tryd.prog wr = _ := fun ty => spec_DrawRouteCrossings.next_at wr i t j ty hdw.it hlt (spec_DrawRouteCrossings.ascii_at HZ.out.1 hlt)
    obtain ⟨p, a', s', hpk, hr'⟩ := spec_DrawRouteCrossings.rows_step HRW.out hlt hro
    have HP0 := Lib.hid (show wr.iterPos i = j by simp [World.iterPos, hdw.it])
    have HLO := Lib.hid (spec_DrawRouteCrossings.rows_len _ hro)
    have HJ := Lib.hid (And.intro hlt HZ.out.2)
    have hn := hdw.next (j + 1)
    have HPK := Lib.hid hpk
    have HR' := Lib.hid hr'
    have HN := Lib.hid hn
    clear hpk hr' hn hdw hro hj
    go_wp2_with (first
     | (go_at_call 46; refine (spec_l1Cur_pick.calls w.heap.size l0 a s 2 p a' s' w _ HN.out.st HN.out.bel HPK.out).mono ?_; rintro e w5 ⟨rfl, hI, hb, hk⟩; have HV := Lib.hid (HN.out.draw hI hb hk); clear HN hI hb hk)
     | ((with_reducible refine gate_builtin (b := .append) (xs := #[.tmp 16, .tmp 19]) rfl ?_); at_builtin; refine Kd.R_append (Kd.int .i64) (w0 := w) w.heap.size rfl (.tmp 16) (.tmp 19) 31 3 (.int .i64 0) 8 rfl Tryd.underlying31 spec_DrawRouteCrossings.info3 rfl (by decide) (by omega) _ o p [.int .i64 p] (fun k => k ≠ w.heap.size ∧ k ≠ i) (fun _ => False) rfl rfl ?aP (fun _ hk => hk.elim) ?aF ?aO ?aB ?aS ?aL ?_; (case aP => exact rfl); (case aB => exact HV.out.bel); (case aF => exact HV.out.fresh); (case aO => exact HV.out.row); (case aS => exact HV.out.bel.size); (case aL => have h1 := HLO.out; have h2 := HJ.out; (try simp only at h1); omega); intro v1 w1 ho hb hg hat; have hw2 := HV.out.app ho hb hg; clear HV ho hb hg hat; have HV := Lib.hid hw2; clear hw2))
    refine ⟨⟨j + 1, o ++ [p], a', s', (by have := HJ.out; omega), HR'.out, HV.out⟩, ?_⟩
    rw [HP0.out, World.iterPos, HV.out.it]
    have := HJ.out
    show t.size - (j + 1) < t.size - j
    omega
   ·obtain rfl : j = t.size := by omega
    have hnx : ∀ ty, (Instr.next (.pointer (some ⟨i, 0, none⟩)) true ty).run Tryd.prog wr = _ := fun ty => spec_DrawRouteCrossings.next_end wr i t t.size ty hdw.it hlt
    obtain ⟨rfl, rfl, rfl⟩ : o = xs ∧ a = a2 ∧ s = s2 := by
     have := Option.some.inj (hro.symm.trans HRW.out)
     exact ⟨congrArg (·.1) this, congrArg (·.2.1) this, congrArg (·.2.2) this⟩
    clear hdw hro hj
    cases b with
    | false =>
     rw [if_neg (by simp)] at h
     cases h
     go_wp2_with (go_at_call 47; refine (spec_l1Cur_one.calls w.heap.size l0 a s 10 false a3 s3 w _ HW.out.st HW.out.bel HO.out).mono ?_; rintro e w5 ⟨rfl, hI, hb, hk⟩; have HV := Lib.hid (HW.out.draw hI hb hk); clear HW hI hb hk)
     go_ret2
     exact ⟨_, rfl, Kd.R_mono HV.out.row (fun _ _ => trivial), HV.out.bel⟩
    | true =>
     rw [if_pos rfl] at h
     obtain ⟨⟨y, a4, s4⟩, hy, h⟩ := Option.bind_eq_some_iff.mp h
     cases h
     obtain ⟨L, hL⟩ : ∃ L : List Int, L = [0, 1, 2] := ⟨_, rfl⟩
     rw [← hL] at hy
     have HY := Lib.hid hy
     have HLL := Lib.hid hL
     clear hy hL
     go_wp2_with (first
      | (go_at_call 47; refine (spec_l1Cur_one.calls w.heap.size l0 a s 10 true a3 s3 w _ HW.out.st HW.out.bel HO.out).mono ?_; rintro e w5 ⟨rfl, hI, hb, hk⟩; have HV := Lib.hid (HW.out.draw hI hb hk); clear HW hI hb hk)
      | ((with_reducible refine gate_dst (N := 25) rfl ?_); refine Kd.R_lit (Kd.int .i64) _ 3 ?hg (N := 25) ?hd (xs := ([0, 1, 2] : List Int)) (inner := [.int .i64 0, .int .i64 1, .int .i64 2]) (ok := fun _ => True) (okp := fun _ => True) ?hr ?hp (fun _ hk => hk) trivial (Below.refl _ _) (Nat.le_refl _) (by simp) ?_; (case hd => rfl); (case hg => rfl); (case hr => first | (go_simp; done) | (go_simp; rfl)); (case hp => exact (Reps.one (show Kd.M (Kd.int .i64) _ _ _ 0 [.int .i64 0] from rfl) (Reps.one (show Kd.M (Kd.int .i64) _ _ _ 1 [.int .i64 1] from rfl) (Reps.one (show Kd.M (Kd.int .i64) _ _ _ 2 [.int .i64 2] from rfl) (Reps.none _ _))))); intro vl w6 ho9 hb hg_ hnew_; clear hg_ hnew_; (first | rw [← HLL.out] at ho9 | (simp only [Int.reduceToNat] at ho9; rw [← HLL.out] at ho9)); have HV6 := Lib.hid (HV.out.below hb); have HO9 := Lib.hid ho9; clear HV hb ho9; obtain ⟨Ao9, co9, eo9⟩ := Kd.zi HO9.out; subst eo9)
      | (go_at_call 37; refine (spec_l1Cur_among.calls w.heap.size l0 a3 s3 _ _ L y a4 s4 w _ HV6.out.st HV6.out.bel (Kd.R_reads' HO9.out).2.2 (Kd.R_reads' HO9.out).2.1 (far_slice (IsS48.own_ne HV6.out.st HO9.out (by decide))) HY.out).mono ?_; rintro e w7 ⟨rfl, hI, hb, hk⟩; have HV := Lib.hid (HV6.out.draw hI hb hk); clear HV6 hI hb hk)
      | ((with_reducible refine gate_builtin (b := .append) (xs := #[.tmp 23, .tmp 27]) rfl ?_); at_builtin; refine Kd.R_append (Kd.int .i64) (w0 := w) w.heap.size rfl (.tmp 23) (.tmp 27) 31 3 (.int .i64 0) 8 rfl Tryd.underlying31 spec_DrawRouteCrossings.info3 rfl (by decide) (by omega) _ o y [.int .i64 y] (fun k => k ≠ w.heap.size ∧ k ≠ i) (fun _ => False) rfl rfl ?aP (fun _ hk => hk.elim) ?aF ?aO ?aB ?aS ?aL ?_; (case aP => exact rfl); (case aB => exact HV.out.bel); (case aF => exact HV.out.fresh); (case aO => exact HV.out.row); (case aS => exact HV.out.bel.size); (case aL => have h1 := HL.out; have h2 := HZ.out.2; omega); intro v1 w1 ho hb hg hat; have hw2 := HV.out.app ho hb hg; clear HV ho hb hg hat; have HV := Lib.hid hw2; clear hw2))
     go_ret2
     exact ⟨_, rfl, Kd.R_mono HV.out.row (fun _ _ => trivial), HV.out.bel⟩
 ·rw [if_neg hz] at h
  cases h
def spec_l1All.l0 : Nat → Int → Int → List Int → Int → Int → Option (Bool)
 | 0, _, _, _, _, _ => none
 | k + 1, x1, x2, x9, x10, x11 => if x11 < x10 then (if 0 ≤ x11 then (if x11 < (x9.length : Int) then ((spec_l1In.f (rd x9 x11) x1 x2).bind fun t278 => (if t278 = true then (spec_l1All.l0 k x1 x2 x9 x10 (wrap64 (x11 + 1))) else (some false))) else (none)) else (none)) else (some true)
def spec_l1All.f (k : Nat) (l0 : List Int) (a1 : Int) (a2 : Int) : Option (Bool) := spec_l1All.l0 k a1 a2 l0 (l0.length : Int) 0
theorem spec_l1All.zc : ∀ k, (∀ y0 y1 y2 y3 y4, LeO (spec_l1All.l0 k y0 y1 y2 y3 y4) (spec_l1All.l0 (k + 1) y0 y1 y2 y3 y4))
 | 0 => fun _ _ _ _ _ r h => by simp [spec_l1All.l0] at h
 | k + 1 => by
  have ih0 := spec_l1All.zc k
  intro y0 y1 y2 y3 y4
  unfold spec_l1All.l0
  exact l0_
theorem spec_l1All.mono : ∀ a0 a1 a2 k, LeO (spec_l1All.f k a0 a1 a2) (spec_l1All.f (k + 1) a0 a1 a2) := by
 intro a0 a1 a2 k
 have ih0 := spec_l1All.zc k
 unfold spec_l1All.f
 exact l0_
set_option maxHeartbeats 8000000 in
set_option maxRecDepth 100000 in
theorem spec_l1All.calls (k : Nat) (A0 : Option Addr) (c0 : Nat) (l0 : List Int) (a1 : Int) (a2 : Int) (r : Bool) (w : World) (hr0 : Kd.C (Kd.int .i64) w A0 l0.length l0) (hc0 : l0.length ≤ c0) (h : spec_l1All.f k l0 a1 a2 = some r) :
  Calls Tryd.prog 48 #[.slice A0 l0.length c0, .int .i64 a1, .int .i64 a2] w fun e w' => e = .returned (.bool r) ∧ qg w w' := by
 have HR0 := qa.mk hr0
 have HC0 := qa.mk hc0
 clear hr0 hc0
 have H := h; clear h; unfold spec_l1All.f at H
 have H' := qa.mk H
 clear H
 go_enter Tryd.func48, Tryd.ntmps48
 go_wp2
 go_loopg [11] k (fun kq v11 w' => ∃ (x11_1 : Int), v11 = .int .i64 x11_1 ∧ qa (spec_l1All.l0 kq a1 a2 l0 (l0.length : Int) x11_1 = some r) ∧ qa (kq ≤ k) ∧ qg w w')
 case atStart => exact ⟨(0), es_, H', ⟨Nat.le_refl _⟩, a1_⟩
 case round =>
  clear H'
  obtain ⟨x11_1, rfl, HA, HK1, ⟨m1, rfl⟩⟩ := hrel
  cases gk with
  | zero => exact absurd HA.out (by simp [spec_l1All.l0])
  | succ k1 =>
   have H := HA.out
   clear HA
   simp only [spec_l1All.l0] at H
   replace H := iD_ H; obtain ⟨c4b0, H⟩ | ⟨c4b0, H⟩ := H
   ·replace H := iD_ H; obtain ⟨c5b0, H⟩ | ⟨c5b0, H⟩ := H
    ·replace H := iD_ H; obtain ⟨c6b0, H⟩ | ⟨c6b0, H⟩ := H
     ·replace H := bX_ H; obtain ⟨t278, A7, H⟩ := H
      replace H := iB_ H; obtain ⟨rfl, H⟩ | ⟨rfl, H⟩ := H
      ·have H' := qa.mk H
       clear H
       have p277 : 0 ≤ (x11_1 : Int) := od_
       have q277 : x11_1 < (l0.length : Int) := od_
       obtain ⟨ad277, e277, hx277_0⟩ := Kd.zj HR0.out x11_1 p277 q277
       cases e277
       replace p277 := eq_true p277
       replace q277 := eq_true q277
       go_wp2_with (first | (refine gL_ 18 Tryd.func50 #[.int .i64 (rd l0 x11_1), .int .i64 a1, .int .i64 a2] ?_; refine (spec_l1In.calls (rd l0 x11_1) a1 a2 true _ A7.out).mono ?_; rintro e w' ⟨rfl, ⟨nd, rfl⟩⟩; refine ⟨_, rfl, ?_⟩))
       exact lC_
      ·obtain rfl := Option.some.inj H
       have p277 : 0 ≤ (x11_1 : Int) := od_
       have q277 : x11_1 < (l0.length : Int) := od_
       obtain ⟨ad277, e277, hx277_0⟩ := Kd.zj HR0.out x11_1 p277 q277
       cases e277
       replace p277 := eq_true p277
       replace q277 := eq_true q277
       go_wp2_with (first | (refine gL_ 18 Tryd.func50 #[.int .i64 (rd l0 x11_1), .int .i64 a1, .int .i64 a2] ?_; refine (spec_l1In.calls (rd l0 x11_1) a1 a2 false _ A7.out).mono ?_; rintro e w' ⟨rfl, ⟨nd, rfl⟩⟩; refine ⟨_, rfl, ?_⟩))
       go_ret
       exact ⟨es_, a1_⟩
     ·cases H
    ·cases H
   ·exact lD_
mutual
def spec_RouteCrossings.j0 : Nat → ByteArray → List Int → Bool → Option (Int × Bool)
 | 0, _, _, _ => none
 | k + 1, x0, x1, x24 => if x24 = true then (some (0, false)) else (spec_RouteCrossings.l0 k x0 0 0 x1 (x1.length : Int) 0)
def spec_RouteCrossings.l0 : Nat → ByteArray → Int → Int → List Int → Int → Int → Option (Int × Bool)
 | 0, _, _, _, _, _, _ => none
 | k + 1, x0, x6, x7, x25, x26, x27 => if x27 < x26 then (if 0 ≤ x27 then (if x27 < (x25.length : Int) then (if x27 < (x0.size : Int) then ((spec_poCross.f (bt x0 x27) x7 (rd x25 x27)).bind fun t282 => (spec_RouteCrossings.l0 k x0 (wrap64 (x6 + t282)) (rd x25 x27) x25 x26 (wrap64 (x27 + 1)))) else (none)) else (none)) else (none)) else (some (x6, true))
end
def spec_RouteCrossings.f (k : Nat) (a0 : ByteArray) (l1 : List Int) : Option (Int × Bool) := (spec_poGood.f k a0).bind fun t279 => (if t279 = true then (if (l1.length : Int) = (a0.size : Int) then ((spec_l1All.f k l1 0 1).bind fun t280 => (spec_RouteCrossings.j0 k a0 l1 (!t280))) else (spec_RouteCrossings.j0 k a0 l1 true)) else (spec_RouteCrossings.j0 k a0 l1 true))
theorem spec_RouteCrossings.zc : ∀ k, (∀ y0 y1 y2, LeO (spec_RouteCrossings.j0 k y0 y1 y2) (spec_RouteCrossings.j0 (k + 1) y0 y1 y2)) ∧ (∀ y0 y1 y2 y3 y4 y5, LeO (spec_RouteCrossings.l0 k y0 y1 y2 y3 y4 y5) (spec_RouteCrossings.l0 (k + 1) y0 y1 y2 y3 y4 y5))
 | 0 => ⟨fun _ _ _ r h => by simp [spec_RouteCrossings.j0] at h, fun _ _ _ _ _ _ r h => by simp [spec_RouteCrossings.l0] at h⟩
 | k + 1 => by
  obtain ⟨ih0, ih1⟩ := spec_RouteCrossings.zc k
  refine ⟨?_, ?_⟩
  all_goals first | (intro y0 y1 y2; unfold spec_RouteCrossings.j0) | (intro y0 y1 y2 y3 y4 y5; unfold spec_RouteCrossings.l0)
  all_goals (repeat' first | (with_reducible first | exact ih0 _ _ _ | exact ih1 _ _ _ _ _ _ | exact spec_l1All.mono _ _ _ _ | exact spec_poGood.mono _ _ | exact LeO.refl _ | exact LeO.none _ | refine LeO.ite ?_ ?_ | refine LeO.bind ?_ (fun _ => ?_)) | exact ih0 _ _ _ | exact ih1 _ _ _ _ _ _ | exact spec_l1All.mono _ _ _ _ | exact spec_poGood.mono _ _ | exact LeO.none _ | refine LeO.ite ?_ ?_ | refine LeO.bind ?_ (fun _ => ?_))
theorem spec_RouteCrossings.mono : ∀ a0 a1 k, LeO (spec_RouteCrossings.f k a0 a1) (spec_RouteCrossings.f (k + 1) a0 a1) := by
 intro a0 a1 k
 obtain ⟨ih0, ih1⟩ := spec_RouteCrossings.zc k
 unfold spec_RouteCrossings.f
 repeat' first | (with_reducible first | exact ih0 _ _ _ | exact ih1 _ _ _ _ _ _ | exact spec_l1All.mono _ _ _ _ | exact spec_poGood.mono _ _ | exact LeO.refl _ | exact LeO.none _ | refine LeO.ite ?_ ?_ | refine LeO.bind ?_ (fun _ => ?_)) | exact ih0 _ _ _ | exact ih1 _ _ _ _ _ _ | exact spec_l1All.mono _ _ _ _ | exact spec_poGood.mono _ _ | exact LeO.none _ | refine LeO.ite ?_ ?_ | refine LeO.bind ?_ (fun _ => ?_)
set_option maxHeartbeats 8000000 in
set_option maxRecDepth 100000 in
theorem spec_RouteCrossings.calls (k : Nat) (a0 : ByteArray) (A1 : Option Addr) (c1 : Nat) (l1 : List Int) (r1 : Int) (r2 : Bool) (w : World) (hr1 : Kd.C (Kd.int .i64) w A1 l1.length l1) (hc1 : l1.length ≤ c1) (h : spec_RouteCrossings.f k a0 l1 = some (r1, r2)) :
  Calls Tryd.prog 25 #[.string a0, .slice A1 l1.length c1] w fun e w' => e = .returned (.tuple #[.int .i64 r1, .bool r2]) ∧ qg w w' := by
 have HR1 := qa.mk hr1
 have HC1 := qa.mk hc1
 clear hr1 hc1
 have H := h; clear h; unfold spec_RouteCrossings.f at H
 have HC3 := qa.mk H
 clear H
 go_enter Tryd.func25, Tryd.ntmps25
 go_upto_region 1 with (fail)
 go_cut [24] (fun v24 wc => ∃ (kq : Nat) (x24_2 : Bool), v24 = .bool x24_2 ∧ qa (spec_RouteCrossings.j0 kq a0 l1 x24_2 = some (r1, r2)) ∧ qa (kq ≤ k) ∧ qg w wc)
 case first =>
  have H := HC3.out
  clear HC3
  replace H := bX_ H; obtain ⟨t279, A4, H⟩ := H
  replace H := iB_ H; obtain ⟨rfl, H⟩ | ⟨rfl, H⟩ := H
  ·replace H := iC_ H; obtain ⟨c6, H⟩ | ⟨c6, H⟩ := H
   ·have c6b0 := beq_iff_eq.mpr c6
    have c6b1 := bne_eq_false_iff_eq.mpr c6
    have c6b2 : (l1.length == a0.size) = true := by first | simpa using c6 | (simp at c6 ⊢; omega)
    clear c6
    (first | rw [c6b0] | (simp only [i64_w, i32_w]; rw [c6b0]) | skip)
    replace H := bX_ H; obtain ⟨t280, A7, H⟩ := H
    have H' := qa.mk H
    clear H
    go_wp2_with (first | (refine gL_ 11 Tryd.func27 #[.string a0] ?_; refine (spec_poGood.calls k a0 true _ A4.out).mono ?_; rintro e w' ⟨rfl, ⟨nd, rfl⟩⟩; refine ⟨_, rfl, ?_⟩) | (go_at_call 48; refine (spec_l1All.calls k _ _ l1 0 1 t280 _ (by repeat (first | exact HR1.out | (with_reducible refine Kd.zh ?_ _) | (with_reducible refine Kd.zg ?_ _) | (with_reducible refine Kd.zk ?_))) HC1.out A7.out).mono ?_; rintro e w' ⟨rfl, ⟨nd, rfl⟩⟩))
    go_meet
    case rel => exact ⟨_, (!t280), es_, H', ⟨by first | omega | exact Nat.le_refl _⟩, a1_⟩
   ·have c6b0 := beq_eq_false_iff_ne.mpr c6
    have c6b1 := bne_iff_ne.mpr c6
    have c6b2 : (l1.length == a0.size) = false := by first | simpa using c6 | (simp at c6 ⊢; omega)
    (first | rw [c6b0] | (simp only [i64_w, i32_w]; rw [c6b0]) | skip)
    have H' := qa.mk H
    clear H
    go_wp2_with (first | (refine gL_ 11 Tryd.func27 #[.string a0] ?_; refine (spec_poGood.calls k a0 true _ A4.out).mono ?_; rintro e w' ⟨rfl, ⟨nd, rfl⟩⟩; refine ⟨_, rfl, ?_⟩))
    exact le_
  ·have H' := qa.mk H
   clear H
   go_wp2_with (first | (refine gL_ 11 Tryd.func27 #[.string a0] ?_; refine (spec_poGood.calls k a0 false _ A4.out).mono ?_; rintro e w' ⟨rfl, ⟨nd, rfl⟩⟩; refine ⟨_, rfl, ?_⟩))
   exact le_
 case rest =>
  clear HC3
  try clear c1
  try clear c6
  try clear c6b0
  try clear c6b1
  try clear c6b2
  obtain ⟨kq, x24_2, rfl, HA, HJ2, ⟨mc2, rfl⟩⟩ := hcut
  cases kq with
  | zero => exact absurd HA.out (by simp [spec_RouteCrossings.j0])
  | succ kj2 =>
   have H := HA.out
   clear HA
   simp only [spec_RouteCrossings.j0] at H
   replace H := iB_ H; obtain ⟨rfl, H⟩ | ⟨rfl, H⟩ := H
   ·exact ld_
   ·have H' := qa.mk H
    clear H
    go_wp2
    go_loopg [6, 7, 27] kj2 (fun kq v6 v7 v27 w' => ∃ (x6_2 : Int) (x7_2 : Int) (x27_2 : Int), v6 = .int .i64 x6_2 ∧ v7 = .int .i64 x7_2 ∧ v27 = .int .i64 x27_2 ∧ qa (spec_RouteCrossings.l0 kq a0 x6_2 x7_2 l1 (l1.length : Int) x27_2 = some (r1, r2)) ∧ qa (kq ≤ kj2) ∧ qg w w')
    case atStart => exact ⟨(0), (0), (0), es_, es_, es_, H', ⟨Nat.le_refl _⟩, a1_⟩
    case round =>
     clear H'
     try clear c1
     try clear c6
     try clear c6b0
     try clear c6b1
     try clear c6b2
     obtain ⟨x6_2, x7_2, x27_2, rfl, rfl, rfl, HA, HK2, ⟨m2, rfl⟩⟩ := hrel
     cases gk with
     | zero => exact absurd HA.out (by simp [spec_RouteCrossings.l0])
     | succ k2 =>
      have H := HA.out
      clear HA
      simp only [spec_RouteCrossings.l0] at H
      replace H := iD_ H; obtain ⟨c9b0, H⟩ | ⟨c9b0, H⟩ := H
      ·replace H := iD_ H; obtain ⟨c10b0, H⟩ | ⟨c10b0, H⟩ := H
       ·replace H := iD_ H; obtain ⟨c11b0, H⟩ | ⟨c11b0, H⟩ := H
        ·replace H := iD_ H; obtain ⟨c12b0, H⟩ | ⟨c12b0, H⟩ := H
         ·replace H := bX_ H; obtain ⟨t282, A14, H⟩ := H
          have H' := qa.mk H
          clear H
          have p281 : 0 ≤ (x27_2 : Int) := od_
          have q281 : x27_2 < (l1.length : Int) := od_
          obtain ⟨ad281, e281, hx281_0⟩ := Kd.zj HR1.out x27_2 p281 q281
          cases e281
          replace p281 := eq_true p281
          replace q281 := eq_true q281
          have p13 : 0 ≤ (x27_2 : Int) := od_
          have q13 : x27_2 < (a0.size : Int) := od_
          have hx13 := bt_at a0 x27_2
          replace p13 := eq_true p13
          replace q13 := eq_true q13
          go_wp2_with (first | (refine gL_ 38 Tryd.func49 #[.int .u8 (bt a0 x27_2), .int .i64 x7_2, .int .i64 (rd l1 x27_2)] ?_; refine (spec_poCross.calls (bt a0 x27_2) x7_2 (rd l1 x27_2) t282 _ A14.out).mono ?_; rintro e w' ⟨rfl, ⟨nd, rfl⟩⟩; refine ⟨_, rfl, ?_⟩))
          go_roundg k2
          case measure => have := HJ2.out; have := HK2.out; omega
          case rel => exact ⟨(wrap64 (x6_2 + t282)), (rd l1 x27_2), (wrap64 (x27_2 + 1)), es_, es_, es_, H', ⟨by have := HJ2.out; have := HK2.out; omega⟩, a1_⟩
         ·cases H
        ·cases H
       ·cases H
      ·exact ld_
def impl_MirrorDeliveries.mir (x : Int) : Int := if x = 108 then 114 else if x = 114 then 108 else x
def impl_MirrorDeliveries.f (k : Nat) (a0 : ByteArray) : Option (ByteArray × Bool) := (impl_AreDeliveries.f k a0).bind fun t => if t = true then (if a0.size ≤ 1048576 then some (strOfNums ((bytesOf a0).map impl_MirrorDeliveries.mir), true) else none) else some (⟨#[]⟩, false)
theorem impl_MirrorDeliveries.mono : ∀ a0 k, LeO (impl_MirrorDeliveries.f k a0) (impl_MirrorDeliveries.f (k + 1) a0) := fun a0 k => LeO.bind (impl_AreDeliveries.mono a0 k) (fun _ => LeO.refl _)
def impl_MirrorDeliveries.row (a0 : ByteArray) (i : Nat) : List Int := ((bytesOf a0).take i).map impl_MirrorDeliveries.mir ++ (bytesOf a0).drop i
theorem impl_MirrorDeliveries.row_get (a0 : ByteArray) (i : Nat) (hi : i < a0.size) : (impl_MirrorDeliveries.row a0 i)[i]? = some (bt a0 i) := by
 unfold impl_MirrorDeliveries.row
 have hl : i < (bytesOf a0).length := by rw [bytesOf_length]; exact hi
 rw [List.getElem?_append_right (by simp; omega)]
 have e : i - (((bytesOf a0).take i).map impl_MirrorDeliveries.mir).length = 0 := by simp; omega
 rw [e, List.getElem?_drop, Nat.add_zero, List.getElem?_eq_getElem hl, ← rd_bytesOf]
 simp [rd, hl]
theorem impl_MirrorDeliveries.row_set (a0 : ByteArray) (i : Nat) (hi : i < a0.size) : (impl_MirrorDeliveries.row a0 i).set i (impl_MirrorDeliveries.mir (bt a0 i)) = impl_MirrorDeliveries.row a0 (i + 1) := by
 unfold impl_MirrorDeliveries.row
 have hl : i < (bytesOf a0).length := by rw [bytesOf_length]; exact hi
 have hb : (bytesOf a0)[i] = bt a0 i := by rw [← rd_bytesOf]; simp [rd, hl]
 rw [List.set_append_right _ _ (by simp; omega)]
 have e : i - (((bytesOf a0).take i).map impl_MirrorDeliveries.mir).length = 0 := by simp; omega
 rw [e, List.drop_eq_getElem_cons hl, sB_, List.take_succ_eq_append_getElem hl, List.map_append, List.append_assoc, ← hb]
 rfl
def impl_MirrorDeliveries.Rel (w wr : World) (a0 : ByteArray) (rest : List Value) (i : Nat) : Prop := wr.heap[w.heap.size]? = some (.cells (nums .u8 (impl_MirrorDeliveries.row a0 i) ++ rest).toArray 5 (a0.size + rest.length, a0.size + rest.length + 1)) ∧ Below w.heap.size w wr
theorem impl_MirrorDeliveries.Rel.cell {w wr : World} {a0 : ByteArray} {rest : List Value} {i : Nat} (h : impl_MirrorDeliveries.Rel w wr a0 rest i) (hi : i < a0.size) : wr.cell? ⟨w.heap.size, i, none⟩ = some (.int .u8 (bt a0 i)) := by
 have := cell_of_row wr w.heap.size i _ _ _ h.1
 rw [this]
 have hl : (nums .u8 (impl_MirrorDeliveries.row a0 i)).length = a0.size := by simp [nums, impl_MirrorDeliveries.row, bytesOf_length]; omega
 have hg := impl_MirrorDeliveries.row_get a0 i hi
 simp only [List.getElem?_toArray]
 rw [List.getElem?_append_left (by omega)]
 simp [nums, hg]
theorem impl_MirrorDeliveries.Rel.free {w wr : World} {a0 : ByteArray} {rest : List Value} {i : Nat} (h : impl_MirrorDeliveries.Rel w wr a0 rest i) (hi : i < a0.size) : wr.frozen? ⟨w.heap.size, i, none⟩ = false := by
 simp [World.frozen?, h.1]
 omega
theorem impl_MirrorDeliveries.Rel.keep {w wr : World} {a0 : ByteArray} {rest : List Value} {i : Nat} (h : impl_MirrorDeliveries.Rel w wr a0 rest i) (hi : i < a0.size) (hm : impl_MirrorDeliveries.mir (bt a0 i) = bt a0 i) : impl_MirrorDeliveries.Rel w wr a0 rest (i + 1) := by
 refine ⟨?_, h.2⟩
 have e := impl_MirrorDeliveries.row_set a0 i hi
 rw [hm] at e
 have hg := impl_MirrorDeliveries.row_get a0 i hi
 have : (impl_MirrorDeliveries.row a0 i).set i (bt a0 i) = impl_MirrorDeliveries.row a0 i := by
  obtain ⟨hl, he⟩ := List.getElem?_eq_some_iff.1 hg
  rw [← he, List.set_getElem_self]
 rw [this] at e
 rw [← e]
 exact h.1
theorem impl_MirrorDeliveries.Rel.put {w wr : World} {a0 : ByteArray} {rest : List Value} {i : Nat} (h : impl_MirrorDeliveries.Rel w wr a0 rest i) (hi : i < a0.size) {x : Int} (hm : impl_MirrorDeliveries.mir (bt a0 i) = x) : impl_MirrorDeliveries.Rel w (wr.setCell ⟨w.heap.size, i, none⟩ (.int .u8 x)) a0 rest (i + 1) := by
 refine ⟨?_, h.2.setCell (Nat.le_refl _) _⟩
 have hl : (impl_MirrorDeliveries.row a0 i).length = a0.size := by simp [impl_MirrorDeliveries.row, bytesOf_length]; omega
 have e : (nums .u8 (impl_MirrorDeliveries.row a0 (i + 1)) ++ rest).toArray = (nums .u8 (impl_MirrorDeliveries.row a0 i) ++ rest).toArray.setIfInBounds i (.int .u8 x) := by
  rw [← impl_MirrorDeliveries.row_set a0 i hi, hm]
  simp only [nums, List.map_set, sA_]
  rw [List.set_append_left _ _ (by simp; omega)]
 rw [e]
 unfold World.setCell
 simp only [Array.getElem?_modify, if_true, h.1, Option.map_some, Option.isSome_none, Bool.false_eq_true, if_false]
set_option maxHeartbeats 2000000 in
set_option maxRecDepth 100000 in
theorem impl_MirrorDeliveries.calls (k : Nat) (a0 : ByteArray) (r1 : ByteArray) (r2 : Bool) (w : World) (h : impl_MirrorDeliveries.f k a0 = some (r1, r2)) :
  Calls Tryd.prog 26 #[.string a0] w fun e w' => e = .returned (.tuple #[.string r1, .bool r2]) ∧ Below w.heap.size w w' := by
 unfold impl_MirrorDeliveries.f at h
 obtain ⟨t, ht, h⟩ := Option.bind_eq_some_iff.1 h
 have HT := qa.mk ht
 clear ht
 cases t with
 | false =>
  simp only [Bool.false_eq_true, if_false, Option.some.injEq, Prod.mk.injEq] at h
  obtain ⟨rfl, rfl⟩ := h
  go_enter Tryd.func26, Tryd.ntmps26
  go_wp2_with (go_at_call 21; refine (impl_AreDeliveries.calls k a0 false _ HT.out).mono ?_; rintro e w' ⟨rfl, ⟨nd, rfl⟩⟩)
  go_ret2
  exact ⟨rfl, (by repeat (first | exact Below.refl _ _ | apply qb))⟩
 | true =>
  by_cases hs : a0.size ≤ 1048576
  ·simp only [if_true, if_pos hs, Option.some.injEq, Prod.mk.injEq] at h
   obtain ⟨rfl, rfl⟩ := h
   have kc := fun (W : World) => print_bytes (P := Tryd.prog) 9 27 5 Tryd.underlying9 Tryd.underlying27 Tryd.underlying5 a0 W
   go_enter Tryd.func26, Tryd.ntmps26
   go_wp2_with (first | (go_at_call 21; refine (impl_AreDeliveries.calls k a0 true _ HT.out).mono ?_; rintro e w' ⟨rfl, ⟨nd, rfl⟩⟩))
   obtain ⟨W1, hW1⟩ : ∃ W1, W1 = Lib.bytesWorld (w.drewN nd) 5 a0 := ⟨_, rfl⟩
   have hR : ∃ rest : List Value, impl_MirrorDeliveries.Rel w W1 a0 rest 0 := by
    refine ⟨List.replicate (grownCap (w.drewN nd) a0.size 0 5 - a0.size) (.int .u8 0), ?_, ?_⟩
    ·rw [hW1]
     have hn := Lib.bytesWorld_at_new (w.drewN nd) 5 a0
     have e : Lib.bytesCells (w.drewN nd) 5 a0 = (nums .u8 (impl_MirrorDeliveries.row a0 0) ++ List.replicate (grownCap (w.drewN nd) a0.size 0 5 - a0.size) (Value.int .u8 0)).toArray := by
      simp [Lib.bytesCells, impl_MirrorDeliveries.row, nums, bytesOf]
     have e2 : (Lib.bytesCells (w.drewN nd) 5 a0).size = a0.size + (List.replicate (grownCap (w.drewN nd) a0.size 0 5 - a0.size) (Value.int .u8 0)).length := by
      rw [e]; simp [nums, impl_MirrorDeliveries.row, bytesOf_length]
     rw [e2, e] at hn
     exact hn
    ·rw [hW1]
     exact bytes_below (qb (Below.refl _ _) nd) (Nat.le_refl _) _ _
   obtain ⟨rest, hR⟩ := hR
   rw [← hW1]
   clear hW1 kc HT
   generalize grownCap (w.drewN nd) a0.size 0 5 = cp
   go_loopw [14] (fun i wr => ∃ k : Nat, k ≤ a0.size ∧ i = .int .i64 k ∧ impl_MirrorDeliveries.Rel w wr a0 rest k) (fun i _ => a0.size - (intOf i).toNat)
   case atStart => exact ⟨0, Nat.zero_le _, rfl, hR⟩
   case round =>
    obtain ⟨j, hj, rfl, hr⟩ := hrel
    have HR := Lib.hid hr
    clear hr hR
    by_cases hlt : j < a0.size
    ·have hc := HR.out.cell hlt
     have hf := HR.out.free hlt
     by_cases h1 : bt a0 (j : Int) = 108
     ·have b1 : (bt a0 (j : Int) == 108) = true := by rw [h1]; rfl
      have HM := Lib.hid (show impl_MirrorDeliveries.mir (bt a0 (j : Int)) = 114 by unfold impl_MirrorDeliveries.mir; rw [if_pos h1])
      clear h1
      go_wp2
      go_roundw
      case rel => exact ⟨j + 1, (by omega), (by go_num), HR.out.put hlt HM.out⟩
      case measure => simp [intOf]; omega
     ·have b1 : (bt a0 (j : Int) == 108) = false := by rw [beq_eq_false_iff_ne]; exact h1
      by_cases h2 : bt a0 (j : Int) = 114
      ·have b2 : (bt a0 (j : Int) == 114) = true := by rw [h2]; rfl
       have HM := Lib.hid (show impl_MirrorDeliveries.mir (bt a0 (j : Int)) = 108 by unfold impl_MirrorDeliveries.mir; rw [if_neg h1, if_pos h2])
       clear h1 h2
       go_wp2
       go_roundw
       case rel => exact ⟨j + 1, (by omega), (by go_num), HR.out.put hlt HM.out⟩
       case measure => simp [intOf]; omega
      ·have b2 : (bt a0 (j : Int) == 114) = false := by rw [beq_eq_false_iff_ne]; exact h2
       have HM := Lib.hid (show impl_MirrorDeliveries.mir (bt a0 (j : Int)) = bt a0 (j : Int) by unfold impl_MirrorDeliveries.mir; rw [if_neg h1, if_neg h2])
       clear h1 h2
       go_wp2
       go_roundw
       case rel => exact ⟨j + 1, (by omega), (by go_num), HR.out.keep hlt HM.out⟩
       case measure => simp [intOf]; omega
    ·obtain rfl : j = a0.size := by omega
     have hl : (impl_MirrorDeliveries.row a0 a0.size).length = a0.size := by simp [impl_MirrorDeliveries.row, bytesOf_length]
     have kd := run_convert_bytes_arg (P := Tryd.prog) wr 27 5 Tryd.underlying27 Tryd.underlying5 w.heap.size 0 a0.size cp (impl_MirrorDeliveries.row a0 a0.size) hl (fun i hi => by
      rw [Nat.zero_add, cell_of_row wr w.heap.size i _ _ _ HR.out.1, List.getElem?_toArray, List.getElem?_append_left (by simp [nums, hl, hi])]
      simp [nums, List.getElem?_eq_getElem (show i < (impl_MirrorDeliveries.row a0 a0.size).length by omega)]) 9 Tryd.underlying9
     have er : impl_MirrorDeliveries.row a0 a0.size = (bytesOf a0).map impl_MirrorDeliveries.mir := by
      unfold impl_MirrorDeliveries.row
      rw [List.take_of_length_le aj_, List.drop_of_length_le aj_, List.append_nil]
     rw [er] at kd
     clear hl er
     go_wp2
     go_ret2
     exact ⟨rfl, HR.out.2⟩
  ·simp only [if_true, if_neg hs] at h
   cases h
end Go.Proofs.YtpopeedfgenebaaDoor.PFnPostCrosses
