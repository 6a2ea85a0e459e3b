/- Cut by wip/cut.py out of the texts of this claim (printed by the kit's printer, or this session's own): what the row's theorem does not reach is struck. Not trusted: Lean checks it. -/
import Derived.Test.YtpopeedfgenebaaGreatZFnPostDeliversPx0
import Derived.Test.YtpopeedfgenebaaGreatZFnPostDeliversPx2
namespace Go.Proofs.YtpopeedfgenebaaGreat.PFnPostDelivers
open Go.RowKit Go.Proofs.YtpopeedfgenebaaGreatW.PrintWords Go.Proofs.YtpopeedfgenebaaGreatW.PrintLast Go.Proofs.YtpopeedfgenebaaGreatW.PrintMore
attribute [local go_sem] zq zo zx zw zk zj zp zn
set_option linter.unusedVariables false
set_option linter.unusedSimpArgs false
def strings_ContainsAny.lay_ren : Go.Shelf.Ren := ⟨fun n => match n with | 150 => 70 | 153 => 88 | 152 => 110 | 226 => 111 | 227 => 112 | 228 => 113 | 137 => 77 | 119 => 124 | 224 => 125 | 225 => 126 | 217 => 101 | 266 => 120 | n => n, fun n => match n with | 9 => 9 | 4 => 4 | 3 => 3 | 5 => 5 | 21 => 21 | 117 => 130 | 116 => 129 | 0 => 0 | 46 => 97 | 124 => 143 | n => n, fun n => n⟩
theorem strings_ContainsAny.lay : Go.Proofs.Lays.n150 Tryz.prog strings_ContainsAny.lay_ren := {
 mixed := by kernel_rfl
 f119 := Tryz.func124.trans (congrArg some a9_)
 f137 := Tryz.func77.trans (congrArg some a9_)
 f150 := Tryz.func70.trans (congrArg some a9_)
 f152 := Tryz.func110.trans (congrArg some a9_)
 f153 := Tryz.func88.trans (congrArg some a9_)
 f217 := Tryz.func101.trans (congrArg some a9_)
 f224 := Tryz.func125.trans (congrArg some a9_)
 f225 := Tryz.func126.trans (congrArg some a9_)
 f226 := Tryz.func111.trans (congrArg some a9_)
 f227 := Tryz.func112.trans (congrArg some a9_)
 f228 := Tryz.func113.trans (congrArg some a9_)
 f266 := Tryz.func120.trans (congrArg some a9_)
 t0 := Tryz.underlying0
 a0 := Tryz.isAgg0
 z0 := Tryz.sizeOf0
 v0 := Tryz.zeroValue0
 t3 := Tryz.underlying3
 a3 := Tryz.isAgg3
 z3 := Tryz.sizeOf3
 v3 := Tryz.zeroValue3
 t4 := Tryz.underlying4
 a4 := Tryz.isAgg4
 z4 := Tryz.sizeOf4
 v4 := Tryz.zeroValue4
 t5 := Tryz.underlying5
 a5 := Tryz.isAgg5
 z5 := Tryz.sizeOf5
 v5 := Tryz.zeroValue5
 t9 := Tryz.underlying9
 a9 := Tryz.isAgg9
 z9 := Tryz.sizeOf9
 v9 := Tryz.zeroValue9
 t21 := Tryz.underlying21
 a21 := Tryz.isAgg21
 z21 := Tryz.sizeOf21
 v21 := Tryz.zeroValue21
 t46 := Tryz.underlying97
 a46 := Tryz.isAgg97
 z46 := Tryz.sizeOf97
 v46 := Tryz.zeroValue97
 t116 := Tryz.underlying129
 a116 := Tryz.isAgg129
 z116 := Tryz.sizeOf129
 t117 := Tryz.underlying130
 a117 := Tryz.isAgg130
 z117 := Tryz.sizeOf130
 v117 := Tryz.zeroValue130
 t124 := Tryz.underlying143
 a124 := Tryz.isAgg143
 z124 := Tryz.sizeOf143
 v124 := Tryz.zeroValue143 }
theorem strings_ContainsAny.set : (Tryz.prog.info? (strings_ContainsAny.lay_ren.t 116)).map (fun i => (i.zero, i.size)) = some (some (.agg (Array.replicate 256 (.bool false))), 256) := by kernel_rfl
def strings_ContainsAny.ascii (a : ByteArray) : Bool := a.data.toList.all fun b => decide (b.toNat < 128)
def strings_ContainsAny.f (a0 : ByteArray) (a1 : ByteArray) : Option Bool := if a0.size < 4294967281 ∧ a1.size < 4294967281 ∧ strings_ContainsAny.ascii a0 = true ∧ strings_ContainsAny.ascii a1 = true then some (Lib.containsAny a0.data.toList a1.data.toList) else none
theorem strings_ContainsAny.ascii_at {a : ByteArray} (h : strings_ContainsAny.ascii a = true) : ∀ (j : Nat) b, a.data.toList[j]? = some b → b.toNat < 128 := fun _ b hb => of_decide_eq_true (List.all_eq_true.1 h b (List.mem_of_getElem? hb))
theorem strings_ContainsAny.calls (a0 : ByteArray) (a1 : ByteArray) (r : Bool) (w : World) (h : strings_ContainsAny.f a0 a1 = some r) :
  Calls Tryz.prog 70 #[.string a0, .string a1] w fun e w' => e = .returned (.bool r) ∧ Below w.heap.size w w' := by
 unfold strings_ContainsAny.f at h
 by_cases hc : a0.size < 4294967281 ∧ a1.size < 4294967281 ∧ strings_ContainsAny.ascii a0 = true ∧ strings_ContainsAny.ascii a1 = true
 ·rw [if_pos hc] at h
  cases Option.some.inj h
  exact Go.Proofs.Any.strings_ContainsAny_laid strings_ContainsAny.lay strings_ContainsAny.set a0 a1 w hc.1 hc.2.1 (strings_ContainsAny.ascii_at hc.2.2.1) (strings_ContainsAny.ascii_at hc.2.2.2)
 ·rw [if_neg hc] at h
  cases h
def impl_isStreetText.f (k : Nat) (a0_0 : Int) (a0_1 : Int) (a1 : ByteArray) : Option (Bool) := (impl_IsStreet.f a0_0 a0_1).bind fun t208 => (if t208 = true then ((impl_AreDeliveries.f k a1).bind fun t209 => (if t209 = true then (if a0_1 = (a1.size : Int) then (if a0_0 > 0 then (some true) else ((strings_ContainsAny.f a1 (⟨#[114, 98]⟩ : ByteArray)).bind fun t210 => (some (!t210)))) else (some false)) else (some false))) else (some false))
theorem impl_isStreetText.mono : ∀ a0 a1 a2 k, LeO (impl_isStreetText.f k a0 a1 a2) (impl_isStreetText.f (k + 1) a0 a1 a2) := by
 intro a0 a1 a2 k
 unfold impl_isStreetText.f
 exact lg_
set_option maxHeartbeats 8000000 in
set_option maxRecDepth 100000 in
theorem impl_isStreetText.calls (k : Nat) (a0_0 : Int) (a0_1 : Int) (a1 : ByteArray) (r : Bool) (w : World) (h : impl_isStreetText.f k a0_0 a0_1 a1 = some r) :
  Calls Tryz.prog 33 #[.agg #[.int .i64 a0_0, .int .i64 a0_1], .string a1] w fun e w' => e = .returned (.bool r) ∧ Below w.heap.size w w' := by
 have hu25 := Tryz.underlying25;have HB := qb.mk (Below.refl w.heap.size w);have H := h; clear h; unfold impl_isStreetText.f at H;replace H := bX_ H; obtain ⟨b5, A3, H⟩ := H;replace H := iB_ H; obtain ⟨rfl, H⟩ | ⟨rfl, H⟩ := H
 ·replace H := bX_ H; obtain ⟨b6, A5, H⟩ := H
  replace H := iB_ H; obtain ⟨rfl, H⟩ | ⟨rfl, H⟩ := H
  ·replace H := iE_ H; obtain ⟨c7b0, c7b1, H⟩ | ⟨c7, c7b0, c7b1, H⟩ := H
   ·replace H := iC_ H; obtain ⟨c8, H⟩ | ⟨c8, H⟩ := H
    ·have c8b0 : decide (0 < a0_0) = true := decide_eq_true c8
     clear c8;obtain rfl := Option.some.inj H
     go_enter Tryz.func33, Tryz.ntmps33
     go_wp2_with (first | ((with_reducible refine zc (N := 2) rfl ?_); (try (refine gate_guard (by rfl) ?_; dsimp only)); refine zb ?hg (N := 2) ?hd (cs := #[.int .i64 a0_0, .int .i64 a0_1]) (t := 25) ?hr ?_; (case hd => rfl); (case hg => rfl); (case hr => first | (go_simp; done) | (go_simp; rfl)); intro b1 hg w9 hbox hb; have b0 := qb.mk (hbox); have b3 := qb.mk (a3_); have b2 := qb.mk (a3_); replace HB := qb.mk ac_; clear hb hbox hg; have hcz10_0 := cC_ b0 0; have hcz10_1 := cC_ b0 1; have hfz10_0 := qi b0.out 0; have hfz10_1 := qi b0.out 1) | (refine gL_ 6 Tryz.func47 #[.agg #[.int .i64 a0_0, .int .i64 a0_1]] ?_; refine (impl_IsStreet.calls a0_0 a0_1 true _ A3.out).mono ?_; rintro e w11 ⟨rfl, hb⟩; refine ⟨_, rfl, ?_⟩; replace b0 := qb.mk am_; replace HB := qb.mk (qo bg_ hb); (try clear hb)) | (go_at_call 43; (with_reducible refine (impl_AreDeliveries.calls k a1 true _ A5.out).mono ?_); rintro e w' ⟨rfl, ⟨nd, rfl⟩⟩; have hcz12_0 := cC_ b0 0; have hcz12_1 := cC_ b0 1; have hfz12_0 := qi b0.out 0; have hfz12_1 := qi b0.out 1))
     go_ret
     exact ⟨er_, be1_ HB b2⟩
    ·have c8b0 : decide (0 < a0_0) = false := decide_eq_false c8
     clear c8;replace H := bX_ H; obtain ⟨b4, A13, H⟩ := H;obtain rfl := Option.some.inj H
     go_enter Tryz.func33, Tryz.ntmps33
     go_wp2_with (first | ((with_reducible refine zc (N := 2) rfl ?_); (try (refine gate_guard (by rfl) ?_; dsimp only)); refine zb ?hg (N := 2) ?hd (cs := #[.int .i64 a0_0, .int .i64 a0_1]) (t := 25) ?hr ?_; (case hd => rfl); (case hg => rfl); (case hr => first | (go_simp; done) | (go_simp; rfl)); intro b1 hg w14 hbox hb; have b0 := qb.mk (hbox); have b3 := qb.mk (a3_); have b2 := qb.mk (a3_); replace HB := qb.mk ac_; clear hb hbox hg; have hcz15_0 := cC_ b0 0; have hcz15_1 := cC_ b0 1; have hfz15_0 := qi b0.out 0; have hfz15_1 := qi b0.out 1) | (refine gL_ 6 Tryz.func47 #[.agg #[.int .i64 a0_0, .int .i64 a0_1]] ?_; refine (impl_IsStreet.calls a0_0 a0_1 true _ A3.out).mono ?_; rintro e w16 ⟨rfl, hb⟩; refine ⟨_, rfl, ?_⟩; replace b0 := qb.mk am_; replace HB := qb.mk (qo bg_ hb); (try clear hb)) | (go_at_call 43; (with_reducible refine (impl_AreDeliveries.calls k a1 true _ A5.out).mono ?_); rintro e w' ⟨rfl, ⟨nd, rfl⟩⟩; have hcz17_0 := cC_ b0 0; have hcz17_1 := cC_ b0 1; have hfz17_0 := qi b0.out 0; have hfz17_1 := qi b0.out 1) | (go_at_call 70; (with_reducible refine (strings_ContainsAny.calls a1 (⟨#[114, 98]⟩ : ByteArray) b4 _ A13.out).mono ?_); rintro e w18 ⟨rfl, hb⟩; replace b0 := qb.mk am_; replace HB := qb.mk (qo bg_ hb); (try clear hb)))
     go_ret
     exact ⟨er_, be1_ HB b2⟩
   ·obtain rfl := Option.some.inj H
    go_enter Tryz.func33, Tryz.ntmps33
    go_wp2_with (first | ((with_reducible refine zc (N := 2) rfl ?_); (try (refine gate_guard (by rfl) ?_; dsimp only)); refine zb ?hg (N := 2) ?hd (cs := #[.int .i64 a0_0, .int .i64 a0_1]) (t := 25) ?hr ?_; (case hd => rfl); (case hg => rfl); (case hr => first | (go_simp; done) | (go_simp; rfl)); intro b1 hg w19 hbox hb; have b0 := qb.mk (hbox); have b3 := qb.mk (a3_); have b2 := qb.mk (a3_); replace HB := qb.mk ac_; clear hb hbox hg; have hcz20_0 := cC_ b0 0; have hcz20_1 := cC_ b0 1; have hfz20_0 := qi b0.out 0; have hfz20_1 := qi b0.out 1) | (refine gL_ 6 Tryz.func47 #[.agg #[.int .i64 a0_0, .int .i64 a0_1]] ?_; refine (impl_IsStreet.calls a0_0 a0_1 true _ A3.out).mono ?_; rintro e w21 ⟨rfl, hb⟩; refine ⟨_, rfl, ?_⟩; replace b0 := qb.mk am_; replace HB := qb.mk (qo bg_ hb); (try clear hb)) | (go_at_call 43; (with_reducible refine (impl_AreDeliveries.calls k a1 true _ A5.out).mono ?_); rintro e w' ⟨rfl, ⟨nd, rfl⟩⟩; have hcz22_0 := cC_ b0 0; have hcz22_1 := cC_ b0 1; have hfz22_0 := qi b0.out 0; have hfz22_1 := qi b0.out 1))
    go_ret
    exact ⟨er_, be1_ HB b2⟩
  ·obtain rfl := Option.some.inj H
   go_enter Tryz.func33, Tryz.ntmps33
   go_wp2_with (first | ((with_reducible refine zc (N := 2) rfl ?_); (try (refine gate_guard (by rfl) ?_; dsimp only)); refine zb ?hg (N := 2) ?hd (cs := #[.int .i64 a0_0, .int .i64 a0_1]) (t := 25) ?hr ?_; (case hd => rfl); (case hg => rfl); (case hr => first | (go_simp; done) | (go_simp; rfl)); intro b1 hg w23 hbox hb; have b0 := qb.mk (hbox); have b3 := qb.mk (a3_); have b2 := qb.mk (a3_); replace HB := qb.mk ac_; clear hb hbox hg; have hcz24_0 := cC_ b0 0; have hcz24_1 := cC_ b0 1; have hfz24_0 := qi b0.out 0; have hfz24_1 := qi b0.out 1) | (refine gL_ 6 Tryz.func47 #[.agg #[.int .i64 a0_0, .int .i64 a0_1]] ?_; refine (impl_IsStreet.calls a0_0 a0_1 true _ A3.out).mono ?_; rintro e w25 ⟨rfl, hb⟩; refine ⟨_, rfl, ?_⟩; replace b0 := qb.mk am_; replace HB := qb.mk (qo bg_ hb); (try clear hb)) | (go_at_call 43; (with_reducible refine (impl_AreDeliveries.calls k a1 false _ A5.out).mono ?_); rintro e w' ⟨rfl, ⟨nd, rfl⟩⟩))
   go_ret
   exact ⟨er_, be1_ HB b2⟩
 ·obtain rfl := Option.some.inj H
  go_enter Tryz.func33, Tryz.ntmps33
  go_wp2_with (first | ((with_reducible refine zc (N := 2) rfl ?_); (try (refine gate_guard (by rfl) ?_; dsimp only)); refine zb ?hg (N := 2) ?hd (cs := #[.int .i64 a0_0, .int .i64 a0_1]) (t := 25) ?hr ?_; (case hd => rfl); (case hg => rfl); (case hr => first | (go_simp; done) | (go_simp; rfl)); intro b1 hg w26 hbox hb; have b0 := qb.mk (hbox); have b3 := qb.mk (a3_); have b2 := qb.mk (a3_); replace HB := qb.mk ac_; clear hb hbox hg; have hcz27_0 := cC_ b0 0; have hcz27_1 := cC_ b0 1; have hfz27_0 := qi b0.out 0; have hfz27_1 := qi b0.out 1) | (refine gL_ 6 Tryz.func47 #[.agg #[.int .i64 a0_0, .int .i64 a0_1]] ?_; refine (impl_IsStreet.calls a0_0 a0_1 false _ A3.out).mono ?_; rintro e w28 ⟨rfl, hb⟩; refine ⟨_, rfl, ?_⟩; replace b0 := qb.mk am_; replace HB := qb.mk (qo bg_ hb); (try clear hb)))
  go_ret
  exact ⟨er_, be1_ HB b2⟩
def impl_isDelivered.f (k : Nat) (a0 : ByteArray) (a1 : Int) : Option (Bool) := (impl_AreDeliveries.f k a0).bind fun t211 => (if t211 = true then ((impl_within.f a1 0 2).bind fun t212 => (some t212)) else (some false))
theorem impl_isDelivered.mono : ∀ a0 a1 k, LeO (impl_isDelivered.f k a0 a1) (impl_isDelivered.f (k + 1) a0 a1) := by
 intro a0 a1 k
 unfold impl_isDelivered.f
 exact lg_
set_option maxHeartbeats 8000000 in
set_option maxRecDepth 100000 in
theorem impl_isDelivered.calls (k : Nat) (a0 : ByteArray) (a1 : Int) (r : Bool) (w : World) (h : impl_isDelivered.f k a0 a1 = some r) :
  Calls Tryz.prog 34 #[.string a0, .int .i64 a1] w fun e w' => e = .returned (.bool r) ∧ ql w w' := by
 have H := h; clear h; unfold impl_isDelivered.f at H
 replace H := bX_ H; obtain ⟨t211, A3, H⟩ := H
 replace H := iB_ H; obtain ⟨rfl, H⟩ | ⟨rfl, H⟩ := H
 ·replace H := bX_ H; obtain ⟨t212, A5, H⟩ := H
  obtain rfl := Option.some.inj H
  go_enter Tryz.func34, Tryz.ntmps34
  go_wp2_with (first | (refine gL_ 6 Tryz.func43 #[.string a0] ?_; refine (impl_AreDeliveries.calls k a0 true _ A3.out).mono ?_; rintro e w' ⟨rfl, ⟨nd, rfl⟩⟩; refine ⟨_, rfl, ?_⟩) | (go_at_call 65; (with_reducible refine (impl_within.calls a1 0 2 t212 _ A5.out).mono ?_); rintro e w' ⟨rfl, ⟨nd, rfl⟩⟩))
  go_ret
  exact ⟨es_, a0_⟩
 ·obtain rfl := Option.some.inj H
  go_enter Tryz.func34, Tryz.ntmps34
  go_wp2_with (first | (refine gL_ 6 Tryz.func43 #[.string a0] ?_; refine (impl_AreDeliveries.calls k a0 false _ A3.out).mono ?_; rintro e w' ⟨rfl, ⟨nd, rfl⟩⟩; refine ⟨_, rfl, ?_⟩))
  go_ret
  exact ⟨es_, a0_⟩
def impl_crossingsAt.f (a0 : Int) (a1 : Int) (a2 : Int) : Option (Int) := if a1 = a2 then (if a0 = 98 then (some 2) else (if a0 = 114 then (if a1 = 0 then (some 2) else (if a0 = 108 then (if a1 = 1 then (some 2) else (some 0)) else (some 0))) else (if a0 = 108 then (if a1 = 1 then (some 2) else (some 0)) else (some 0)))) else (some 1)
set_option maxHeartbeats 8000000 in
set_option maxRecDepth 100000 in
theorem impl_crossingsAt.calls (a0 : Int) (a1 : Int) (a2 : Int) (r : Int) (w : World) (h : impl_crossingsAt.f a0 a1 a2 = some r) :
  Calls Tryz.prog 71 #[.int .u8 a0, .int .i64 a1, .int .i64 a2] w fun e w' => e = .returned (.int .i64 r) ∧ ql w w' := by
 have H := h; clear h; unfold impl_crossingsAt.f at H
 replace H := iE_ H; obtain ⟨c4b0, c4b1, H⟩ | ⟨c4, c4b0, c4b1, H⟩ := H
 ·replace H := iE_ H; obtain ⟨c5b0, c5b1, H⟩ | ⟨c5, c5b0, c5b1, H⟩ := H
  ·exact lq_
  ·replace H := iE_ H; obtain ⟨c6b0, c6b1, H⟩ | ⟨c6, c6b0, c6b1, H⟩ := H
   ·replace H := iE_ H; obtain ⟨c7b0, c7b1, H⟩ | ⟨c7, c7b0, c7b1, H⟩ := H
    ·exact lq_
    ·replace H := iE_ H; obtain ⟨c8b0, c8b1, H⟩ | ⟨c8, c8b0, c8b1, H⟩ := H
     ·replace H := iE_ H; obtain ⟨c9b0, c9b1, H⟩ | ⟨c9, c9b0, c9b1, H⟩ := H
      ·exact lq_
      ·exact lq_
     ·exact lq_
   ·replace H := iE_ H; obtain ⟨c10b0, c10b1, H⟩ | ⟨c10, c10b0, c10b1, H⟩ := H
    ·replace H := iE_ H; obtain ⟨c11b0, c11b1, H⟩ | ⟨c11, c11b0, c11b1, H⟩ := H
     ·exact lq_
     ·exact lq_
    ·exact lq_
 ·exact lq_
end Go.Proofs.YtpopeedfgenebaaGreat.PFnPostDelivers
