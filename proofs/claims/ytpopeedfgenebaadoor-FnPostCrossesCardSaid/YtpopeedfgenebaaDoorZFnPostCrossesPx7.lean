/- Cut by wip/cut.py out of the texts of this claim (printed by the kit's printer, or this session's own): what the row's theorem does not reach is struck. Not trusted: Lean checks it. -/
import Derived.Test.YtpopeedfgenebaaDoorZFnPostCrossesPx0
import Derived.Test.YtpopeedfgenebaaDoorZFnPostCrossesPx2
import Derived.Test.YtpopeedfgenebaaDoorZFnPostCrossesPx3
namespace Go.Proofs.YtpopeedfgenebaaDoor.PFnPostCrosses
open Go.RowKit Go.Proofs.YtpopeedfgenebaaDoorW.PrintWords Go.Proofs.YtpopeedfgenebaaDoorW.PrintLast Go.Proofs.YtpopeedfgenebaaDoorW.PrintMore
attribute [local go_sem] zb qz zf ze qw qv za qy
set_option linter.unusedVariables false
set_option linter.unusedSimpArgs false
def spec_poSides.l0 : Nat → ByteArray → List (List Int) → List Int → Int → Int → Option (List Int)
 | 0, _, _, _, _, _ => none
 | k + 1, x0, x5, x7, x8, x9 => if x9 < (x0.size : Int) then (if 0 ≤ (wrap64 (x9 + 1)) then (if (wrap64 (x9 + 1)) < (x5.length : Int) then (if 0 < ((rd_L4 x5 (wrap64 (x9 + 1))).length : Int) then (if (rd (rd_L4 x5 (wrap64 (x9 + 1))) 0) = 1000000 then (if x7.length < 17592186044416 then (spec_poSides.l0 k x0 x5 (x7 ++ [1]) 1 (wrap64 (x9 + 1))) else (none)) else (if 0 ≤ x9 then ((spec_poCross.f (bt x0 x9) x8 0).bind fun t236 => (if x9 < (x5.length : Int) then (if 0 ≤ x8 then (if x8 < ((rd_L4 x5 x9).length : Int) then (if (wrap64 (t236 + (rd (rd_L4 x5 (wrap64 (x9 + 1))) 0))) = (rd (rd_L4 x5 x9) x8) then (if x7.length < 17592186044416 then (spec_poSides.l0 k x0 x5 (x7 ++ [0]) 0 (wrap64 (x9 + 1))) else (none)) else (if x7.length < 17592186044416 then (spec_poSides.l0 k x0 x5 (x7 ++ [1]) 1 (wrap64 (x9 + 1))) else (none))) else (none)) else (none)) else (none))) else (none))) else (none)) else (none)) else (none)) else (some x7)
def spec_poSides.f (k : Nat) (a0 : ByteArray) (a1 : Int) : Option (List Int) := (spec_poTable.f a0 a1).bind fun bt225 => (spec_poSides.l0 k a0 bt225.1 ([] : List Int) 0 0)
theorem spec_poSides.zc : ∀ k, (∀ y0 y1 y2 y3 y4, LeO (spec_poSides.l0 k y0 y1 y2 y3 y4) (spec_poSides.l0 (k + 1) y0 y1 y2 y3 y4))
 | 0 => fun _ _ _ _ _ r h => by simp [spec_poSides.l0] at h
 | k + 1 => by
  have ih0 := spec_poSides.zc k
  intro y0 y1 y2 y3 y4
  unfold spec_poSides.l0
  exact l0_
theorem spec_poSides.mono : ∀ a0 a1 k, LeO (spec_poSides.f k a0 a1) (spec_poSides.f (k + 1) a0 a1) := by
 intro a0 a1 k
 have ih0 := spec_poSides.zc k
 unfold spec_poSides.f
 exact l0_
def spec_poSides.T8 : Bool × List (List Nat × List Nat) := (true, [([], []), ([], []), ([1], [1]), ([0, 2], [0, 2]), ([3], [3]), ([4], [4]), ([5], [5]), ([6], [6]), ([7], [7]), ([8], [8]), ([8], [8]), ([9, 10, 8], [8, 9, 10]), ([8], [8]), ([11, 12, 8, 8], [8, 11, 12]), ([8], [8]), ([8], [8]), ([15, 8], [8, 15]), ([14, 16, 8], [8, 14, 16]), ([17, 8], [8, 17]), ([18, 8], [8, 18]), ([19, 8], [8, 19]), ([13, 20, 8], [8, 13, 20]), ([8], [8]), ([8], [8]), ([22, 23, 8], [8, 22, 23]), ([24, 8], [8, 24]), ([8], [8]), ([25, 26, 8], [8, 25, 26]), ([27, 8], [8, 27]), ([21, 28, 8], [8, 21, 28]), ([8, 29], [8, 29])])
def spec_poSides.B8 : List Nat := [0, 0, 2, 7, 15, 31, 63, 127, 255, 511, 511, 2047, 511, 8191, 511, 511, 33279, 115199, 246271, 508415, 1032703, 2097151, 511, 511, 12583423, 29360639, 511, 130023935, 264241663, 536870911, 1073741823]
theorem spec_poSides.tab8 : rtab .any (opsOf Tryd.f41 8) = spec_poSides.T8 := by kernel_rfl
theorem spec_poSides.bits8 : waitsOk spec_poSides.T8.2 spec_poSides.B8 = true := by kernel_rfl
set_option maxHeartbeats 8000000 in
set_option maxRecDepth 100000 in
theorem spec_poSides.calls (k : Nat) (a0 : ByteArray) (a1 : Int) (r : List Int) (w : World) (h : spec_poSides.f k a0 a1 = some r) :
  Calls Tryd.prog 41 #[.string a0, .int .i64 a1] w fun e w' => ∃ v0_ : Value, e = .returned (v0_) ∧ Kd.R (Kd.int .i64) 3 w' w.heap.size (fun _ => True) v0_ r ∧ Below w.heap.size w w' := by
 have HB := qa.mk (Below.refl w.heap.size w)
 have H := h; clear h; unfold spec_poSides.f at H
 replace H := bX_ H; obtain ⟨⟨t225, t226⟩, A3, H⟩ := H; (try dsimp only at H)
 have H' := qa.mk H
 clear H
 go_enter Tryd.func41, Tryd.ntmps41
 go_wp2_with (first | (refine gL_ 14 Tryd.func39 #[.string a0, .int .i64 a1] ?_; refine (spec_poTable.calls a0 a1 t225 t226 _ A3.out).mono ?_; rintro e w4 ⟨v227, v229, rfl, ho0, ho1, hb⟩; refine ⟨_, rfl, ?_⟩; have HO228 := qa.mk (Kd.S_lower ho0 a9_); have HO230 := qa.mk (Kd.S_lower ho1 a9_); replace HB := qa.mk a5_; (try clear hb ho0 ho1)))
 go_loopg [7, 8, 9] k (fun kq v7 v8 v9 w' => ∃ (x7_1 : List Int) (x8_1 : Int) (x9_1 : Int), v8 = .int .i64 x8_1 ∧ v9 = .int .i64 x9_1 ∧ qa (spec_poSides.l0 kq a0 t225 x7_1 x8_1 x9_1 = some r) ∧ qa (kq ≤ k) ∧ qa (Kd.S (Kd.slice 3 (Kd.int .i64)) 31 w' w.heap.size (fun k_ => some k_ ≠ (v7 : Value).ownBlock) v227 t225) ∧ qa (Kd.R (Kd.int .i64) 3 w' w.heap.size (fun _ => True) v7 x7_1) ∧ qa (Below w.heap.size w w'))
 case atStart => exact ⟨(([] : List Int)), (0), (0), es_, es_, H', ⟨Nat.le_refl _⟩, ⟨by (with_reducible repeat (first | apply Kd.S_alloc | apply Kd.S_drewN | apply Kd.S_drew)); exact Kd.S_mono HO228.out (fun _ hk => (by simp [Value.ownBlock]))⟩, ⟨by first | exact Kd.R_nil _ _ _ _ _ | exact Kd.N_nil _ _ _ _ _ | exact Kd.V_nil _ _ _ _ _ | exact Kd.Q_nil _ _ _ _ _ | exact Kd.S_nil _ _ _ _ _⟩, ⟨be0_ HB⟩⟩
 case round =>
  clear H'
  obtain ⟨x7_1, x8_1, x9_1, rfl, rfl, HA, HK1, HO_5, HO_7, HB⟩ := hrel
  cases gk with
  | zero => exact absurd HA.out (by simp [spec_poSides.l0])
  | succ k1 =>
   have H := HA.out
   clear HA
   simp only [spec_poSides.l0] at H
   replace H := iD_ H; obtain ⟨c5b0, H⟩ | ⟨c5b0, H⟩ := H
   ·obtain ⟨ji6, hji6⟩ : ∃ j_ : Int, (wrap64 (x9_1 + 1)) = j_ := ⟨_, rfl⟩
    replace H : (if 0 ≤ (ji6) then (if (ji6) < (t225.length : Int) then (if 0 < ((rd_L4 t225 (ji6)).length : Int) then (if (rd (rd_L4 t225 (ji6)) 0) = 1000000 then (if x7_1.length < 17592186044416 then (spec_poSides.l0 k1 a0 t225 (x7_1 ++ [1]) 1 ji6) else (none)) else (if 0 ≤ x9_1 then ((spec_poCross.f (bt a0 x9_1) x8_1 0).bind fun t236 => (if x9_1 < (t225.length : Int) then (if 0 ≤ x8_1 then (if x8_1 < ((rd_L4 t225 x9_1).length : Int) then (if (wrap64 (t236 + (rd (rd_L4 t225 (ji6)) 0))) = (rd (rd_L4 t225 x9_1) x8_1) then (if x7_1.length < 17592186044416 then (spec_poSides.l0 k1 a0 t225 (x7_1 ++ [0]) 0 ji6) else (none)) else (if x7_1.length < 17592186044416 then (spec_poSides.l0 k1 a0 t225 (x7_1 ++ [1]) 1 ji6) else (none))) else (none)) else (none)) else (none))) else (none))) else (none)) else (none)) else (none)) = some r := by first | (rw [hji6] at H; exact H) | (simp only [hji6] at H ⊢; exact H)
    have hji6w : (IntKind.i64.wrap (x9_1 + 1)) = ji6 := (i64_w _).trans hji6
    replace H := iD_ H; obtain ⟨c7b0, H⟩ | ⟨c7b0, H⟩ := H
    ·replace H := iD_ H; obtain ⟨c8b0, H⟩ | ⟨c8b0, H⟩ := H
     ·replace H := iC_ H; obtain ⟨c9, H⟩ | ⟨c9, H⟩ := H
      ·have c9b0 : decide (0 < ((rd_L4 t225 (ji6)).length : Int)) = true := decide_eq_true c9
       have c9b1 : decide (0 < (rd_L4 t225 (ji6)).length) = true := decide_eq_true (by omega)
       clear c9
       replace H := iE_ H; obtain ⟨c10b0, c10b1, H⟩ | ⟨c10, c10b0, c10b1, H⟩ := H
       ·replace H := iC_ H; obtain ⟨c11, H⟩ | ⟨c11, H⟩ := H
        ·have LMc11 := qa.mk c11
         clear c11
         obtain ⟨y233, hy233⟩ : ∃ y_ : List Int, y_ = (x7_1 ++ [1]) := ⟨_, rfl⟩
         replace H : (spec_poSides.l0 k1 a0 t225 y233 1 ji6) = some r := by first | (rw [hy233]; with_reducible exact H) | (have H2_ := (Option.bind_some _ _).symm.trans H; rw [hy233]; with_reducible exact H2_) | (have H2_ := (Option.bind_some _ _).symm.trans H; with_reducible exact H2_) | with_reducible exact H | (rw [hy233]; exact H) | exact H
         have Ny233 := qa.mk hy233
         clear hy233
         have H' := qa.mk H
         clear H
         try go_wp2
         have n0_ := qa.mk (Kd.S_drew HO_5.out)
         have n1_ := qa.mk (Kd.qx HO_7.out)
         have n2_ := qa.mk (qe HB.out)
         clear HO_5
         clear HO_7
         clear HB
         have HO_5 := n0_
         have HO_7 := n1_
         have HB := n2_
         clear n0_ n1_ n2_
         obtain ⟨Ao13, co13, eo13⟩ := Kd.S_slice HO_5.out
         (first | subst eo13 | (injection eo13 with f1_ f2_ f3_; have f4_ := f1_.symm; have f5_ := f3_.symm; clear f1_ f2_ f3_; subst f4_; subst f5_))
         have p231 : 0 ≤ ((ji6) : Int) := od_
         have q231 : (ji6) < (t225.length : Int) := od_
         obtain ⟨ad231, A231_0, c231_0, e231, hx231_0, hl231_0, hi231_0⟩ := at_L4 (Kd.zd HO_5.out).2.2 (ji6) p231 q231
         cases e231
         obtain ⟨ce231, hce231, hMe231, hcc231⟩ := Kd.S_get HO_5.out [] (ji6) p231 ae_
         obtain ⟨ve231_0, rfl, ge231_0⟩ := hMe231
         have hv231_0 := hcc231 0 _ rfl
         rw [Nat.add_zero, show ((Kd.slice 3 (Kd.int .i64))).sz = 1 from rfl, Nat.mul_one] at hv231_0
         replace hv231_0 := Option.some.inj (hv231_0.symm.trans hx231_0)
         rw [hv231_0] at ge231_0
         have HL231_0 := qa.mk (show Kd.R (Kd.int .i64) 3 _ _ _ _ (rd_L4 t225 (ji6)) from ge231_0)
         clear hv231_0 ge231_0
         clear hcc231 hce231
         have HR231_0 := qa.mk hi231_0
         have HC231_0 := qa.mk hl231_0
         clear hi231_0 hl231_0
         replace p231 := eq_true p231
         replace q231 := eq_true q231
         have p232 : 0 ≤ (0 : Int) := (by omega)
         have q232 : 0 < ((rd_L4 t225 (ji6)).length : Int) := od_
         obtain ⟨ad232, e232, hx232_0⟩ := Kd.zj (by repeat (first | (with_reducible exact HR231_0.out) | (with_reducible refine Kd.zh ?_ _) | (with_reducible refine Kd.zg ?_ _) | (with_reducible refine Kd.zk ?_) | exact HR231_0.out)) 0 p232 q232
         cases e232
         have qi232 : (0 < (rd_L4 t225 (ji6)).length) = True := eq_true (by omega)
         (try rw [show ((0 : Int)).toNat = 0 from rfl] at hx232_0)
         (try rw [Addr.add_zero'] at hx232_0)
         replace p232 := eq_true p232
         replace q232 := eq_true q232
         refine start_ (n := 31) (S := fun w' => w'.cell? (ad231.add ((ji6)).toNat) = some (.slice (some ad232) (rd_L4 t225 (ji6)).length c231_0) ∧ w'.cell? ad232 = some (.int .i64 (rd (rd_L4 t225 (ji6)) 0))) (ds := []) #[false, false, false, false, false, false, false, false, false, false, false, false, false, false, false, false, false, false, false, false, false, false, false, false, false, false, false, false, false, false, false] a7_ rfl rfl ⟨hx231_0, hx232_0⟩ (fun hHeld => ?_); refine with_tabW spec_poSides.tab8 spec_poSides.bits8 (fun HT_ HW_ => ?_)
         generalize wr.drew = w12 at HO_5 HO_7 HB HL231_0 HR231_0 hx231_0 hx232_0 hHeld ⊢
         refine pu_ 0 23 ?_;refine pu_ 1 24 ?_;refine pu_ 2 25 ?_;refine pu_ 3 26 ?_;refine pt_ 4 27 hHeld ?_ (hy := (by exact Or.inl ⟨(by rfl), (by rintro w' ⟨s0, s1⟩; go_simp; with_reducible rfl)⟩));refine pu_ 5 28 ?_;refine pt_ 6 29 hHeld ?_ (hy := (by exact Or.inl ⟨(by rfl), (by rintro w' ⟨s0, s1⟩; go_simp; with_reducible rfl)⟩));refine pu_ 7 30 ?_;refine pu_ 8 31 ?_;refine pn_ 9 32 ?_;refine pn_ 10 33 ?_;refine pn_ 11 34 ?_;refine pn_ 12 35 ?_;refine pn_ 13 36 ?_;refine pn_ 14 37 ?_;refine pn_ 15 38 ?_;refine pn_ 16 39 ?_;refine pn_ 17 40 ?_;refine pn_ 18 41 ?_;refine pn_ 19 42 ?_;refine pn_ 20 43 ?_;refine pn_ 21 44 ?_;refine pn_ 22 45 ?_;refine pn_ 23 46 ?_;refine pn_ 24 47 ?_;refine pn_ 25 48 ?_;refine pn_ 26 49 ?_;refine pn_ 27 50 ?_;refine pn_ 28 51 ?_;refine pn_ 29 52 ?_;refine pu_ 30 53 ?_
         refine done_ (done_of HT_.out a7_) ?_
         try go_wp2_with (first | ((with_reducible refine gate_builtin (b := .append) (xs := #[.tmp 54, .tmp 56]) rfl ?_); at_builtin; refine Kd.R_append (Kd.int .i64) (w0 := w) w.heap.size rfl (.tmp 54) (.tmp 56) 31 3 (.int .i64 0) 8 rfl Tryd.underlying31 info3 rfl (by decide) (by omega) u7 x7_1 1 [.int .i64 1] (fun _ => True) (fun _ => False) rfl rfl ?aP (fun _ hk => hk.elim) ?aF ?aO ?aB ?aS ?aL ?_; (case aP => exact rfl); (case aB => exact (be0_ HB)); (case aF => exact (fun _ _ => trivial)); (case aO => exact (kr_ HO_7)); (case aS => exact a9_); (case aL => have := LMc11.out; omega); intro v234 w14 ho hb hg hat; rw [← Ny233.out] at ho; replace HO_5 := qa.mk (Kd.S_after (ok := (fun _ => True)) aa_ hg hat); replace HL231_0 := qa.mk (Kd.R_after (ok := (fun k_ => some k_ ≠ (.slice (some ad231) t225.length co13 : Value).ownBlock)) ab_ hg hat); replace HB := qa.mk (hb); have HO235 := qa.mk (ho); clear HO_7; clear ho hb hg hat))
         go_roundg k1
         case measure => have := HK1.out; omega
         case rel => exact ⟨(y233), (1), (ji6), es_, ad_, H', ⟨by have := HK1.out; omega⟩, ⟨by (with_reducible repeat (first | apply Kd.S_alloc | apply Kd.S_drewN | apply Kd.S_drew)); exact Kd.S_mono HO_5.out (fun _ hk => hk.2)⟩, ⟨kr_ HO235⟩, ⟨be0_ HB⟩⟩
        ·cases H
       ·replace H := iD_ H; obtain ⟨c15b0, H⟩ | ⟨c15b0, H⟩ := H
        ·replace H := bX_ H; obtain ⟨t236, A17, H⟩ := H
         replace H := iD_ H; obtain ⟨c18b0, H⟩ | ⟨c18b0, H⟩ := H
         ·replace H := iD_ H; obtain ⟨c19b0, H⟩ | ⟨c19b0, H⟩ := H
          ·replace H := iD_ H; obtain ⟨c20b0, H⟩ | ⟨c20b0, H⟩ := H
           ·replace H := iE_ H; obtain ⟨c21b0, c21b1, H⟩ | ⟨c21, c21b0, c21b1, H⟩ := H
            ·replace H := iC_ H; obtain ⟨c22, H⟩ | ⟨c22, H⟩ := H
             ·have LMc22 := qa.mk c22
              clear c22
              obtain ⟨y241, hy241⟩ : ∃ y_ : List Int, y_ = (x7_1 ++ [0]) := ⟨_, rfl⟩
              replace H : (spec_poSides.l0 k1 a0 t225 y241 0 ji6) = some r := by first | (rw [hy241]; with_reducible exact H) | (have H2_ := (Option.bind_some _ _).symm.trans H; rw [hy241]; with_reducible exact H2_) | (have H2_ := (Option.bind_some _ _).symm.trans H; with_reducible exact H2_) | with_reducible exact H | (rw [hy241]; exact H) | exact H
              have Ny241 := qa.mk hy241
              clear hy241
              have H' := qa.mk H
              clear H
              try go_wp2
              have n0_ := qa.mk (Kd.S_drew HO_5.out)
              have n1_ := qa.mk (Kd.qx HO_7.out)
              have n2_ := qa.mk (qe HB.out)
              clear HO_5
              clear HO_7
              clear HB
              have HO_5 := n0_
              have HO_7 := n1_
              have HB := n2_
              clear n0_ n1_ n2_
              obtain ⟨Ao24, co24, eo24⟩ := Kd.S_slice HO_5.out
              (first | subst eo24 | (injection eo24 with f1_ f2_ f3_; have f4_ := f1_.symm; have f5_ := f3_.symm; clear f1_ f2_ f3_; subst f4_; subst f5_))
              have p231 : 0 ≤ ((ji6) : Int) := od_
              have q231 : (ji6) < (t225.length : Int) := od_
              obtain ⟨ad231, A231_0, c231_0, e231, hx231_0, hl231_0, hi231_0⟩ := at_L4 (Kd.zd HO_5.out).2.2 (ji6) p231 q231
              cases e231
              obtain ⟨ce231, hce231, hMe231, hcc231⟩ := Kd.S_get HO_5.out [] (ji6) p231 ae_
              obtain ⟨ve231_0, rfl, ge231_0⟩ := hMe231
              have hv231_0 := hcc231 0 _ rfl
              rw [Nat.add_zero, show ((Kd.slice 3 (Kd.int .i64))).sz = 1 from rfl, Nat.mul_one] at hv231_0
              replace hv231_0 := Option.some.inj (hv231_0.symm.trans hx231_0)
              rw [hv231_0] at ge231_0
              have HL231_0 := qa.mk (show Kd.R (Kd.int .i64) 3 _ _ _ _ (rd_L4 t225 (ji6)) from ge231_0)
              clear hv231_0 ge231_0
              clear hcc231 hce231
              have HR231_0 := qa.mk hi231_0
              have HC231_0 := qa.mk hl231_0
              clear hi231_0 hl231_0
              replace p231 := eq_true p231
              replace q231 := eq_true q231
              have p232 : 0 ≤ (0 : Int) := (by omega)
              have q232 : 0 < ((rd_L4 t225 (ji6)).length : Int) := od_
              obtain ⟨ad232, e232, hx232_0⟩ := Kd.zj (by repeat (first | (with_reducible exact HR231_0.out) | (with_reducible refine Kd.zh ?_ _) | (with_reducible refine Kd.zg ?_ _) | (with_reducible refine Kd.zk ?_) | exact HR231_0.out)) 0 p232 q232
              cases e232
              have qi232 : (0 < (rd_L4 t225 (ji6)).length) = True := eq_true (by omega)
              (try rw [show ((0 : Int)).toNat = 0 from rfl] at hx232_0)
              (try rw [Addr.add_zero'] at hx232_0)
              replace p232 := eq_true p232
              replace q232 := eq_true q232
              have p16 : 0 ≤ (x9_1 : Int) := od_
              have q16 : x9_1 < (a0.size : Int) := od_
              have hx16 := bt_at a0 x9_1
              replace p16 := eq_true p16
              replace q16 := eq_true q16
              have p237 : 0 ≤ ((ji6) : Int) := od_
              have q237 : (ji6) < (t225.length : Int) := od_
              obtain ⟨ad237, A237_0, c237_0, e237, hx237_0, hl237_0, hi237_0⟩ := at_L4 (Kd.zd HO_5.out).2.2 (ji6) p237 q237
              obtain rfl : ad231 = ad237 := (by injection e237)
              obtain ⟨ce237, hce237, hMe237, hcc237⟩ := Kd.S_get HO_5.out [] (ji6) p237 (by first | exact q237 | exact od_ | (have e_ := (Kd.zd HO_5.out).1; omega))
              obtain ⟨ve237_0, rfl, ge237_0⟩ := hMe237
              have hv237_0 := hcc237 0 _ rfl
              rw [Nat.add_zero, show ((Kd.slice 3 (Kd.int .i64))).sz = 1 from rfl, Nat.mul_one] at hv237_0
              replace hv237_0 := Option.some.inj (hv237_0.symm.trans hx237_0)
              rw [hv237_0] at ge237_0
              have HL237_0 := qa.mk (show Kd.R (Kd.int .i64) 3 _ _ _ _ (rd_L4 t225 (ji6)) from ge237_0)
              clear hv237_0 ge237_0
              clear hcc237 hce237
              have HR237_0 := qa.mk hi237_0
              have HC237_0 := qa.mk hl237_0
              clear hi237_0 hl237_0
              replace p237 := eq_true p237
              replace q237 := eq_true q237
              have ea_ := Option.some.inj (hx231_0.symm.trans hx237_0)
              injection ea_ with ea_ en_ ec_
              subst ea_
              subst ec_
              clear en_
              have p238 : 0 ≤ (0 : Int) := (by omega)
              have q238 : 0 < ((rd_L4 t225 (ji6)).length : Int) := od_
              obtain ⟨ad238, e238, hx238_0⟩ := Kd.zj (by repeat (first | (with_reducible exact HR237_0.out) | (with_reducible refine Kd.zh ?_ _) | (with_reducible refine Kd.zg ?_ _) | (with_reducible refine Kd.zk ?_) | exact HR237_0.out)) 0 p238 q238
              cases e238
              have qi238 : (0 < (rd_L4 t225 (ji6)).length) = True := eq_true (by omega)
              (try rw [show ((0 : Int)).toNat = 0 from rfl] at hx238_0)
              (try rw [Addr.add_zero'] at hx238_0)
              replace p238 := eq_true p238
              replace q238 := eq_true q238
              have p239 : 0 ≤ (x9_1 : Int) := od_
              have q239 : x9_1 < (t225.length : Int) := od_
              obtain ⟨ad239, A239_0, c239_0, e239, hx239_0, hl239_0, hi239_0⟩ := at_L4 (Kd.zd HO_5.out).2.2 x9_1 p239 q239
              obtain rfl : ad231 = ad239 := (by injection e239)
              obtain ⟨ce239, hce239, hMe239, hcc239⟩ := Kd.S_get HO_5.out [] x9_1 p239 (by first | exact q239 | exact od_ | (have e_ := (Kd.zd HO_5.out).1; omega))
              obtain ⟨ve239_0, rfl, ge239_0⟩ := hMe239
              have hv239_0 := hcc239 0 _ rfl
              rw [Nat.add_zero, show ((Kd.slice 3 (Kd.int .i64))).sz = 1 from rfl, Nat.mul_one] at hv239_0
              replace hv239_0 := Option.some.inj (hv239_0.symm.trans hx239_0)
              rw [hv239_0] at ge239_0
              have HL239_0 := qa.mk (show Kd.R (Kd.int .i64) 3 _ _ _ _ (rd_L4 t225 x9_1) from ge239_0)
              clear hv239_0 ge239_0
              clear hcc239 hce239
              have HR239_0 := qa.mk hi239_0
              have HC239_0 := qa.mk hl239_0
              clear hi239_0 hl239_0
              replace p239 := eq_true p239
              replace q239 := eq_true q239
              have p240 : 0 ≤ (x8_1 : Int) := od_
              have q240 : x8_1 < ((rd_L4 t225 x9_1).length : Int) := od_
              obtain ⟨ad240, e240, hx240_0⟩ := Kd.zj (by repeat (first | (with_reducible exact HR239_0.out) | (with_reducible refine Kd.zh ?_ _) | (with_reducible refine Kd.zg ?_ _) | (with_reducible refine Kd.zk ?_) | exact HR239_0.out)) x8_1 p240 q240
              cases e240
              replace p240 := eq_true p240
              replace q240 := eq_true q240
              refine start_ (n := 31) (S := fun w' => w'.cell? (ad231.add ((ji6)).toNat) = some (.slice (some ad232) (rd_L4 t225 (ji6)).length c231_0) ∧ w'.cell? ad232 = some (.int .i64 (rd (rd_L4 t225 (ji6)) 0)) ∧ w'.cell? (ad231.add ((ji6)).toNat) = some (.slice (some ad232) (rd_L4 t225 (ji6)).length c231_0) ∧ w'.cell? ad232 = some (.int .i64 (rd (rd_L4 t225 (ji6)) 0)) ∧ w'.cell? (ad231.add (x9_1).toNat) = some (.slice (some ad240) (rd_L4 t225 x9_1).length c239_0) ∧ w'.cell? (ad240.add (x8_1).toNat) = some (.int .i64 (rd (rd_L4 t225 x9_1) x8_1))) (ds := []) #[false, false, false, false, false, false, false, false, false, false, false, false, false, false, false, false, false, false, false, false, false, false, false, false, false, false, false, false, false, false, false] a7_ rfl rfl ⟨hx231_0, hx232_0, hx237_0, hx238_0, hx239_0, hx240_0⟩ (fun hHeld => ?_); refine with_tabW spec_poSides.tab8 spec_poSides.bits8 (fun HT_ HW_ => ?_)
              generalize wr.drew = w23 at HO_5 HO_7 HB HL231_0 HL237_0 HL239_0 HR231_0 HR237_0 HR239_0 hx231_0 hx232_0 hx237_0 hx238_0 hx239_0 hx240_0 hHeld ⊢
              refine pu_ 0 23 ?_;refine pu_ 1 24 ?_;refine pu_ 2 25 ?_;refine pu_ 3 26 ?_;refine pt_ 4 27 hHeld ?_ (hy := a3_);refine pu_ 5 28 ?_;refine pt_ 6 29 hHeld ?_ (hy := a3_);refine pu_ 7 30 ?_;refine pu_ 8 31 ?_;refine pu_ 9 32 ?_;refine pu_ 10 33 ?_;refine pu_ 12 35 ?_;refine pu_ 14 37 ?_;refine pu_ 15 38 ?_;refine pu_ 16 39 ?_;refine pu_ 17 40 ?_;refine pu_ 22 45 ?_;refine pu_ 23 46 ?_;refine pu_ 24 47 ?_;refine pu_ 26 49 ?_;refine pt_ 11 34 hHeld ?_ (hy := a3_);refine pt_ 18 41 hHeld ?_ (hy := a3_);refine pu_ 19 42 ?_;refine pt_ 20 43 hHeld ?_ (hy := a3_);refine pt_ 25 48 hHeld ?_ (hy := a3_);refine pu_ 27 50 ?_;refine pt_ 28 51 hHeld ?_ (hy := a3_)
              refine on_ 13 36 fun K hK => ?_
              refine goes_ Tryd.func49 a7_ rfl #[.int .u8 (bt a0 x9_1), .int .i64 x8_1, .int .i64 0] (by rfl) rfl rfl al_ ?_
              with_reducible refine (spec_poCross.calls (bt a0 x9_1) x8_1 0 t236 _ A17.out).mono ?_
              rintro e w' ⟨rfl, ⟨nd, rfl⟩⟩
              refine ⟨_, rfl, ?_⟩
              refine hK.out _ _ ⟨hHeld.1, hHeld.2.1, hHeld.2.2.1, hHeld.2.2.2.1, hHeld.2.2.2.2.1, hHeld.2.2.2.2.2⟩ (fun hHeld => ?_)
              clear hK K
              refine no_ ?_
              refine pu_ 21 44 ?_;refine pu_ 29 52 ?_;refine pu_ 30 53 ?_
              refine done_ (done_of HT_.out a7_) ?_
              try go_wp2_with (first | ((with_reducible refine gate_builtin (b := .append) (xs := #[.tmp 54, .tmp 56]) rfl ?_); at_builtin; refine Kd.R_append (Kd.int .i64) (w0 := w) w.heap.size rfl (.tmp 54) (.tmp 56) 31 3 (.int .i64 0) 8 rfl Tryd.underlying31 info3 rfl (by decide) (by omega) u7 x7_1 0 [.int .i64 0] (fun _ => True) (fun _ => False) rfl rfl ?aP (fun _ hk => hk.elim) ?aF ?aO ?aB ?aS ?aL ?_; (case aP => exact rfl); (case aB => exact (be0_ HB)); (case aF => exact (fun _ _ => trivial)); (case aO => exact (kr_ HO_7)); (case aS => exact a9_); (case aL => have := LMc22.out; omega); intro v242 w25 ho hb hg hat; rw [← Ny241.out] at ho; replace HO_5 := qa.mk (Kd.S_after (ok := (fun _ => True)) aa_ hg hat); replace HL231_0 := qa.mk (Kd.R_after (ok := (fun k_ => some k_ ≠ (.slice (some ad231) t225.length co24 : Value).ownBlock)) ab_ hg hat); replace HL237_0 := qa.mk (Kd.R_after (ok := (fun k_ => some k_ ≠ (.slice (some ad231) t225.length co24 : Value).ownBlock)) ah_ hg hat); replace HL239_0 := qa.mk (Kd.R_after (ok := (fun k_ => some k_ ≠ (.slice (some ad231) t225.length co24 : Value).ownBlock)) ag_ hg hat); replace HB := qa.mk (hb); have HO243 := qa.mk (ho); clear HO_7; clear ho hb hg hat))
              go_roundg k1
              case measure => have := HK1.out; omega
              case rel => exact ⟨(y241), (0), (ji6), es_, ad_, H', ⟨by have := HK1.out; omega⟩, ⟨by (with_reducible repeat (first | apply Kd.S_alloc | apply Kd.S_drewN | apply Kd.S_drew)); exact Kd.S_mono HO_5.out (fun _ hk => hk.2)⟩, ⟨kr_ HO243⟩, ⟨be0_ HB⟩⟩
             ·cases H
            ·replace H := iC_ H; obtain ⟨c26, H⟩ | ⟨c26, H⟩ := H
             ·have LMc26 := qa.mk c26
              clear c26
              obtain ⟨y244, hy244⟩ : ∃ y_ : List Int, y_ = (x7_1 ++ [1]) := ⟨_, rfl⟩
              replace H : (spec_poSides.l0 k1 a0 t225 y244 1 ji6) = some r := by first | (rw [hy244]; with_reducible exact H) | (have H2_ := (Option.bind_some _ _).symm.trans H; rw [hy244]; with_reducible exact H2_) | (have H2_ := (Option.bind_some _ _).symm.trans H; with_reducible exact H2_) | with_reducible exact H | (rw [hy244]; exact H) | exact H
              have Ny244 := qa.mk hy244
              clear hy244
              have H' := qa.mk H
              clear H
              try go_wp2
              have n0_ := qa.mk (Kd.S_drew HO_5.out)
              have n1_ := qa.mk (Kd.qx HO_7.out)
              have n2_ := qa.mk (qe HB.out)
              clear HO_5
              clear HO_7
              clear HB
              have HO_5 := n0_
              have HO_7 := n1_
              have HB := n2_
              clear n0_ n1_ n2_
              obtain ⟨Ao28, co28, eo28⟩ := Kd.S_slice HO_5.out
              (first | subst eo28 | (injection eo28 with f1_ f2_ f3_; have f4_ := f1_.symm; have f5_ := f3_.symm; clear f1_ f2_ f3_; subst f4_; subst f5_))
              have p231 : 0 ≤ ((ji6) : Int) := od_
              have q231 : (ji6) < (t225.length : Int) := od_
              obtain ⟨ad231, A231_0, c231_0, e231, hx231_0, hl231_0, hi231_0⟩ := at_L4 (Kd.zd HO_5.out).2.2 (ji6) p231 q231
              cases e231
              obtain ⟨ce231, hce231, hMe231, hcc231⟩ := Kd.S_get HO_5.out [] (ji6) p231 ae_
              obtain ⟨ve231_0, rfl, ge231_0⟩ := hMe231
              have hv231_0 := hcc231 0 _ rfl
              rw [Nat.add_zero, show ((Kd.slice 3 (Kd.int .i64))).sz = 1 from rfl, Nat.mul_one] at hv231_0
              replace hv231_0 := Option.some.inj (hv231_0.symm.trans hx231_0)
              rw [hv231_0] at ge231_0
              have HL231_0 := qa.mk (show Kd.R (Kd.int .i64) 3 _ _ _ _ (rd_L4 t225 (ji6)) from ge231_0)
              clear hv231_0 ge231_0
              clear hcc231 hce231
              have HR231_0 := qa.mk hi231_0
              have HC231_0 := qa.mk hl231_0
              clear hi231_0 hl231_0
              replace p231 := eq_true p231
              replace q231 := eq_true q231
              have p232 : 0 ≤ (0 : Int) := (by omega)
              have q232 : 0 < ((rd_L4 t225 (ji6)).length : Int) := od_
              obtain ⟨ad232, e232, hx232_0⟩ := Kd.zj (by repeat (first | (with_reducible exact HR231_0.out) | (with_reducible refine Kd.zh ?_ _) | (with_reducible refine Kd.zg ?_ _) | (with_reducible refine Kd.zk ?_) | exact HR231_0.out)) 0 p232 q232
              cases e232
              have qi232 : (0 < (rd_L4 t225 (ji6)).length) = True := eq_true (by omega)
              (try rw [show ((0 : Int)).toNat = 0 from rfl] at hx232_0)
              (try rw [Addr.add_zero'] at hx232_0)
              replace p232 := eq_true p232
              replace q232 := eq_true q232
              have p16 : 0 ≤ (x9_1 : Int) := od_
              have q16 : x9_1 < (a0.size : Int) := od_
              have hx16 := bt_at a0 x9_1
              replace p16 := eq_true p16
              replace q16 := eq_true q16
              have p237 : 0 ≤ ((ji6) : Int) := od_
              have q237 : (ji6) < (t225.length : Int) := od_
              obtain ⟨ad237, A237_0, c237_0, e237, hx237_0, hl237_0, hi237_0⟩ := at_L4 (Kd.zd HO_5.out).2.2 (ji6) p237 q237
              obtain rfl : ad231 = ad237 := (by injection e237)
              obtain ⟨ce237, hce237, hMe237, hcc237⟩ := Kd.S_get HO_5.out [] (ji6) p237 (by first | exact q237 | exact od_ | (have e_ := (Kd.zd HO_5.out).1; omega))
              obtain ⟨ve237_0, rfl, ge237_0⟩ := hMe237
              have hv237_0 := hcc237 0 _ rfl
              rw [Nat.add_zero, show ((Kd.slice 3 (Kd.int .i64))).sz = 1 from rfl, Nat.mul_one] at hv237_0
              replace hv237_0 := Option.some.inj (hv237_0.symm.trans hx237_0)
              rw [hv237_0] at ge237_0
              have HL237_0 := qa.mk (show Kd.R (Kd.int .i64) 3 _ _ _ _ (rd_L4 t225 (ji6)) from ge237_0)
              clear hv237_0 ge237_0
              clear hcc237 hce237
              have HR237_0 := qa.mk hi237_0
              have HC237_0 := qa.mk hl237_0
              clear hi237_0 hl237_0
              replace p237 := eq_true p237
              replace q237 := eq_true q237
              have ea_ := Option.some.inj (hx231_0.symm.trans hx237_0)
              injection ea_ with ea_ en_ ec_
              subst ea_
              subst ec_
              clear en_
              have p238 : 0 ≤ (0 : Int) := (by omega)
              have q238 : 0 < ((rd_L4 t225 (ji6)).length : Int) := od_
              obtain ⟨ad232, e238, hx238_0⟩ := Kd.zj (by repeat (first | (with_reducible exact HR237_0.out) | (with_reducible refine Kd.zh ?_ _) | (with_reducible refine Kd.zg ?_ _) | (with_reducible refine Kd.zk ?_) | exact HR237_0.out)) 0 p238 q238
              cases e238
              have qi238 : (0 < (rd_L4 t225 (ji6)).length) = True := eq_true (by omega)
              (try rw [show ((0 : Int)).toNat = 0 from rfl] at hx238_0)
              (try rw [Addr.add_zero'] at hx238_0)
              replace p238 := eq_true p238
              replace q238 := eq_true q238
              have p239 : 0 ≤ (x9_1 : Int) := od_
              have q239 : x9_1 < (t225.length : Int) := od_
              obtain ⟨ad239, A239_0, c239_0, e239, hx239_0, hl239_0, hi239_0⟩ := at_L4 (Kd.zd HO_5.out).2.2 x9_1 p239 q239
              obtain rfl : ad231 = ad239 := (by injection e239)
              obtain ⟨ce239, hce239, hMe239, hcc239⟩ := Kd.S_get HO_5.out [] x9_1 p239 (by first | exact q239 | exact od_ | (have e_ := (Kd.zd HO_5.out).1; omega))
              obtain ⟨ve239_0, rfl, ge239_0⟩ := hMe239
              have hv239_0 := hcc239 0 _ rfl
              rw [Nat.add_zero, show ((Kd.slice 3 (Kd.int .i64))).sz = 1 from rfl, Nat.mul_one] at hv239_0
              replace hv239_0 := Option.some.inj (hv239_0.symm.trans hx239_0)
              rw [hv239_0] at ge239_0
              have HL239_0 := qa.mk (show Kd.R (Kd.int .i64) 3 _ _ _ _ (rd_L4 t225 x9_1) from ge239_0)
              clear hv239_0 ge239_0
              clear hcc239 hce239
              have HR239_0 := qa.mk hi239_0
              have HC239_0 := qa.mk hl239_0
              clear hi239_0 hl239_0
              replace p239 := eq_true p239
              replace q239 := eq_true q239
              have p240 : 0 ≤ (x8_1 : Int) := od_
              have q240 : x8_1 < ((rd_L4 t225 x9_1).length : Int) := od_
              obtain ⟨ad240, e240, hx240_0⟩ := Kd.zj (by repeat (first | (with_reducible exact HR239_0.out) | (with_reducible refine Kd.zh ?_ _) | (with_reducible refine Kd.zg ?_ _) | (with_reducible refine Kd.zk ?_) | exact HR239_0.out)) x8_1 p240 q240
              cases e240
              replace p240 := eq_true p240
              replace q240 := eq_true q240
              refine start_ (n := 31) (S := fun w' => w'.cell? (ad231.add ((ji6)).toNat) = some (.slice (some ad232) (rd_L4 t225 (ji6)).length c231_0) ∧ w'.cell? ad232 = some (.int .i64 (rd (rd_L4 t225 (ji6)) 0)) ∧ w'.cell? (ad231.add ((ji6)).toNat) = some (.slice (some ad232) (rd_L4 t225 (ji6)).length c231_0) ∧ w'.cell? ad232 = some (.int .i64 (rd (rd_L4 t225 (ji6)) 0)) ∧ w'.cell? (ad231.add (x9_1).toNat) = some (.slice (some ad240) (rd_L4 t225 x9_1).length c239_0) ∧ w'.cell? (ad240.add (x8_1).toNat) = some (.int .i64 (rd (rd_L4 t225 x9_1) x8_1))) (ds := []) #[false, false, false, false, false, false, false, false, false, false, false, false, false, false, false, false, false, false, false, false, false, false, false, false, false, false, false, false, false, false, false] a7_ rfl rfl ⟨hx231_0, hx232_0, hx237_0, hx238_0, hx239_0, hx240_0⟩ (fun hHeld => ?_); refine with_tabW spec_poSides.tab8 spec_poSides.bits8 (fun HT_ HW_ => ?_)
              generalize wr.drew = w27 at HO_5 HO_7 HB HL231_0 HL237_0 HL239_0 HR231_0 HR237_0 HR239_0 hx231_0 hx232_0 hx237_0 hx238_0 hx239_0 hx240_0 hHeld ⊢
              refine pu_ 0 23 ?_;refine pu_ 1 24 ?_;refine pu_ 2 25 ?_;refine pu_ 3 26 ?_;refine pt_ 4 27 hHeld ?_ (hy := a3_);refine pu_ 5 28 ?_;refine pt_ 6 29 hHeld ?_ (hy := a3_);refine pu_ 7 30 ?_;refine pu_ 8 31 ?_;refine pu_ 9 32 ?_;refine pu_ 10 33 ?_;refine pu_ 12 35 ?_;refine pu_ 14 37 ?_;refine pu_ 15 38 ?_;refine pu_ 16 39 ?_;refine pu_ 17 40 ?_;refine pu_ 22 45 ?_;refine pu_ 23 46 ?_;refine pu_ 24 47 ?_;refine pu_ 26 49 ?_;refine pt_ 11 34 hHeld ?_ (hy := a3_);refine pt_ 18 41 hHeld ?_ (hy := a3_);refine pu_ 19 42 ?_;refine pt_ 20 43 hHeld ?_ (hy := a3_);refine pt_ 25 48 hHeld ?_ (hy := a3_);refine pu_ 27 50 ?_;refine pt_ 28 51 hHeld ?_ (hy := a3_)
              refine on_ 13 36 fun K hK => ?_
              refine goes_ Tryd.func49 a7_ rfl #[.int .u8 (bt a0 x9_1), .int .i64 x8_1, .int .i64 0] (by rfl) rfl rfl al_ ?_
              with_reducible refine (spec_poCross.calls (bt a0 x9_1) x8_1 0 t236 _ A17.out).mono ?_
              rintro e w' ⟨rfl, ⟨nd, rfl⟩⟩
              refine ⟨_, rfl, ?_⟩
              refine hK.out _ _ ⟨hHeld.1, hHeld.2.1, hHeld.2.2.1, hHeld.2.2.2.1, hHeld.2.2.2.2.1, hHeld.2.2.2.2.2⟩ (fun hHeld => ?_)
              clear hK K
              refine no_ ?_
              refine pu_ 21 44 ?_;refine pu_ 29 52 ?_;refine pu_ 30 53 ?_
              refine done_ (done_of HT_.out a7_) ?_
              try go_wp2_with (first | ((with_reducible refine gate_builtin (b := .append) (xs := #[.tmp 54, .tmp 56]) rfl ?_); at_builtin; refine Kd.R_append (Kd.int .i64) (w0 := w) w.heap.size rfl (.tmp 54) (.tmp 56) 31 3 (.int .i64 0) 8 rfl Tryd.underlying31 info3 rfl (by decide) (by omega) u7 x7_1 1 [.int .i64 1] (fun _ => True) (fun _ => False) rfl rfl ?aP (fun _ hk => hk.elim) ?aF ?aO ?aB ?aS ?aL ?_; (case aP => exact rfl); (case aB => exact (be0_ HB)); (case aF => exact (fun _ _ => trivial)); (case aO => exact (kr_ HO_7)); (case aS => exact a9_); (case aL => have := LMc26.out; omega); intro v245 w29 ho hb hg hat; rw [← Ny244.out] at ho; replace HO_5 := qa.mk (Kd.S_after (ok := (fun _ => True)) aa_ hg hat); replace HL231_0 := qa.mk (Kd.R_after (ok := (fun k_ => some k_ ≠ (.slice (some ad231) t225.length co28 : Value).ownBlock)) ab_ hg hat); replace HL237_0 := qa.mk (Kd.R_after (ok := (fun k_ => some k_ ≠ (.slice (some ad231) t225.length co28 : Value).ownBlock)) ah_ hg hat); replace HL239_0 := qa.mk (Kd.R_after (ok := (fun k_ => some k_ ≠ (.slice (some ad231) t225.length co28 : Value).ownBlock)) ag_ hg hat); replace HB := qa.mk (hb); have HO246 := qa.mk (ho); clear HO_7; clear ho hb hg hat))
              go_roundg k1
              case measure => have := HK1.out; omega
              case rel => exact ⟨(y244), (1), (ji6), es_, ad_, H', ⟨by have := HK1.out; omega⟩, ⟨by (with_reducible repeat (first | apply Kd.S_alloc | apply Kd.S_drewN | apply Kd.S_drew)); exact Kd.S_mono HO_5.out (fun _ hk => hk.2)⟩, ⟨kr_ HO246⟩, ⟨be0_ HB⟩⟩
             ·cases H
           ·cases H
          ·cases H
         ·cases H
        ·cases H
      ·cases H
     ·cases H
    ·cases H
   ·obtain rfl := Option.some.inj H
    go_wp2
    go_ret
    exact ⟨_, er_, kr_ HO_7, be0_ HB⟩
end Go.Proofs.YtpopeedfgenebaaDoor.PFnPostCrosses
