/- Cut by wip/cut.py out of the texts of this claim (printed by the kit's printer, or this session's own): what the row's theorem does not reach is struck. Not trusted: Lean checks it. -/
import Derived.Test.YtpopeedfgenebaaGreatZFnPostDeliversPx17
namespace Go.Proofs.YtpopeedfgenebaaGreat.PFnPostDelivers
open Go.RowKit Go.Proofs.YtpopeedfgenebaaGreatW.PrintWords Go.Proofs.YtpopeedfgenebaaGreatW.PrintLast Go.Proofs.YtpopeedfgenebaaGreatW.PrintMore
attribute [local go_sem] zq zo zx zw zk zj zp zn
set_option linter.unusedVariables false
set_option linter.defProp false
set_option linter.unusedSimpArgs false
structure Bx (A : Prop) (T : Type) : Type where
  a : A
  r : T
def Bx.A1 {A1 : Prop} {T : Type} {R : Prop} (_ : Bx A1 T → R) : Prop := A1
def Bx.A2 {A1 A2 : Prop} {T : Type} {R : Prop} (_ : Bx A1 (Bx A2 T) → R) : Prop := A2
def Bx.A3 {A1 A2 A3 : Prop} {T : Type} {R : Prop} (_ : Bx A1 (Bx A2 (Bx A3 T)) → R) : Prop := A3
def Bx.A4 {A1 A2 A3 A4 : Prop} {T : Type} {R : Prop} (_ : Bx A1 (Bx A2 (Bx A3 (Bx A4 T))) → R) : Prop := A4
def Bx.A5 {A1 A2 A3 A4 A5 : Prop} {T : Type} {R : Prop} (_ : Bx A1 (Bx A2 (Bx A3 (Bx A4 (Bx A5 T)))) → R) : Prop := A5
def Bx.A6 {A1 A2 A3 A4 A5 A6 : Prop} {T : Type} {R : Prop} (_ : Bx A1 (Bx A2 (Bx A3 (Bx A4 (Bx A5 (Bx A6 T))))) → R) : Prop := A6
def Bx.A7 {A1 A2 A3 A4 A5 A6 A7 : Prop} {T : Type} {R : Prop} (_ : Bx A1 (Bx A2 (Bx A3 (Bx A4 (Bx A5 (Bx A6 (Bx A7 T)))))) → R) : Prop := A7
def Bx.A8 {A1 A2 A3 A4 A5 A6 A7 A8 : Prop} {T : Type} {R : Prop} (_ : Bx A1 (Bx A2 (Bx A3 (Bx A4 (Bx A5 (Bx A6 (Bx A7 (Bx A8 T))))))) → R) : Prop := A8
def Bx.A9 {A1 A2 A3 A4 A5 A6 A7 A8 A9 : Prop} {T : Type} {R : Prop} (_ : Bx A1 (Bx A2 (Bx A3 (Bx A4 (Bx A5 (Bx A6 (Bx A7 (Bx A8 (Bx A9 T)))))))) → R) : Prop := A9
def Bx.A10 {A1 A2 A3 A4 A5 A6 A7 A8 A9 A10 : Prop} {T : Type} {R : Prop} (_ : Bx A1 (Bx A2 (Bx A3 (Bx A4 (Bx A5 (Bx A6 (Bx A7 (Bx A8 (Bx A9 (Bx A10 T))))))))) → R) : Prop := A10
def Bx.A11 {A1 A2 A3 A4 A5 A6 A7 A8 A9 A10 A11 : Prop} {T : Type} {R : Prop} (_ : Bx A1 (Bx A2 (Bx A3 (Bx A4 (Bx A5 (Bx A6 (Bx A7 (Bx A8 (Bx A9 (Bx A10 (Bx A11 T)))))))))) → R) : Prop := A11
def Bx.A12 {A1 A2 A3 A4 A5 A6 A7 A8 A9 A10 A11 A12 : Prop} {T : Type} {R : Prop} (_ : Bx A1 (Bx A2 (Bx A3 (Bx A4 (Bx A5 (Bx A6 (Bx A7 (Bx A8 (Bx A9 (Bx A10 (Bx A11 (Bx A12 T))))))))))) → R) : Prop := A12
set_option maxHeartbeats 8000000 in
set_option maxRecDepth 100000 in
def laws_FnPostDelivers.p0 := fun (S_ : Bx _ (Bx _ (Unit))) => (fun (k : Nat) (A0 : Option Addr) (c0 : Nat) (l0 : List Int) (A1 : Option Addr) (c1 : Nat) (l1 : List Int) (r : Bool) (w : World) (hr0 : Kd.C (Kd.int .u8) w A0 l0.length l0) (hc0 : l0.length ≤ c0) (hr1 : Kd.C (Kd.int .u8) w A1 l1.length l1) (hc1 : l1.length ≤ c1) (h : laws_FnPostDelivers.f k l0 l1 = some r) => by
 have hu25 := Tryz.underlying25;have HR0 := qb.mk hr0;have HC0 := qb.mk hc0;clear hr0 hc0;have HR1 := qb.mk hr1;have HC1 := qb.mk hc1;clear hr1 hc1;have HB := qb.mk (Below.refl w.heap.size w);have H := h; clear h; unfold laws_FnPostDelivers.f at H;replace H := bX_ H; obtain ⟨f0, A3, H⟩ := H;replace H := iB_ H; obtain ⟨rfl, H⟩ | ⟨rfl, H⟩ := H
 ·obtain rfl := Option.some.inj H
  go_enter Tryz.func3, Tryz.ntmps3
  revert k A0 c0 l0 A1 c1 l1 w hu25 HR0 HC0 HR1 HC1 HB A3 H
  exact S_.a
 ·replace H := bX_ H; obtain ⟨⟨b2, b3, b4, b5⟩, A5, H⟩ := H; (try dsimp only at H)
  replace H := bX_ H; obtain ⟨⟨b8, b9⟩, A6, H⟩ := H; (try dsimp only at H);replace H := bX_ H; obtain ⟨⟨d0, d1⟩, A7, H⟩ := H; (try dsimp only at H);replace H := bX_ H; obtain ⟨⟨d2, d3⟩, A8, H⟩ := H; (try dsimp only at H);replace H := bX_ H; obtain ⟨⟨d4, d5⟩, A9, H⟩ := H; (try dsimp only at H);replace H := bX_ H; obtain ⟨⟨d6, d7⟩, A10, H⟩ := H; (try dsimp only at H);replace H := bX_ H; obtain ⟨⟨d8, d9⟩, A11, H⟩ := H; (try dsimp only at H);have HC12 := qb.mk H;clear H
  go_enter Tryz.func3, Tryz.ntmps3
  go_upto_region 4 with (first | (refine gL_ 85 Tryz.func4 #[.slice A0 l0.length c0, .slice A1 l1.length c1] ?_; refine (laws_big.calls _ _ l0 _ _ l1 false _ (by repeat (first | exact HR0.out | (with_reducible refine Kd.zu ?_ _) | (with_reducible refine Kd.zt ?_ _) | (with_reducible refine Kd.zz ?_))) HC0.out (by repeat (first | exact HR1.out | (with_reducible refine Kd.zu ?_ _) | (with_reducible refine Kd.zt ?_ _) | (with_reducible refine Kd.zz ?_))) HC1.out A3.out).mono ?_; rintro e w' ⟨rfl, ⟨nd, rfl⟩⟩; refine ⟨_, rfl, ?_⟩) | (refine gL_ 88 Tryz.func5 #[.slice A0 l0.length c0] ?_; refine (spec_DrawRouteNumbers.calls k _ _ l0 b2 b3 b4 b5 _ (by repeat (first | exact HR0.out | (with_reducible refine Kd.zu ?_ _) | (with_reducible refine Kd.zt ?_ _) | (with_reducible refine Kd.zz ?_))) HC0.out A5.out).mono ?_; rintro e w13 ⟨rfl, hb⟩; refine ⟨_, rfl, ?_⟩; replace HB := qb.mk ac_; (try clear hb)) | ((with_reducible refine zc (N := 5) rfl ?_); (try (refine gate_guard (by rfl) ?_; dsimp only)); refine zb ?hg (N := 5) ?hd (cs := #[.int .i64 0, .int .i64 0]) (t := 25) ?hr ?_; (case hd => rfl); (case hg => rfl); (case hr => first | (go_simp; done) | (go_simp; rfl)); intro b1 hg w14 hbox hb; have b0 := qb.mk (hbox); have b6 := qb.mk (a3_); have b7 := qb.mk (a3_); replace HB := qb.mk ac_; clear hb hbox hg; have hcz15_0 := cC_ b0 0; have hcz15_1 := cC_ b0 1; have hfz15_0 := qi b0.out 0; have hfz15_1 := qi b0.out 1))
  (try simp only [Act.put, sA_, sB_, sC_])
  rename_i z2_0 z2_1 z2_2 z2_3
  revert HB hcz15_0 hcz15_1 hfz15_0 hfz15_1 z2_2 z2_3
  revert d1 A7 d2 d3 A8 d4 d5 A9 d6 d7 A10 d8 d9 A11 HC12 z2_0 nd z2_1 w13 b1 w14 b0 b6 b7
  revert k A0 c0 l0 A1 c1 l1 r w hu25 HR0 HC0 HR1 HC1 A3 b2 b3 b4 b5 A5 b8 b9 A6 d0
  exact S_.r.a
 : ∀ (k : Nat) (A0 : Option Addr) (c0 : Nat) (l0 : List Int) (A1 : Option Addr) (c1 : Nat) (l1 : List Int) (r : Bool) (w : World) (hr0 : Kd.C (Kd.int .u8) w A0 l0.length l0) (hc0 : l0.length ≤ c0) (hr1 : Kd.C (Kd.int .u8) w A1 l1.length l1) (hc1 : l1.length ≤ c1) (h : laws_FnPostDelivers.f k l0 l1 = some r), Calls Tryz.prog 3 #[.slice A0 l0.length c0, .slice A1 l1.length c1] w fun e w' => e = .returned (.bool r) ∧ Below w.heap.size w w')
set_option maxHeartbeats 8000000 in
set_option maxRecDepth 100000 in
def laws_FnPostDelivers.p2 := fun (S_ : Bx _ (Unit)) => (by
 unfold Bx.A2
 intro k A0 c0 l0 A1 c1 l1 r w hu25 HR0 HC0 HR1 HC1 A3 t437 t438 t439 t440 A5 t442 t445 A6 t446 t449 A7 t450 t453 A8 t454 t457 A9 t458 t459 A10 t460 t461 A11 HC12 z2_0 nd z2_1 w13 gb441 w14 BK441 GW441 GE441 HB hcz15_0 hcz15_1 hfz15_0 hfz15_1 z2_2 z2_3
 go_upto_region 7 with (first | (refine gL_ 96 Tryz.func6 #[.agg #[.int .i64 t437, .int .i64 t438], .string t439, .int .i64 t440] ?_; refine (impl_RouteNumbers.calls k t437 t438 t439 t440 t442 t445 _ A6.out).mono ?_; rintro e w16 ⟨v443, rfl, ho0, hb⟩; refine ⟨_, rfl, ?_⟩; have HO444 := qb.mk (Kd.R_lower ho0 (qn (be1_ HB GE441))); replace BK441 := qb.mk (qw (g := gb441) (o := .cells #[.int .i64 t437, .int .i64 t438] 25 (0, 0)) (by (with_reducible repeat (first | refine qh ?_ _ | refine qj ?_ | refine qg ?_ _)); refine zr (cs := #[.int .i64 t437, .int .i64 0]) ?_ 1 _ rfl; (with_reducible repeat (first | refine qh ?_ _ | refine qj ?_ | refine qg ?_ _)); refine zr (cs := #[.int .i64 0, .int .i64 0]) ?_ 0 _ rfl; (with_reducible repeat (first | refine qh ?_ _ | refine qj ?_ | refine qg ?_ _)); exact BK441.out) hb); replace HB := qb.mk (qo (be1_ HB GE441) hb); (try clear hb ho0); have hcz17_0 := cC_ BK441 0; have hcz17_1 := cC_ BK441 1; have hfz17_0 := qi BK441.out 0; have hfz17_1 := qi BK441.out 1) | (refine gL_ 103 Tryz.func7 #[.agg #[.int .i64 t437, .int .i64 t438], .string t439, .int .i64 t440] ?_; refine (spec_RouteNumbers.calls k t437 t438 t439 t440 t446 t449 _ A7.out).mono ?_; rintro e w18 ⟨v447, rfl, ho0, hb⟩; refine ⟨_, rfl, ?_⟩; have HO448 := qb.mk (Kd.R_lower (Kd.R_new' ho0 (Kd.R_lt (kr_ HO444))) (qn (be1_ HB GE441))); replace HO444 := qb.mk (Kd.R_elder' (kr_ HO444) c9_ hb); replace BK441 := qb.mk (qw (g := gb441) (o := .cells #[.int .i64 t437, .int .i64 t438] 25 (0, 0)) (bk_ BK441) hb); replace HB := qb.mk (qo (be1_ HB GE441) hb); (try clear hb ho0); have hcz19_0 := cC_ BK441 0; have hcz19_1 := cC_ BK441 1; have hfz19_0 := qi BK441.out 0; have hfz19_1 := qi BK441.out 1) | (refine gL_ 109 Tryz.func8 #[.agg #[.int .i64 t437, .int .i64 t438], .string t439] ?_; refine (impl_NumbersOf.calls k t437 t438 t439 t450 t453 _ A8.out).mono ?_; rintro e w20 ⟨v451, rfl, ho0, hb⟩; refine ⟨_, rfl, ?_⟩; have HO452 := qb.mk (Kd.R_lower (Kd.R_new' (Kd.R_new' ho0 (Kd.R_lt (kr_ HO444))) (Kd.R_lt (kr_ HO448))) (qn (be1_ HB GE441))); replace HO444 := qb.mk (Kd.R_elder' (kr_ HO444) c9_ hb); replace HO448 := qb.mk (Kd.R_elder' (kr_ HO448) c9_ hb); replace BK441 := qb.mk (qw (g := gb441) (o := .cells #[.int .i64 t437, .int .i64 t438] 25 (0, 0)) (bk_ BK441) hb); replace HB := qb.mk (qo (be1_ HB GE441) hb); (try clear hb ho0); have hcz21_0 := cC_ BK441 0; have hcz21_1 := cC_ BK441 1; have hfz21_0 := qi BK441.out 0; have hfz21_1 := qi BK441.out 1))
 (try simp only [Act.put, sA_, sB_, sC_])
 rename_i z3_0 z3_1
 revert hfz21_0 hfz21_1 z3_0 z3_1
 revert hcz15_1 hfz15_0 hfz15_1 w16 v443 hcz17_0 hcz17_1 hfz17_0 hfz17_1 w18 v447 hcz19_0 hcz19_1 hfz19_0 hfz19_1 w20 v451 HO452 HO444 HO448 BK441 HB hcz21_0 hcz21_1
 revert t449 A7 t450 t453 A8 t454 t457 A9 t458 t459 A10 t460 t461 A11 HC12 z2_0 nd z2_1 w13 gb441 w14 GW441 GE441 hcz15_0
 revert k A0 c0 l0 A1 c1 l1 r w hu25 HR0 HC0 HR1 HC1 A3 t437 t438 t439 t440 A5 t442 t445 A6 t446
 exact S_.a
 : Bx.A2 laws_FnPostDelivers.p0)
set_option maxHeartbeats 8000000 in
set_option maxRecDepth 100000 in
def laws_FnPostDelivers.p3 := fun (S_ : Bx _ (Bx _ (Unit))) => (by
 unfold Bx.A1
 intro k A0 c0 l0 A1 c1 l1 r w hu25 HR0 HC0 HR1 HC1 A3 b4 b5 b0 f1 A5 b9 d4 A6 f2 f3 A7 d0 d5 A8 d6 d7 A9 d1 d8 A10 d9 f0 A11 HC12 z2_0 nd z2_1 w13 b6 w14 d2 b7 hcz15_0 hcz15_1 hfz15_0 hfz15_1 w16 v443 hcz17_0 hcz17_1 hfz17_0 hfz17_1 w18 v447 hcz19_0 hcz19_1 hfz19_0 hfz19_1 w20 v451 b1 b2 b3 b8 HB hcz21_0 hcz21_1 hfz21_0 hfz21_1 z3_0 z3_1
 go_upto_region 10 with (first | (refine gL_ 115 Tryz.func9 #[.agg #[.int .i64 b4, .int .i64 b5], .string b0] ?_; refine (spec_NumbersOf.calls k b4 b5 b0 d6 d7 _ A9.out).mono ?_; rintro e w22 ⟨v455, rfl, ho0, hb⟩; refine ⟨_, rfl, ?_⟩; have d3 := qb.mk (Kd.R_lower (Kd.R_new' (Kd.R_new' (Kd.R_new' ho0 (Kd.R_lt (kr_ b2))) (Kd.R_lt (kr_ b3))) (Kd.R_lt (kr_ b1))) (qn (be1_ HB b7))); replace b2 := qb.mk (Kd.R_elder' (kr_ b2) c9_ hb); replace b3 := qb.mk (Kd.R_elder' (kr_ b3) c9_ hb); replace b1 := qb.mk (Kd.R_elder' (kr_ b1) c9_ hb); replace b8 := qb.mk (qw (g := b6) (o := .cells #[.int .i64 b4, .int .i64 b5] 25 (0, 0)) (bk_ b8) hb); replace HB := qb.mk (qo (be1_ HB b7) hb); (try clear hb ho0)) | (refine gL_ 120 Tryz.func10 #[.string b0] ?_; refine (impl_CountDelivered.calls k b0 d1 d8 _ A10.out).mono ?_; rintro e w' ⟨rfl, ⟨nd, rfl⟩⟩; refine ⟨_, rfl, ?_⟩) | (refine gL_ 125 Tryz.func11 #[.string b0] ?_; refine (spec_CountDelivered.calls k b0 d9 f0 _ A11.out).mono ?_; rintro e w' ⟨rfl, ⟨nd, rfl⟩⟩; refine ⟨_, rfl, ?_⟩))
 (try simp only [Act.put, sA_, sB_, sC_])
 go_cut [171] (fun v171 wc => ∃ (kq : Nat) (x171_11 : Bool), v171 = .bool x171_11 ∧ qb (laws_FnPostDelivers.j0 kq l1 b0 b9 d4 d0 d5 d1 x171_11 b4 b5 = some r) ∧ qb (kq ≤ k) ∧ qb (Kd.R (Kd.int .i64) 3 wc w.heap.size (fun k_ => some k_ ≠ (v451 : Value).ownBlock) v443 b9) ∧ qb (Kd.R (Kd.int .i64) 3 wc w.heap.size (fun k_ => some k_ ≠ (v443 : Value).ownBlock) v451 d0) ∧ qb (wc.heap[b6]? = some (.cells #[.int .i64 b4, .int .i64 b5] 25 (0, 0))) ∧ qb (Below w.heap.size w wc))
 case first =>
  rename_i z4_0 z4_1 z4_2 z4_3 z4_4 z4_5 z4_6 z4_7 z4_8 z4_9
  revert b2 b3 b1 b8 HB z4_1 nd z4_2 z4_3 z4_4 z4_5 z4_6 z4_7 z4_8 z4_9
  revert hcz15_1 hfz15_0 hfz15_1 w16 v443 hcz17_0 hcz17_1 hfz17_0 hfz17_1 w18 v447 hcz19_0 hcz19_1 hfz19_0 hfz19_1 w20 v451 hcz21_0 hcz21_1 hfz21_0 hfz21_1 w22 v455 d3
  revert f3 A7 d0 d5 A8 d6 d7 A9 d1 d8 A10 d9 f0 A11 HC12 z2_0 z4_0 z2_1 w13 b6 w14 d2 b7 hcz15_0
  revert k A0 c0 l0 A1 c1 l1 r w hu25 HR0 HC0 HR1 HC1 A3 b4 b5 b0 f1 A5 b9 d4 A6 f2
  exact S_.a
 case rest =>
  rename_i z8_0 z8_1 z8_2 z8_3 z8_4 z8_5
  revert hcut
  revert u578 u579 u580 u581 u582 u583 u584 u585 u586 u587 u588 u589 u590 u591 u592 u593 u594 u595 u596 u597 u598 u599 u600 u601
  revert u554 u555 u556 u557 u558 u559 u560 u561 u562 u563 u564 u565 u566 u567 u568 u569 u570 u571 u572 u573 u574 u575 u576 u577
  revert u530 u531 u532 u533 u534 u535 u536 u537 u538 u539 u540 u541 u542 u543 u544 u545 u546 u547 u548 u549 u550 u551 u552 u553
  revert u506 u507 u508 u509 u510 u511 u512 u513 u514 u515 u516 u517 u518 u519 u520 u521 u522 u523 u524 u525 u526 u527 u528 u529
  revert u482 u483 u484 u485 u486 u487 u488 u489 u490 u491 u492 u493 u494 u495 u496 u497 u498 u499 u500 u501 u502 u503 u504 u505
  revert u458 u459 u460 u461 u462 u463 u464 u465 u466 u467 u468 u469 u470 u471 u472 u473 u474 u475 u476 u477 u478 u479 u480 u481
  revert u434 u435 u436 u437 u438 u439 u440 u441 u442 u443 u444 u445 u446 u447 u448 u449 u450 u451 u452 u453 u454 u455 u456 u457
  revert u410 u411 u412 u413 u414 u415 u416 u417 u418 u419 u420 u421 u422 u423 u424 u425 u426 u427 u428 u429 u430 u431 u432 u433
  revert u386 u387 u388 u389 u390 u391 u392 u393 u394 u395 u396 u397 u398 u399 u400 u401 u402 u403 u404 u405 u406 u407 u408 u409
  revert u362 u363 u364 u365 u366 u367 u368 u369 u370 u371 u372 u373 u374 u375 u376 u377 u378 u379 u380 u381 u382 u383 u384 u385
  revert u338 u339 u340 u341 u342 u343 u344 u345 u346 u347 u348 u349 u350 u351 u352 u353 u354 u355 u356 u357 u358 u359 u360 u361
  revert u314 u315 u316 u317 u318 u319 u320 u321 u322 u323 u324 u325 u326 u327 u328 u329 u330 u331 u332 u333 u334 u335 u336 u337
  revert u290 u291 u292 u293 u294 u295 u296 u297 u298 u299 u300 u301 u302 u303 u304 u305 u306 u307 u308 u309 u310 u311 u312 u313
  revert u266 u267 u268 u269 u270 u271 u272 u273 u274 u275 u276 u277 u278 u279 u280 u281 u282 u283 u284 u285 u286 u287 u288 u289
  revert u242 u243 u244 u245 u246 u247 u248 u249 u250 u251 u252 u253 u254 u255 u256 u257 u258 u259 u260 u261 u262 u263 u264 u265
  revert u218 u219 u220 u221 u222 u223 u224 u225 u226 u227 u228 u229 u230 u231 u232 u233 u234 u235 u236 u237 u238 u239 u240 u241
  revert u191 u192 u193 u194 u195 u196 u197 u198 u199 u200 u201 u202 u206 u207 u208 u209 u210 u211 u212 u213 u214 u215 u216 u217
  revert u167 u168 u169 u170 u171 u172 u173 u174 u175 u176 u177 u178 u179 u180 u181 u182 u183 u184 u185 u186 u187 u188 u189 u190
  revert u143 u144 u145 u146 u147 u148 u149 u150 u151 u152 u153 u154 u155 u156 u157 u158 u159 u160 u161 u162 u163 u164 u165 u166
  revert u119 u120 u121 u122 u123 u124 u125 u126 u127 u128 u129 u130 u131 u132 u133 u134 u135 u136 u137 u138 u139 u140 u141 u142
  revert u95 u96 u97 u98 u99 u100 u101 u102 u103 u104 u105 u106 u107 u108 u109 u110 u111 u112 u113 u114 u115 u116 u117 u118
  revert b2 b3 b1 b8 HB z8_1 nd z8_2 z8_3 z8_4 z8_5 wc u83 u84 u85 u86 u87 u88 u89 u90 u91 u92 u93 u94
  revert hcz15_1 hfz15_0 hfz15_1 w16 v443 hcz17_0 hcz17_1 hfz17_0 hfz17_1 w18 v447 hcz19_0 hcz19_1 hfz19_0 hfz19_1 w20 v451 hcz21_0 hcz21_1 hfz21_0 hfz21_1 w22 v455 d3
  revert f3 A7 d0 d5 A8 d6 d7 A9 d1 d8 A10 d9 f0 A11 HC12 z2_0 z8_0 z2_1 w13 b6 w14 d2 b7 hcz15_0
  revert k A0 c0 l0 A1 c1 l1 r w hu25 HR0 HC0 HR1 HC1 A3 b4 b5 b0 f1 A5 b9 d4 A6 f2
  exact S_.r.a
 : Bx.A1 laws_FnPostDelivers.p2)
set_option maxHeartbeats 8000000 in
set_option maxRecDepth 100000 in
def laws_FnPostDelivers.p4 := fun (S_ : Bx _ (Bx _ (Bx _ (Unit)))) => (by
 unfold Bx.A1
 intro k A0 c0 l0 A1 c1 l1 r w hu25 HR0 HC0 HR1 HC1 A3 d3 d4 d5 d6 A5 d7 d8 A6 d9 b2 A7 f0 d2 A8 f1 b3 A9 f2 b4 A10 f3 b5 A11 HC12 z2_0 z4_0 z2_1 w13 b6 w14 b7 b8 hcz15_0 hcz15_1 hfz15_0 hfz15_1 w16 v443 hcz17_0 hcz17_1 hfz17_0 hfz17_1 w18 v447 hcz19_0 hcz19_1 hfz19_0 hfz19_1 w20 v451 hcz21_0 hcz21_1 hfz21_0 hfz21_1 w22 v455 b9 b0 b1 d0 d1 HB z4_1 nd z4_2 z4_3 z4_4 z4_5 z4_6 z4_7 z4_8 z4_9
 have H := HC12.out;clear HC12;replace H := iC_ H; obtain ⟨c23, H⟩ | ⟨c23, H⟩ := H
 ·exact absurd H b8_
 ·have c23b0 : (d8 != b2) = false := by simpa using c23
  (try (have c23b1 : decide (d8 = b2) = true := by simpa using c23))
  (try (have c23b2 : (d8 == b2) = true := by simpa using c23))
  clear c23
  (first | rw [c23b0] | (simp only [i64_w, i32_w]; rw [c23b0]) | skip)
  replace H := bX_ H; obtain ⟨f4, A24, H⟩ := H
  by_cases c25 : f4 = true
  ·subst c25
   rw [if_pos rfl] at H;replace H := iC_ H; obtain ⟨c26, H⟩ | ⟨c26, H⟩ := H
   ·exact absurd H b8_
   ·have c26b0 : (d2 != b3) = false := by simpa using c26
    (try (have c26b1 : decide (d2 = b3) = true := by simpa using c26))
    (try (have c26b2 : (d2 == b3) = true := by simpa using c26))
    clear c26;replace H := bX_ H; obtain ⟨f5, A29, H⟩ := H
    by_cases c30 : f5 = true
    ·subst c30
     rw [if_pos rfl] at H;replace H := iC_ H; obtain ⟨c31, H⟩ | ⟨c31, H⟩ := H
     ·exact absurd H b8_
     ·have c31b0 : (b4 != b5) = false := by simpa using c31
      (try (have c31b1 : decide (b4 = b5) = true := by simpa using c31))
      (try (have c31b2 : (b4 == b5) = true := by simpa using c31))
      clear c31;replace H := iE_ H; obtain ⟨c36b0, c36b1, H⟩ | ⟨c36, c36b0, c36b1, H⟩ := H
      ·replace H := iB_ H; obtain ⟨rfl, H⟩ | ⟨rfl, H⟩ := H
       ·by_cases c38 : d2 = true
        ·subst c38
         rw [if_pos rfl] at H;have H' := qb.mk H;clear H;obtain ⟨Ao39, co39, eo39⟩ := Kd.ja b0.out;subst eo39;obtain ⟨Ao40, co40, eo40⟩ := Kd.ja b1.out;subst eo40
         revert b0 b1 d0 z4_8
         revert z4_6 z4_7 z4_9 A24 A29 c31b0 c31b1 c31b2 c36b0 c36b1 A6 c23b0 c23b1 c23b2 A8 c26b0 c26b1 c26b2 H' Ao39 co39 Ao40 co40 b9
         revert hcz17_1 hfz17_0 hfz17_1 w18 hcz19_0 hcz19_1 hfz19_0 hfz19_1 w20 v451 hcz21_0 hcz21_1 hfz21_0 hfz21_1 w22 v455 d1 HB z4_1 nd z4_2 z4_3 z4_4 z4_5
         revert f0 f1 b3 A9 f2 b4 A10 f3 b5 A11 z2_0 z4_0 z2_1 w13 b6 w14 b7 b8 hcz15_0 hcz15_1 hfz15_0 hfz15_1 w16 hcz17_0
         revert k A0 c0 l0 A1 c1 l1 r w hu25 HR0 HC0 HR1 HC1 A3 d3 d4 d5 d6 A5 d7 d9 b2 A7
         exact S_.a
        ·rw [if_neg c38] at H
         exact absurd H b8_
       ·replace H := iB_ H; obtain ⟨rfl, H⟩ | ⟨rfl, H⟩ := H
        ·have H' := qb.mk H
         clear H;obtain ⟨Ao48, co48, eo48⟩ := Kd.ja b0.out;subst eo48;obtain ⟨Ao49, co49, eo49⟩ := Kd.ja b1.out;subst eo49
         revert b0 b1 d0 z4_8
         revert z4_6 z4_7 z4_9 A24 A29 c31b0 c31b1 c31b2 c36b0 c36b1 A6 c23b0 c23b1 c23b2 A8 c26b0 c26b1 c26b2 H' Ao48 co48 Ao49 co49 b9
         revert hcz17_1 hfz17_0 hfz17_1 w18 hcz19_0 hcz19_1 hfz19_0 hfz19_1 w20 v451 hcz21_0 hcz21_1 hfz21_0 hfz21_1 w22 v455 d1 HB z4_1 nd z4_2 z4_3 z4_4 z4_5
         revert f0 f1 b3 A9 f2 b4 A10 f3 b5 A11 z2_0 z4_0 z2_1 w13 b6 w14 b7 b8 hcz15_0 hcz15_1 hfz15_0 hfz15_1 w16 hcz17_0
         revert k A0 c0 l0 A1 c1 l1 r w hu25 HR0 HC0 HR1 HC1 A3 d3 d4 d5 d6 A5 d7 d9 b2 A7
         exact S_.r.a
        ·have H' := qb.mk H
         clear H;obtain ⟨Ao52, co52, eo52⟩ := Kd.ja b0.out;subst eo52;obtain ⟨Ao53, co53, eo53⟩ := Kd.ja b1.out;subst eo53
         revert b0 b1 d0 z4_8
         revert z4_6 z4_7 z4_9 A24 A29 c31b0 c31b1 c31b2 c36b0 c36b1 A6 c23b0 c23b1 c23b2 A8 c26b0 c26b1 c26b2 H' Ao52 co52 Ao53 co53 b9
         revert hcz17_1 hfz17_0 hfz17_1 w18 hcz19_0 hcz19_1 hfz19_0 hfz19_1 w20 v451 hcz21_0 hcz21_1 hfz21_0 hfz21_1 w22 v455 d1 HB z4_1 nd z4_2 z4_3 z4_4 z4_5
         revert f0 f1 b3 A9 f2 b4 A10 f3 b5 A11 z2_0 z4_0 z2_1 w13 b6 w14 b7 b8 hcz15_0 hcz15_1 hfz15_0 hfz15_1 w16 hcz17_0
         revert k A0 c0 l0 A1 c1 l1 r w hu25 HR0 HC0 HR1 HC1 A3 d3 d4 d5 d6 A5 d7 d9 b2 A7
         exact S_.r.r.a
      ·exact absurd H b8_
    ·rw [if_neg c30] at H
     exact absurd H b8_
  ·rw [if_neg c25] at H
   exact absurd H b8_
 : Bx.A1 laws_FnPostDelivers.p3)
set_option maxHeartbeats 8000000 in
set_option maxRecDepth 100000 in
def laws_FnPostDelivers.p8 := fun (S_ : Bx _ (Bx _ (Unit))) => (by
 unfold Bx.A2
 intro k A0 c0 l0 A1 c1 l1 r w hu25 HR0 HC0 HR1 HC1 A3 b2 b3 d4 d5 A5 b4 d3 A6 d6 d7 A7 b5 d8 A8 d9 f0 A9 f1 f2 A10 f3 f4 A11 HC12 z2_0 z8_0 z2_1 w13 b0 w14 b6 b7 hcz15_0 hcz15_1 hfz15_0 hfz15_1 w16 v443 hcz17_0 hcz17_1 hfz17_0 hfz17_1 w18 v447 hcz19_0 hcz19_1 hfz19_0 hfz19_1 w20 v451 hcz21_0 hcz21_1 hfz21_0 hfz21_1 w22 v455 b8 b9 d0 d1 b1 HB z8_1 nd z8_2 z8_3 z8_4 z8_5 wc u83 u84 u85 u86 u87 u88 u89 u90 u91 u92 u93 u94 u95 u96 u97 u98 u99 u100 u101 u102 u103 u104 u105 u106 u107 u108 u109 u110 u111 u112 u113 u114 u115 u116 u117 u118 u119 u120 u121 u122 u123 u124 u125 u126 u127 u128 u129 u130 u131 u132 u133 u134 u135 u136 u137 u138 u139 u140 u141 u142 u143 u144 u145 u146 u147 u148 u149 u150 u151 u152 u153 u154 u155 u156 u157 u158 u159 u160 u161 u162 u163 u164 u165 u166 u167 u168 u169 u170 u171 u172 u173 u174 u175 u176 u177 u178 u179 u180 u181 u182 u183 u184 u185 u186 u187 u188 u189 u190 u191 u192 u193 u194 u195 u196 u197 u198 u199 u200 u201 u202 u206 u207 u208 u209 u210 u211 u212 u213 u214 u215 u216 u217 u218 u219 u220 u221 u222 u223 u224 u225 u226 u227 u228 u229 u230 u231 u232 u233 u234 u235 u236 u237 u238 u239 u240 u241 u242 u243 u244 u245 u246 u247 u248 u249 u250 u251 u252 u253 u254 u255 u256 u257 u258 u259 u260 u261 u262 u263 u264 u265 u266 u267 u268 u269 u270 u271 u272 u273 u274 u275 u276 u277 u278 u279 u280 u281 u282 u283 u284 u285 u286 u287 u288 u289 u290 u291 u292 u293 u294 u295 u296 u297 u298 u299 u300 u301 u302 u303 u304 u305 u306 u307 u308 u309 u310 u311 u312 u313 u314 u315 u316 u317 u318 u319 u320 u321 u322 u323 u324 u325 u326 u327 u328 u329 u330 u331 u332 u333 u334 u335 u336 u337 u338 u339 u340 u341 u342 u343 u344 u345 u346 u347 u348 u349 u350 u351 u352 u353 u354 u355 u356 u357 u358 u359 u360 u361 u362 u363 u364 u365 u366 u367 u368 u369 u370 u371 u372 u373 u374 u375 u376 u377 u378 u379 u380 u381 u382 u383 u384 u385 u386 u387 u388 u389 u390 u391 u392 u393 u394 u395 u396 u397 u398 u399 u400 u401 u402 u403 u404 u405 u406 u407 u408 u409 u410 u411 u412 u413 u414 u415 u416 u417 u418 u419 u420 u421 u422 u423 u424 u425 u426 u427 u428 u429 u430 u431 u432 u433 u434 u435 u436 u437 u438 u439 u440 u441 u442 u443 u444 u445 u446 u447 u448 u449 u450 u451 u452 u453 u454 u455 u456 u457 u458 u459 u460 u461 u462 u463 u464 u465 u466 u467 u468 u469 u470 u471 u472 u473 u474 u475 u476 u477 u478 u479 u480 u481 u482 u483 u484 u485 u486 u487 u488 u489 u490 u491 u492 u493 u494 u495 u496 u497 u498 u499 u500 u501 u502 u503 u504 u505 u506 u507 u508 u509 u510 u511 u512 u513 u514 u515 u516 u517 u518 u519 u520 u521 u522 u523 u524 u525 u526 u527 u528 u529 u530 u531 u532 u533 u534 u535 u536 u537 u538 u539 u540 u541 u542 u543 u544 u545 u546 u547 u548 u549 u550 u551 u552 u553 u554 u555 u556 u557 u558 u559 u560 u561 u562 u563 u564 u565 u566 u567 u568 u569 u570 u571 u572 u573 u574 u575 u576 u577 u578 u579 u580 u581 u582 u583 u584 u585 u586 u587 u588 u589 u590 u591 u592 u593 u594 u595 u596 u597 u598 u599 u600 u601 hcut
 clear HC12;(try clear c1);(try clear hcz15_0);(try clear hcz15_1);(try clear hcz17_0);(try clear hcz17_1);(try clear hcz19_0);(try clear hcz19_1);(try clear hcz21_0);(try clear hcz21_1);(try clear hfz15_0);(try clear hfz15_1);(try clear hfz17_0);(try clear hfz17_1);(try clear hfz19_0);(try clear hfz19_1);(try clear hfz21_0);(try clear hfz21_1);obtain ⟨kq, x171_11, rfl, HA, HJ11, f5, d2, b1, HB⟩ := hcut;cases kq with
 | zero => exact absurd HA.out (by simp [laws_FnPostDelivers.j0])
 | succ kj11 =>
  have H := HA.out;clear HA
  simp only [laws_FnPostDelivers.j0] at H
  by_cases c66 : x171_11 = true
  ·rw [if_pos c66] at H
   cases H
  ·replace c66 := Bool.eq_false_iff.mpr c66
   subst c66;rw [if_neg (show ¬ (false = true) by decide)] at H;have HC67 := qb.mk H;clear H
   go_upto_if 172 with (fail)
   go_cut [] (fun wc => ∃ (kq : Nat), qb (laws_FnPostDelivers.j1 kq l1 b4 d3 b5 b2 b3 = some r) ∧ qb (kq ≤ kj11) ∧ qb (Kd.R (Kd.int .i64) 3 wc w.heap.size (fun k_ => some k_ ≠ (v451 : Value).ownBlock) v443 b4) ∧ qb (Kd.R (Kd.int .i64) 3 wc w.heap.size (fun k_ => some k_ ≠ (v443 : Value).ownBlock) v451 b5) ∧ qb (wc.heap[b0]? = some (.cells #[.int .i64 b2, .int .i64 b3] 25 (0, 0))) ∧ qb (Below w.heap.size w wc))
   case first =>
    rename_i z9_0 z9_1 z9_2 z9_3 z9_4 z9_5 z9_6 z9_7
    revert u600 u601 f5 d2 b1 HB kj11 HJ11 HC67 z9_2 z9_3 z9_4 z9_5 z9_6 z9_7
    revert u576 u577 u578 u579 u580 u581 u582 u583 u584 u585 u586 u587 u588 u589 u590 u591 u592 u593 u594 u595 u596 u597 u598 u599
    revert u552 u553 u554 u555 u556 u557 u558 u559 u560 u561 u562 u563 u564 u565 u566 u567 u568 u569 u570 u571 u572 u573 u574 u575
    revert u528 u529 u530 u531 u532 u533 u534 u535 u536 u537 u538 u539 u540 u541 u542 u543 u544 u545 u546 u547 u548 u549 u550 u551
    revert u504 u505 u506 u507 u508 u509 u510 u511 u512 u513 u514 u515 u516 u517 u518 u519 u520 u521 u522 u523 u524 u525 u526 u527
    revert u480 u481 u482 u483 u484 u485 u486 u487 u488 u489 u490 u491 u492 u493 u494 u495 u496 u497 u498 u499 u500 u501 u502 u503
    revert u456 u457 u458 u459 u460 u461 u462 u463 u464 u465 u466 u467 u468 u469 u470 u471 u472 u473 u474 u475 u476 u477 u478 u479
    revert u432 u433 u434 u435 u436 u437 u438 u439 u440 u441 u442 u443 u444 u445 u446 u447 u448 u449 u450 u451 u452 u453 u454 u455
    revert u408 u409 u410 u411 u412 u413 u414 u415 u416 u417 u418 u419 u420 u421 u422 u423 u424 u425 u426 u427 u428 u429 u430 u431
    revert u384 u385 u386 u387 u388 u389 u390 u391 u392 u393 u394 u395 u396 u397 u398 u399 u400 u401 u402 u403 u404 u405 u406 u407
    revert u360 u361 u362 u363 u364 u365 u366 u367 u368 u369 u370 u371 u372 u373 u374 u375 u376 u377 u378 u379 u380 u381 u382 u383
    revert u336 u337 u338 u339 u340 u341 u342 u343 u344 u345 u346 u347 u348 u349 u350 u351 u352 u353 u354 u355 u356 u357 u358 u359
    revert u312 u313 u314 u315 u316 u317 u318 u319 u320 u321 u322 u323 u324 u325 u326 u327 u328 u329 u330 u331 u332 u333 u334 u335
    revert u288 u289 u290 u291 u292 u293 u294 u295 u296 u297 u298 u299 u300 u301 u302 u303 u304 u305 u306 u307 u308 u309 u310 u311
    revert u264 u265 u266 u267 u268 u269 u270 u271 u272 u273 u274 u275 u276 u277 u278 u279 u280 u281 u282 u283 u284 u285 u286 u287
    revert u240 u241 u242 u243 u244 u245 u246 u247 u248 u249 u250 u251 u252 u253 u254 u255 u256 u257 u258 u259 u260 u261 u262 u263
    revert u216 u217 u218 u219 u220 u221 u222 u223 u224 u225 u226 u227 u228 u229 u230 u231 u232 u233 u234 u235 u236 u237 u238 u239
    revert u189 u190 u191 u192 u193 u194 u195 u196 u197 u198 u199 u200 u201 u202 u206 u207 u208 u209 u210 u211 u212 u213 u214 u215
    revert u164 u165 u166 u167 u168 u169 u170 u172 u173 u174 u175 u176 u177 u178 u179 u180 u181 u182 u183 u184 u185 u186 u187 u188
    revert u140 u141 u142 u143 u144 u145 u146 u147 u148 u149 u150 u151 u152 u153 u154 u155 u156 u157 u158 u159 u160 u161 u162 u163
    revert u116 u117 u118 u119 u120 u121 u122 u123 u124 u125 u126 u127 u128 u129 u130 u131 u132 u133 u134 u135 u136 u137 u138 u139
    revert u92 u93 u94 u95 u96 u97 u98 u99 u100 u101 u102 u103 u104 u105 u106 u107 u108 u109 u110 u111 u112 u113 u114 u115
    revert w18 v447 w20 v451 w22 v455 b8 b9 d0 d1 z9_0 z9_1 z8_1 nd wc u83 u84 u85 u86 u87 u88 u89 u90 u91
    revert d7 A7 b5 d8 A8 d9 f0 A9 f1 f2 A10 f3 f4 A11 z2_0 z8_0 z2_1 w13 b0 w14 b6 b7 w16 v443
    revert k A0 c0 l0 A1 c1 l1 r w hu25 HR0 HC0 HR1 HC1 A3 b2 b3 d4 d5 A5 b4 d3 A6 d6
    exact S_.a
   case rest =>
    rename_i z11_0 z11_1 z11_2 _ _ _ _ _ _ _ _ _ _ _ _ _ _ _ _ _ _ _ _ _ _ _ _ _ _ _ _ _ _ _ _ _ _ _ _ _ _ _ _ _ _ _ _ _ _ _ _ _ _ _ _ _ _ _ _ _ _ _ _ _ _ _ _ _ _ _ _ _ _ _ _ _ _ _ _ _ _ _ _ _ _ _ _ _ _ _ _ _ _ _ _ _ _ _ _ _ _ _ _ _ _ _ _ _ _ _ _ _ _ _ _ _ _ _ _ _ _ _ _ _ _ _ _ _ _ _ _ _ _ _ _ _ _ _ _ _ _ _ _ _ _ _ _ _ _ _ _ _ _ _ _ _ _ _ _ _ _ _ _ _ _ _ _ _ _ _ _ _ _ _ _ _ _ _ _ _ _ _ _ _ _ _ _ _ _ _ _ _ _ _ _ _ _ _ _ _ _ _ _ _ _ _ _ _ _ _ _ _ _ _ _ _ _ _ _ _ _ _ _ _ _ _ _ _ _ _ _ _ _ _ _ _ _ _ _ _ _ _ _ _ _ _ _ _ _ _ _ _ _ _ _ _ _ _ _ _ _ _ _ _ _ _ _ _ _ _ _ _ _ _ _ _ _ _ _ _ _ _ _ _ _ _ _ _ _ _ _ _ _ _ _ _ _ _ _ _ _ _ _ _ _ _ _ _ _ _ _ _ _ _ _ _ _ _ _ _ _ _ _ _ _ _ _ _ _ _ _ _ _ _ _ _ _ _ _ _ _ _ _ _ _ _ _ _ _ _ _ _ _ _ _ _ _ _ _ _ _ _ _ _ _ _ _ _ _ _ _ _ _ _ _ _ _ _ _ _ _ _ _ _ _ _ _ _ _ _ _ _ _ _ _ _ _ _ _ _ _ _ _ _ _ _ _ _ _ _ _ _ _ _ _ _ _ _ _ _ _ _ _ _ _ _ _ _ _ _ _ _ _ _ _ _ _ _ _ _ _ _ _ _ _ _ _ _ _ _ _ _ _ _ _ _ _ _ _ _ _ _ _ _ _ _ _ _ _ _ _ _ _ _ _ _ _ _ _ _ _ _ _ _ _ _ _ _ _ _ _ _ _ _ _ _ _ _ _ _ _ _ _ _ _ _ _ _ _ _ _ _ _ _ _ _ _ _ z11_518 z11_519
    revert u586 u587 u588 u589 u590 u591 u592 u593 u594 u595 u596 u597 u598 u599 u600 u601 hcut
    revert u562 u563 u564 u565 u566 u567 u568 u569 u570 u571 u572 u573 u574 u575 u576 u577 u578 u579 u580 u581 u582 u583 u584 u585
    revert u538 u539 u540 u541 u542 u543 u544 u545 u546 u547 u548 u549 u550 u551 u552 u553 u554 u555 u556 u557 u558 u559 u560 u561
    revert u514 u515 u516 u517 u518 u519 u520 u521 u522 u523 u524 u525 u526 u527 u528 u529 u530 u531 u532 u533 u534 u535 u536 u537
    revert u490 u491 u492 u493 u494 u495 u496 u497 u498 u499 u500 u501 u502 u503 u504 u505 u506 u507 u508 u509 u510 u511 u512 u513
    revert u466 u467 u468 u469 u470 u471 u472 u473 u474 u475 u476 u477 u478 u479 u480 u481 u482 u483 u484 u485 u486 u487 u488 u489
    revert u442 u443 u444 u445 u446 u447 u448 u449 u450 u451 u452 u453 u454 u455 u456 u457 u458 u459 u460 u461 u462 u463 u464 u465
    revert u418 u419 u420 u421 u422 u423 u424 u425 u426 u427 u428 u429 u430 u431 u432 u433 u434 u435 u436 u437 u438 u439 u440 u441
    revert u394 u395 u396 u397 u398 u399 u400 u401 u402 u403 u404 u405 u406 u407 u408 u409 u410 u411 u412 u413 u414 u415 u416 u417
    revert u370 u371 u372 u373 u374 u375 u376 u377 u378 u379 u380 u381 u382 u383 u384 u385 u386 u387 u388 u389 u390 u391 u392 u393
    revert u346 u347 u348 u349 u350 u351 u352 u353 u354 u355 u356 u357 u358 u359 u360 u361 u362 u363 u364 u365 u366 u367 u368 u369
    revert u322 u323 u324 u325 u326 u327 u328 u329 u330 u331 u332 u333 u334 u335 u336 u337 u338 u339 u340 u341 u342 u343 u344 u345
    revert u298 u299 u300 u301 u302 u303 u304 u305 u306 u307 u308 u309 u310 u311 u312 u313 u314 u315 u316 u317 u318 u319 u320 u321
    revert u274 u275 u276 u277 u278 u279 u280 u281 u282 u283 u284 u285 u286 u287 u288 u289 u290 u291 u292 u293 u294 u295 u296 u297
    revert u250 u251 u252 u253 u254 u255 u256 u257 u258 u259 u260 u261 u262 u263 u264 u265 u266 u267 u268 u269 u270 u271 u272 u273
    revert u226 u227 u228 u229 u230 u231 u232 u233 u234 u235 u236 u237 u238 u239 u240 u241 u242 u243 u244 u245 u246 u247 u248 u249
    revert u199 u200 u201 u202 u206 u207 u208 u209 u210 u211 u212 u213 u214 u215 u216 u217 u218 u219 u220 u221 u222 u223 u224 u225
    revert u175 u176 u177 u178 u179 u180 u181 u182 u183 u184 u185 u186 u187 u188 u189 u190 u191 u192 u193 u194 u195 u196 u197 u198
    revert u151 u152 u153 u154 u155 u156 u157 u158 u159 u160 u161 u162 u163 u164 u165 u166 u167 u168 u169 u170 u171 u172 u173 u174
    revert u127 u128 u129 u130 u131 u132 u133 u134 u135 u136 u137 u138 u139 u140 u141 u142 u143 u144 u145 u146 u147 u148 u149 u150
    revert u103 u104 u105 u106 u107 u108 u109 u110 u111 u112 u113 u114 u115 u116 u117 u118 u119 u120 u121 u122 u123 u124 u125 u126
    revert wc u4 u20 u21 u83 u84 u85 u86 u87 u88 u89 u90 u91 u92 u93 u94 u95 u96 u97 u98 u99 u100 u101 u102
    revert w18 v447 w20 v451 w22 v455 b8 b9 d0 d1 z11_0 z11_1 z8_1 nd z11_2 f5 d2 b1 HB kj11 HJ11 HC67 z11_518 z11_519
    revert d7 A7 b5 d8 A8 d9 f0 A9 f1 f2 A10 f3 f4 A11 z2_0 z8_0 z2_1 w13 b0 w14 b6 b7 w16 v443
    revert k A0 c0 l0 A1 c1 l1 r w hu25 HR0 HC0 HR1 HC1 A3 b2 b3 d4 d5 A5 b4 d3 A6 d6
    exact S_.r.a
 : Bx.A2 laws_FnPostDelivers.p3)
set_option maxHeartbeats 8000000 in
set_option maxRecDepth 100000 in
def laws_FnPostDelivers.p9 := fun (S_ : Bx _ (Unit)) => (by
 unfold Bx.A1
 intro k A0 c0 l0 A1 c1 l1 r w hu25 HR0 HC0 HR1 HC1 A3 d0 d1 d2 d3 A5 d4 d5 A6 d6 d7 A7 d8 f8 A8 d9 f0 A9 f1 f2 A10 f3 f4 A11 z2_0 z8_0 z2_1 w13 b3 w14 b4 b2 w16 v443 w18 v447 w20 v451 w22 v455 b5 b6 b7 b8 z9_0 z9_1 z8_1 nd wc u83 u84 u85 u86 u87 u88 u89 u90 u91 u92 u93 u94 u95 u96 u97 u98 u99 u100 u101 u102 u103 u104 u105 u106 u107 u108 u109 u110 u111 u112 u113 u114 u115 u116 u117 u118 u119 u120 u121 u122 u123 u124 u125 u126 u127 u128 u129 u130 u131 u132 u133 u134 u135 u136 u137 u138 u139 u140 u141 u142 u143 u144 u145 u146 u147 u148 u149 u150 u151 u152 u153 u154 u155 u156 u157 u158 u159 u160 u161 u162 u163 u164 u165 u166 u167 u168 u169 u170 u172 u173 u174 u175 u176 u177 u178 u179 u180 u181 u182 u183 u184 u185 u186 u187 u188 u189 u190 u191 u192 u193 u194 u195 u196 u197 u198 u199 u200 u201 u202 u206 u207 u208 u209 u210 u211 u212 u213 u214 u215 u216 u217 u218 u219 u220 u221 u222 u223 u224 u225 u226 u227 u228 u229 u230 u231 u232 u233 u234 u235 u236 u237 u238 u239 u240 u241 u242 u243 u244 u245 u246 u247 u248 u249 u250 u251 u252 u253 u254 u255 u256 u257 u258 u259 u260 u261 u262 u263 u264 u265 u266 u267 u268 u269 u270 u271 u272 u273 u274 u275 u276 u277 u278 u279 u280 u281 u282 u283 u284 u285 u286 u287 u288 u289 u290 u291 u292 u293 u294 u295 u296 u297 u298 u299 u300 u301 u302 u303 u304 u305 u306 u307 u308 u309 u310 u311 u312 u313 u314 u315 u316 u317 u318 u319 u320 u321 u322 u323 u324 u325 u326 u327 u328 u329 u330 u331 u332 u333 u334 u335 u336 u337 u338 u339 u340 u341 u342 u343 u344 u345 u346 u347 u348 u349 u350 u351 u352 u353 u354 u355 u356 u357 u358 u359 u360 u361 u362 u363 u364 u365 u366 u367 u368 u369 u370 u371 u372 u373 u374 u375 u376 u377 u378 u379 u380 u381 u382 u383 u384 u385 u386 u387 u388 u389 u390 u391 u392 u393 u394 u395 u396 u397 u398 u399 u400 u401 u402 u403 u404 u405 u406 u407 u408 u409 u410 u411 u412 u413 u414 u415 u416 u417 u418 u419 u420 u421 u422 u423 u424 u425 u426 u427 u428 u429 u430 u431 u432 u433 u434 u435 u436 u437 u438 u439 u440 u441 u442 u443 u444 u445 u446 u447 u448 u449 u450 u451 u452 u453 u454 u455 u456 u457 u458 u459 u460 u461 u462 u463 u464 u465 u466 u467 u468 u469 u470 u471 u472 u473 u474 u475 u476 u477 u478 u479 u480 u481 u482 u483 u484 u485 u486 u487 u488 u489 u490 u491 u492 u493 u494 u495 u496 u497 u498 u499 u500 u501 u502 u503 u504 u505 u506 u507 u508 u509 u510 u511 u512 u513 u514 u515 u516 u517 u518 u519 u520 u521 u522 u523 u524 u525 u526 u527 u528 u529 u530 u531 u532 u533 u534 u535 u536 u537 u538 u539 u540 u541 u542 u543 u544 u545 u546 u547 u548 u549 u550 u551 u552 u553 u554 u555 u556 u557 u558 u559 u560 u561 u562 u563 u564 u565 u566 u567 u568 u569 u570 u571 u572 u573 u574 u575 u576 u577 u578 u579 u580 u581 u582 u583 u584 u585 u586 u587 u588 u589 u590 u591 u592 u593 u594 u595 u596 u597 u598 u599 u600 u601 b9 b1 b0 HB kj11 HJ11 HC67 z9_2 z9_3 z9_4 z9_5 z9_6 z9_7
 have H := HC67.out;clear HC67;replace H := iB_ H; obtain ⟨rfl, H⟩ | ⟨rfl, H⟩ := H
 ·replace H := bX_ H; obtain ⟨⟨f5, f6⟩, A69, H⟩ := H; (try dsimp only at H)
  replace H := bX_ H; obtain ⟨f7, A70, H⟩ := H
  by_cases c71 : f7 = true
  ·subst c71
   rw [if_pos rfl] at H;replace H := iE_ H; obtain ⟨c72b0, c72b1, H⟩ | ⟨c72, c72b0, c72b1, H⟩ := H
   ·(first | rw [c72b0] | (simp only [i64_w, i32_w]; rw [c72b0]) | skip)
    by_cases c73 : f6 = true
    ·subst c73
     rw [if_pos rfl] at H;replace H := iE_ H; obtain ⟨c74b0, c74b1, H⟩ | ⟨c74, c74b0, c74b1, H⟩ := H
     ·have H' := qb.mk H
      clear H;have hcz75_0 := cC_ b0 0;have hcz75_1 := cC_ b0 1;have hfz75_0 := qi b0.out 0;have hfz75_1 := qi b0.out 1;obtain ⟨Ao76, co76, eo76⟩ := Kd.ja b1.out;subst eo76
      revert b1 z9_6
      revert z9_3 z9_4 z9_5 z9_7 A8 f5 A70 c72b0 c72b1 A69 c74b0 c74b1 H' hcz75_0 hcz75_1 hfz75_0 hfz75_1 Ao76 co76 b5 b6 b7 b8 b9
      revert u583 u584 u585 u586 u587 u588 u589 u590 u591 u592 u593 u594 u595 u596 u597 u598 u599 u600 u601 b0 HB kj11 HJ11 z9_2
      revert u559 u560 u561 u562 u563 u564 u565 u566 u567 u568 u569 u570 u571 u572 u573 u574 u575 u576 u577 u578 u579 u580 u581 u582
      revert u535 u536 u537 u538 u539 u540 u541 u542 u543 u544 u545 u546 u547 u548 u549 u550 u551 u552 u553 u554 u555 u556 u557 u558
      revert u511 u512 u513 u514 u515 u516 u517 u518 u519 u520 u521 u522 u523 u524 u525 u526 u527 u528 u529 u530 u531 u532 u533 u534
      revert u487 u488 u489 u490 u491 u492 u493 u494 u495 u496 u497 u498 u499 u500 u501 u502 u503 u504 u505 u506 u507 u508 u509 u510
      revert u463 u464 u465 u466 u467 u468 u469 u470 u471 u472 u473 u474 u475 u476 u477 u478 u479 u480 u481 u482 u483 u484 u485 u486
      revert u439 u440 u441 u442 u443 u444 u445 u446 u447 u448 u449 u450 u451 u452 u453 u454 u455 u456 u457 u458 u459 u460 u461 u462
      revert u415 u416 u417 u418 u419 u420 u421 u422 u423 u424 u425 u426 u427 u428 u429 u430 u431 u432 u433 u434 u435 u436 u437 u438
      revert u391 u392 u393 u394 u395 u396 u397 u398 u399 u400 u401 u402 u403 u404 u405 u406 u407 u408 u409 u410 u411 u412 u413 u414
      revert u367 u368 u369 u370 u371 u372 u373 u374 u375 u376 u377 u378 u379 u380 u381 u382 u383 u384 u385 u386 u387 u388 u389 u390
      revert u343 u344 u345 u346 u347 u348 u349 u350 u351 u352 u353 u354 u355 u356 u357 u358 u359 u360 u361 u362 u363 u364 u365 u366
      revert u319 u320 u321 u322 u323 u324 u325 u326 u327 u328 u329 u330 u331 u332 u333 u334 u335 u336 u337 u338 u339 u340 u341 u342
      revert u295 u296 u297 u298 u299 u300 u301 u302 u303 u304 u305 u306 u307 u308 u309 u310 u311 u312 u313 u314 u315 u316 u317 u318
      revert u271 u272 u273 u274 u275 u276 u277 u278 u279 u280 u281 u282 u283 u284 u285 u286 u287 u288 u289 u290 u291 u292 u293 u294
      revert u247 u248 u249 u250 u251 u252 u253 u254 u255 u256 u257 u258 u259 u260 u261 u262 u263 u264 u265 u266 u267 u268 u269 u270
      revert u223 u224 u225 u226 u227 u228 u229 u230 u231 u232 u233 u234 u235 u236 u237 u238 u239 u240 u241 u242 u243 u244 u245 u246
      revert u196 u197 u198 u199 u200 u201 u202 u206 u207 u208 u209 u210 u211 u212 u213 u214 u215 u216 u217 u218 u219 u220 u221 u222
      revert u172 u173 u174 u175 u176 u177 u178 u179 u180 u181 u182 u183 u184 u185 u186 u187 u188 u189 u190 u191 u192 u193 u194 u195
      revert u147 u148 u149 u150 u151 u152 u153 u154 u155 u156 u157 u158 u159 u160 u161 u162 u163 u164 u165 u166 u167 u168 u169 u170
      revert u123 u124 u125 u126 u127 u128 u129 u130 u131 u132 u133 u134 u135 u136 u137 u138 u139 u140 u141 u142 u143 u144 u145 u146
      revert u99 u100 u101 u102 u103 u104 u105 u106 u107 u108 u109 u110 u111 u112 u113 u114 u115 u116 u117 u118 u119 u120 u121 u122
      revert w20 w22 v455 z9_0 z9_1 z8_1 nd wc u83 u84 u85 u86 u87 u88 u89 u90 u91 u92 u93 u94 u95 u96 u97 u98
      revert d7 A7 d8 d9 f0 A9 f1 f2 A10 f3 f4 A11 z2_0 z8_0 z2_1 w13 b3 w14 b4 b2 w16 v443 w18 v447
      revert k A0 c0 l0 A1 c1 l1 r w hu25 HR0 HC0 HR1 HC1 A3 d0 d1 d2 d3 A5 d4 d5 A6 d6
      exact S_.a
     ·cases H
    ·rw [if_neg c73] at H
     cases H
   ·cases H
  ·rw [if_neg c71] at H
   cases H
 ·have H' := qb.mk H
  clear H
  go_wp2
  go_meet
  case rel => exact ⟨_, H', ⟨by have := HJ11.out; first | omega | exact Nat.le_refl _⟩, ⟨kr_ b9⟩, ⟨kr_ b1⟩, ⟨bk_ b0⟩, ⟨be1_ HB b2⟩⟩
 : Bx.A1 laws_FnPostDelivers.p8)
end Go.Proofs.YtpopeedfgenebaaGreat.PFnPostDelivers
