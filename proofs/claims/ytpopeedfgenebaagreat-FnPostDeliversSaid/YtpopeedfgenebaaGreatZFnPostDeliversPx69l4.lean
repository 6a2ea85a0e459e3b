/- Cut by wip/cut.py out of the texts of this claim (printed by the kit's printer, or this session's own): what the row's theorem does not reach is struck. Not trusted: Lean checks it. -/
import Derived.Test.YtpopeedfgenebaaGreatZFnPostDeliversPx37
import Derived.Test.YtpopeedfgenebaaGreatZFnPostDeliversPx41
namespace Go.Proofs.YtpopeedfgenebaaGreat.PFnPostDelivers
open Go.RowKit Go.Proofs.YtpopeedfgenebaaGreatW.PrintWords Go.Proofs.YtpopeedfgenebaaGreatW.PrintLast Go.Proofs.YtpopeedfgenebaaGreatW.PrintMore
attribute [local go_sem] zq zo zx zw zk zj zp zn
set_option linter.unusedVariables false
set_option linter.defProp false
set_option linter.unusedSimpArgs false
set_option maxHeartbeats 8000000 in
set_option maxRecDepth 100000 in
theorem laws_FnPostDelivers.p21 : Bx.A1 laws_FnPostDelivers.p20 := by
 unfold Bx.A1
 intro k A0 c0 l0 A1 c1 l1 r w hu25 HR0 HC0 HR1 HC1 A3 f8 f9 g0 g1 A5 g2 g3 A6 g4 g5 A7 g6 g7 A8 g8 g9 A9 m0 m1 A10 m2 m3 A11 z2_0 z8_0 z2_1 w13 d9 w14 f0 d4 w16 v443 w18 v447 w20 v451 w22 v455 f1 f2 f3 f4 z11_0 z11_1 z8_1 z17_0 z11_2 z15_0 z15_1 z15_2 z15_3 kj11 HJ11 z15_4 u20 u21 m4 f5 z16_0 z16_1 kj66 HJ66 wc u4 u22 u23 u24 u25 u26 u27 u83 u84 u85 u86 u87 u88 u89 u90 u91 u92 u93 u94 u95 u96 u97 u98 u99 u100 u101 u102 u103 u104 u105 u106 u107 u108 u109 u110 u111 u112 u113 u114 u115 u116 u117 u118 u119 u120 u121 u122 u123 u124 u125 u126 u127 u128 u129 u130 u131 u132 u133 u134 u135 u136 u137 u138 u139 u140 u141 u142 u143 u144 u145 u146 u147 u148 u149 u150 u151 u152 u153 u154 u155 u156 u157 u158 u159 u160 u161 u162 u163 u164 u165 u166 u167 u168 u169 u170 u171 u172 u173 u174 u175 u176 u177 u178 u179 u180 u181 u182 u183 u184 u185 u186 u187 u188 u189 u190 u191 u192 u193 u194 u195 u196 u197 u198 u199 u200 u201 u202 u203 u204 u205 u206 u207 u208 u209 u210 u211 u212 u213 u214 u215 u216 u217 u218 u219 u220 u221 u222 u223 u224 u225 u226 u227 u228 u229 u230 u231 u232 u233 u234 u235 u236 u237 u238 u239 u240 u241 u242 u243 u244 u245 u246 u247 u248 u249 u250 u251 u252 u253 u254 u255 u256 u257 u258 u259 u260 u261 u262 u263 u264 u265 u266 u267 u268 u269 u270 u271 u272 u273 u274 u275 u276 u277 u278 u279 u280 u281 u282 u283 u284 u285 u286 u287 u288 u289 u290 u291 u292 u293 u294 u295 u296 u297 u298 u299 u300 u301 u302 u303 u304 u305 u306 u307 u308 u309 u310 u311 u312 u313 u314 u315 u316 u317 u318 u319 u320 u321 u322 u323 u324 u325 u326 u327 u328 u329 u330 u331 u332 u333 u334 u335 u336 u337 u338 u339 u340 u341 u342 u343 u344 u345 u346 u347 u348 u349 u350 u351 u352 u353 u354 u355 u356 u357 u358 u359 u360 u361 u362 u363 u364 u365 u366 u367 u368 u369 u370 u371 u372 u373 u374 u375 u376 u377 u378 u379 u380 u381 u382 u383 u384 u385 u386 u387 u388 u389 u390 u391 u392 u393 u394 u395 u396 u397 u398 u399 u400 u401 u402 u403 u404 u405 u406 u407 u408 u409 u410 u411 u412 u413 u414 u415 u416 u417 u418 u419 u420 u421 u422 u423 u424 u425 u426 u427 u428 u429 u430 u431 u432 u433 u434 u435 u436 u437 u438 u439 u440 u441 u442 u443 u444 u445 u446 u447 u448 u449 u450 u451 u452 u453 u454 u455 u456 u457 u458 u459 u460 u461 u462 u463 u464 u465 u466 u467 u468 u469 u470 u471 u472 u473 u474 u475 u476 u477 u478 u479 u480 u481 u482 u483 u484 u485 u486 u487 u488 u489 u490 u491 u492 u493 u494 u495 u496 u497 u498 u499 u500 u501 u502 u503 u504 u505 u506 u507 u508 u509 u510 u511 u512 u513 u514 u515 u516 u517 u518 u519 u520 u521 u522 u523 u524 u525 u526 u527 u528 u529 u530 u531 u532 u533 u534 u535 u536 u537 u538 u539 u540 u541 u542 u543 u544 u545 u546 u547 u548 u549 u550 u551 u552 u553 u554 u555 u556 u557 u558 u559 u560 u561 u562 u563 u564 u565 u566 u567 u568 u569 u570 u571 u572 u573 u574 u575 u576 u577 u578 u579 u580 u581 u582 u583 u584 u585 u586 u587 u588 u589 u590 u591 u592 u593 u594 u595 u596 u597 u598 u599 u600 u601 kj89 HJ89 m5 m6 m7 A122 m8 b2 A123 m9 b3 A124 n0 n1 A125 n2 n3 b4 A126 n4 n5 b5 A127 n6 A128 n7 n8 b6 A129 n9 o0 b7 A130 o1 b0 A131 o2 b8 A132 o3 b1 A133 o4 b9 A134 o5 o6 A135 o7 d0 A136 o8 d1 A137 HC138 w139 f6 w140 f7 d5 d2 d3 hnb141 hnc141 hcz142_0 hcz142_1 hfz142_0 hfz142_1 Ao143 co143 w144 hcz145_0 hcz145_1 hfz145_0 hfz145_1 w146 w147 z18_0 z18_1 w148 z19_0 z19_1 w149 z20_0 w150 z21_0 w151 d6 d7 d8 HB z21_1 nd z21_2 z21_3 z21_4 z21_5 z21_6 z21_7 z21_8 z21_9
 have H := HC138.out;clear HC138;replace H := iC_ H; obtain ⟨c152, H⟩ | ⟨c152, H⟩ := H
 ·exact absurd H ag_
 ·have c152b0 : (b2 != b3) = false := by simpa using c152
  (try (have c152b1 : decide (b2 = b3) = true := by simpa using c152))
  (try (have c152b2 : (b2 == b3) = true := by simpa using c152))
  clear c152
  (first | rw [c152b0] | (simp only [i64_w, i32_w]; rw [c152b0]) | skip)
  replace H := iE_ H; obtain ⟨c153b0, c153b1, H⟩ | ⟨c153, c153b0, c153b1, H⟩ := H
  ·replace H := iC_ H; obtain ⟨c154, H⟩ | ⟨c154, H⟩ := H
   ·exact absurd H ag_
   ·have c154b0 : (b4 != b5) = false := by simpa using c154
    (try (have c154b1 : decide (b4 = b5) = true := by simpa using c154))
    (try (have c154b2 : (b4 == b5) = true := by simpa using c154))
    clear c154;replace H := iE_ H; obtain ⟨c155b0, c155b1, H⟩ | ⟨c155, c155b0, c155b1, H⟩ := H
    ·replace H := iE_ H; obtain ⟨c156b0, c156b1, H⟩ | ⟨c156, c156b0, c156b1, H⟩ := H
     ·replace H := iC_ H; obtain ⟨c157, H⟩ | ⟨c157, H⟩ := H
      ·exact absurd H ag_
      ·have c157b0 : (b6 != b7) = false := by simpa using c157
       (try (have c157b1 : decide (b6 = b7) = true := by simpa using c157))
       (try (have c157b2 : (b6 == b7) = true := by simpa using c157))
       clear c157;replace H := iE_ H; obtain ⟨c158b0, c158b1, H⟩ | ⟨c158, c158b0, c158b1, H⟩ := H
       ·replace H := iE_ H; obtain ⟨c159b0, c159b1, H⟩ | ⟨c159, c159b0, c159b1, H⟩ := H
        ·replace H := iC_ H; obtain ⟨c160, H⟩ | ⟨c160, H⟩ := H
         ·exact absurd H ag_
         ·have c160b0 : (b0 != b8) = false := by simpa using c160
          (try (have c160b1 : decide (b0 = b8) = true := by simpa using c160))
          (try (have c160b2 : (b0 == b8) = true := by simpa using c160))
          clear c160;replace H := iE_ H; obtain ⟨c161b0, c161b1, H⟩ | ⟨c161, c161b0, c161b1, H⟩ := H
          ·replace H := iC_ H; obtain ⟨c162, H⟩ | ⟨c162, H⟩ := H
           ·exact absurd H ag_
           ·have c162b0 : (b1 != b9) = false := by simpa using c162
            (try (have c162b1 : decide (b1 = b9) = true := by simpa using c162))
            (try (have c162b2 : (b1 == b9) = true := by simpa using c162))
            clear c162;replace H := iE_ H; obtain ⟨c163b0, c163b1, H⟩ | ⟨c163, c163b0, c163b1, H⟩ := H
            ·replace H := iC_ H; obtain ⟨c164, H⟩ | ⟨c164, H⟩ := H
             ·exact absurd H ag_
             ·have c164b0 : (d0 != d1) = false := by simpa using c164
              (try (have c164b1 : decide (d0 = d1) = true := by simpa using c164))
              (try (have c164b2 : (d0 == d1) = true := by simpa using c164))
              clear c164;replace H := iE_ H; obtain ⟨c165b0, c165b1, H⟩ | ⟨c165, c165b0, c165b1, H⟩ := H
              ·have H' := qb.mk H
               clear H
               go_wp2
               go_meet
               case rel => exact ⟨_, ((b1 != b0)), es_, H', ⟨by have := HJ11.out; have := HJ66.out; have := HJ89.out; first | omega | exact Nat.le_refl _⟩, ⟨kr_ d6⟩, ⟨bk_ d7⟩, ⟨bk_ d8⟩, ⟨be2_ HB d4 d5⟩⟩
              ·exact absurd H ag_
            ·exact absurd H ag_
          ·exact absurd H ag_
        ·exact absurd H ag_
       ·exact absurd H ag_
     ·exact absurd H ag_
    ·exact absurd H ag_
  ·exact absurd H ag_
set_option maxHeartbeats 8000000 in
set_option maxRecDepth 100000 in
theorem laws_FnPostDelivers.p24 : Bx.A1 laws_FnPostDelivers.p23 := by
 unfold Bx.A1
 intro k A0 c0 l0 A1 c1 l1 r w hu25 HR0 HC0 HR1 HC1 A3 d4 d5 f5 f6 A5 f7 f8 A6 f9 g0 A7 g1 g2 A8 g3 g4 A9 g5 g6 A10 g7 g8 A11 z2_0 z8_0 z2_1 w13 d0 w14 d7 b1 w16 v443 w18 v447 w20 v451 w22 v455 d8 d9 f0 f1 z11_0 z11_1 z8_1 z17_0 z11_2 z15_0 z15_1 z15_2 z15_3 kj11 HJ11 z15_4 u20 u21 g9 f2 z16_0 z16_1 kj66 HJ66 z22_0 u4 u22 u23 u24 u25 u26 u27 u203 u204 u205 kj89 HJ89 b6 b7 d6 A122 d1 m0 m1 A124 m2 m3 A125 m4 m5 m6 A126 m7 m8 m9 A127 n0 A128 n1 n2 n3 A129 n4 n5 n6 A130 n7 n8 A131 n9 o0 A132 o1 o2 A133 o3 o4 A134 o5 o6 A135 o7 o8 A136 o9 p0 A137 w139 d2 w140 f3 b2 b8 b9 hnb141 hnc141 Ao143 co143 w144 w146 w147 z18_0 z18_1 w148 z19_0 z19_1 w149 z20_0 w150 z22_517 w151 f4 z23_0 z23_1 z23_2 z22_518 nd wc u83 u84 u85 u86 u87 u88 u89 u90 u91 u92 u93 u94 u95 u96 u97 u98 u99 u100 u101 u102 u103 u104 u105 u106 u107 u108 u109 u110 u111 u112 u113 u114 u115 u116 u117 u118 u119 u120 u121 u122 u123 u124 u125 u126 u127 u128 u129 u130 u131 u132 u133 u134 u135 u136 u137 u138 u139 u140 u141 u142 u143 u144 u145 u146 u147 u148 u149 u150 u151 u152 u153 u154 u155 u156 u157 u158 u159 u160 u161 u162 u163 u164 u165 u166 u167 u168 u169 u170 u171 u172 u173 u174 u175 u176 u177 u178 u179 u180 u181 u182 u183 u184 u185 u186 u187 u188 u189 u190 u191 u192 u193 u194 u195 u196 u197 u198 u199 u200 u201 u202 u206 u207 u208 u209 u210 u211 u212 u213 u214 u215 u216 u217 u218 u219 u220 u221 u222 u223 u224 u225 u226 u227 u228 u229 u230 u231 u232 u233 u234 u235 u236 u237 u238 u239 u240 u241 u242 u243 u244 u245 u246 u247 u248 u249 u250 u251 u252 u253 u254 u255 u256 u257 u258 u259 u260 u261 u262 u263 u264 u265 u266 u267 u268 u269 u270 u271 u272 u273 u274 u275 u276 u277 u278 u279 u280 u281 u282 u283 u284 u285 u286 u287 u288 u289 u290 u291 u292 u293 u294 u295 u296 u297 u298 u299 u300 u301 u302 u303 u304 u305 u306 u307 u308 u309 u310 u311 u312 u313 u314 u315 u316 u317 u318 u319 u320 u321 u322 u323 u324 u325 u326 u327 u328 u329 u330 u331 u332 u333 u334 u335 u336 u337 u338 u339 u340 u341 u342 u343 u344 u345 u346 u347 u348 u349 u350 u351 u352 u353 u354 u355 u356 u357 u358 u359 u360 u361 u362 u363 u364 u365 u366 u367 u368 u369 u370 u371 u372 u373 u374 u375 u376 u377 u378 u379 u380 u381 u382 u383 u384 u385 u386 u387 u388 u389 u390 u391 u392 u393 u394 u395 u396 u397 u399 u400 u401 u402 u403 u404 u405 u406 u407 u408 u409 u410 u411 u412 u413 u414 u415 u416 u417 u418 u419 u420 u421 u422 u423 u424 u425 u426 u427 u428 u429 u430 u431 u432 u433 u434 u435 u436 u437 u438 u439 u440 u441 u442 u443 u444 u445 u446 u447 u448 u449 u450 u451 u452 u453 u454 u455 u456 u457 u458 u459 u460 u461 u462 u463 u464 u465 u466 u467 u468 u469 u470 u471 u472 u473 u474 u475 u476 u477 u478 u479 u480 u481 u482 u483 u484 u485 u486 u487 u488 u489 u490 u491 u492 u493 u494 u495 u496 u497 u498 u499 u500 u501 u502 u503 u504 u505 u506 u507 u508 u509 u510 u511 u512 u513 u514 u515 u516 u517 u518 u519 u520 u521 u522 u523 u524 u525 u526 u527 u528 u529 u530 u531 u532 u533 u534 u535 u536 u537 u538 u539 u540 u541 u542 u543 u544 u545 u546 u547 u548 u549 u550 u551 u552 u553 u554 u555 u556 u557 u558 u559 u560 u561 u562 u563 u564 u565 u566 u567 u568 u569 u570 u571 u572 u573 u574 u575 u576 u577 u578 u579 u580 u581 u582 u583 u584 u585 u586 u587 u588 u589 u590 u591 u592 u593 u594 u595 u596 u597 u598 u599 u600 u601 b0 b3 b4 HB kj137 HJ137 z23_3 z23_4 z23_5 z23_6 z23_8 A123 z23_7 d3 A169 A171 H' hnb173 hnc173 hcz174_0 hcz174_1 hfz174_0 hfz174_1
 go_wp2_with (first | (refine gL_ 403 Tryz.func8 #[.agg #[.int .i64 b6, .int .i64 b7], .string d1] ?_; refine (impl_NumbersOf.calls kj137 b6 b7 d1 d3 true _ A169.out).mono ?_; rintro e w175 ⟨v517, rfl, ho0, hb⟩; refine ⟨_, rfl, ?_⟩; have b5 := qb.mk (Kd.R_lower (Kd.R_new' ho0 c0_) (qn (be2_ HB b1 b2))); replace b0 := qb.mk (Kd.R_elder' (kr_ b0) c9_ hb); replace b3 := qb.mk (qw (g := d0) (o := .cells #[.int .i64 d4, .int .i64 d5] 25 (0, 0)) (bk_ b3) hb); replace b4 := qb.mk (qw (g := d2) (o := .cells #[.int .i64 b6, .int .i64 b7] 25 (0, 0)) (bk_ b4) hb); replace HB := qb.mk (qo (be2_ HB b1 b2) hb); (try clear hb ho0); obtain ⟨Ao176, co176, eo176⟩ := Kd.ja b5.out; subst eo176) | (go_at_call 12; (with_reducible refine (laws_zSame.calls kj137 _ _ d3 _ _ d6 true _ ?side1 ?side2 ?side3 ?side4 A171.out).mono ?_); (case side1 => repeat (first | exact (Kd.ze b5.out).2.2 | (with_reducible refine Kd.zu ?_ _) | (with_reducible refine Kd.zt ?_ _) | (with_reducible refine Kd.zz ?_))); (case side2 => exact (Kd.ze b5.out).2.1); (case side3 => repeat (first | exact (Kd.ze b0.out).2.2 | (with_reducible refine Kd.zu ?_ _) | (with_reducible refine Kd.zt ?_ _) | (with_reducible refine Kd.zz ?_))); (case side4 => exact (Kd.ze b0.out).2.1); rintro e w' ⟨rfl, ⟨nd, rfl⟩⟩))
 go_meet
 case rel => exact ⟨_, H', ⟨by have := HJ11.out; have := HJ66.out; have := HJ89.out; have := HJ137.out; first | omega | exact Nat.le_refl _⟩, ⟨bk_ b3⟩, ⟨bk_ b4⟩, ⟨be2_ HB b1 b2⟩⟩
end Go.Proofs.YtpopeedfgenebaaGreat.PFnPostDelivers
