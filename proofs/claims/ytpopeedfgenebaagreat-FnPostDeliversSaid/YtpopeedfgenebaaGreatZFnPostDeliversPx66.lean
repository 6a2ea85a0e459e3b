/- Cut by wip/cut.py out of the texts of this claim (printed by the kit's printer, or this session's own): what the row's theorem does not reach is struck. Not trusted: Lean checks it. -/
import Derived.Test.YtpopeedfgenebaaGreatZFnPostDeliversPx62
namespace Go.Proofs.YtpopeedfgenebaaGreat.PFnPostDelivers
open Go.RowKit Go.Proofs.YtpopeedfgenebaaGreatW.PrintWords Go.Proofs.YtpopeedfgenebaaGreatW.PrintLast Go.Proofs.YtpopeedfgenebaaGreatW.PrintMore
attribute [local go_sem] zq zo zx zw zk zj zp zn
set_option linter.unusedVariables false
set_option linter.defProp false
set_option linter.unusedSimpArgs false
set_option maxHeartbeats 8000000 in
set_option maxRecDepth 100000 in
def laws_FnPostDelivers.p48 := fun (S_ : Bx _ (Bx _ (Unit))) => (by
 unfold Bx.A2
 intro k A0 c0 l0 A1 c1 l1 r w hu25 HR0 HC0 HR1 HC1 A3 d9 f0 f1 f2 A5 f3 f4 A6 f5 f6 A7 f7 f8 A8 f9 g0 A9 g1 g2 A10 g3 g4 A11 z2_0 z8_0 z2_1 w13 b6 w14 b7 b8 w16 v443 w18 v447 w20 v451 w22 v455 b9 d0 d1 d2 z11_0 z11_1 z8_1 z17_0 z11_2 z15_0 z15_1 z15_2 z15_3 kj11 HJ11 z15_4 u20 u21 g5 d3 z16_0 z16_1 kj66 HJ66 z22_0 u22 u23 u24 u25 u26 u27 u203 u204 u205 kj89 HJ89 g6 g7 g8 A122 g9 m0 A123 m1 m2 A124 m3 m4 A125 m5 m6 m7 A126 m8 m9 n0 A127 n1 A128 n2 n3 n4 A129 n5 n6 n7 A130 n8 n9 A131 o0 o1 A132 o2 o3 A133 o4 o5 A134 b4 b5 A135 o6 p5 A136 o7 o8 A137 w139 d4 w140 d5 d6 b0 b1 hnb141 hnc141 Ao143 co143 w144 w146 w147 z18_0 z18_1 w148 z19_0 z19_1 w149 z20_0 w150 z22_517 w151 d7 z25_1 z25_2 z25_3 z22_518 nd z25_4 d8 z31_0 z31_1 z31_2 kj137 HJ137 z31_3 u63 u64 z44_0 z44_1 z44_2 kj166 HJ166 z44_3 u65 u66 u67 z48_0 z48_1 z48_2 kj183 HJ183 z48_3 u68 b2 b3 HB kj196 HJ196 HC224 z48_521 z48_522 wc u4 u69 u70 u71 u72 u73 u74 u75 u76 u83 u84 u85 u86 u87 u88 u89 u90 u91 u92 u93 u94 u95 u96 u97 u98 u99 u100 u101 u102 u103 u104 u105 u106 u107 u108 u109 u110 u111 u112 u113 u114 u115 u116 u117 u118 u119 u120 u121 u122 u123 u124 u125 u126 u127 u128 u129 u130 u131 u132 u133 u134 u135 u136 u137 u138 u139 u140 u141 u142 u143 u144 u145 u146 u147 u148 u149 u150 u151 u152 u153 u154 u155 u156 u157 u158 u159 u160 u161 u162 u163 u164 u165 u166 u167 u168 u169 u170 u171 u172 u173 u174 u175 u176 u177 u178 u179 u180 u181 u182 u183 u184 u185 u186 u187 u188 u189 u190 u191 u192 u193 u194 u195 u196 u197 u198 u199 u200 u201 u202 u206 u207 u208 u209 u210 u211 u212 u213 u214 u215 u216 u217 u218 u219 u220 u221 u222 u223 u224 u225 u226 u227 u228 u229 u230 u231 u232 u233 u234 u235 u236 u237 u238 u239 u240 u241 u242 u243 u244 u245 u246 u247 u248 u249 u250 u251 u252 u253 u254 u255 u256 u257 u258 u259 u260 u261 u262 u263 u264 u265 u266 u267 u268 u269 u270 u271 u272 u273 u274 u275 u276 u277 u278 u279 u280 u281 u282 u283 u284 u285 u286 u287 u288 u289 u290 u291 u292 u293 u294 u295 u296 u297 u298 u299 u300 u301 u302 u303 u304 u305 u306 u307 u308 u309 u310 u311 u312 u313 u314 u315 u316 u317 u318 u319 u320 u321 u322 u323 u324 u325 u326 u327 u328 u329 u330 u331 u332 u333 u334 u335 u336 u337 u338 u339 u340 u341 u342 u343 u344 u345 u346 u347 u348 u349 u350 u351 u352 u353 u354 u355 u356 u357 u358 u359 u360 u361 u362 u363 u364 u365 u366 u367 u368 u369 u370 u371 u372 u373 u374 u375 u376 u377 u378 u379 u380 u381 u382 u383 u384 u385 u386 u387 u388 u389 u390 u391 u392 u393 u394 u395 u396 u397 u398 u399 u400 u401 u402 u403 u404 u405 u406 u407 u408 u409 u410 u411 u412 u413 u414 u415 u416 u417 u418 u419 u420 u421 u422 u423 u424 u425 u426 u427 u428 u429 u430 u431 u432 u433 u434 u435 u436 u437 u438 u439 u440 u441 u442 u443 u444 u445 u446 u447 u448 u449 u450 u451 u452 u453 u454 u455 u456 u457 u458 u459 u460 u461 u462 u463 u464 u465 u466 u467 u468 u469 u470 u471 u472 u473 u474 u475 u476 u477 u478 u479 u480 u481 u482 u483 u484 u485 u486 u487 u488 u489 u490 u491 u492 u493 u494 u495 u496 u497 u498 u499 u500 u501 u502 u503 u504 u505 u506 u507 u508 u509 u510 u511 u512 u513 u514 u515 u516 u517 u518 u519 u520 u521 u522 u523 u524 u525 u526 u527 u528 u529 u530 u531 u532 u533 u534 u535 u536 u537 u538 u539 u540 u541 u542 u543 u544 u545 u546 u547 u548 u549 u550 u551 u552 u553 u554 u555 u556 u557 u558 u559 u560 u561 u562 u563 u564 u565 u566 u567 u568 u569 u570 u571 u572 u573 u574 u575 u576 u577 u578 u579 u580 u581 u582 u583 u584 u585 u586 u587 u588 u589 u590 u591 u592 u593 u594 u595 u596 u597 u598 u599 u600 u601 hcut
 clear HC224;(try clear c1);obtain ⟨kq, HA, HJ223, b2, b3, HB⟩ := hcut;cases kq with
 | zero => exact absurd HA.out (by simp [laws_FnPostDelivers.j11])
 | succ kj223 =>
  have H := HA.out;clear HA
  simp only [laws_FnPostDelivers.j11] at H
  replace H := iB_ H; obtain ⟨rfl, H⟩ | ⟨rfl, H⟩ := H
  ·replace H := bX_ H; obtain ⟨⟨o9, p0⟩, A254, H⟩ := H; (try dsimp only at H)
   replace H := bX_ H; obtain ⟨⟨p1, p2⟩, A255, H⟩ := H; (try dsimp only at H);replace H := bX_ H; obtain ⟨⟨p3, p4⟩, A256, H⟩ := H; (try dsimp only at H)
   by_cases c257 : p0 = true
   ·subst c257
    rw [if_pos rfl] at H
    by_cases c258 : p2 = true
    ·subst c258
     rw [if_pos rfl] at H
     by_cases c259 : p4 = true
     ·subst c259
      rw [if_pos rfl] at H;replace H := iE_ H; obtain ⟨c260b0, c260b1, H⟩ | ⟨c260, c260b0, c260b1, H⟩ := H
      ·replace H := iC_ H; obtain ⟨c261, H⟩ | ⟨c261, H⟩ := H
       ·have c261b0 := eq_true c261
        have c261b1 : decide (b4.size + b5.size ≤ 9223372036854775807) = true := decide_eq_true c261
        try have c261b2 : (9223372036854775807 < b4.size + b5.size) = False := eq_false (Nat.not_lt.2 c261)
        replace H := iE_ H; obtain ⟨c262b0, c262b1, H⟩ | ⟨c262, c262b0, c262b1, H⟩ := H
        ·obtain rfl := Option.some.inj H
         rename_i z49_0 z49_1 z49_2
         revert c262b0 c262b1 z2_0 z48_522 H
         revert u596 u597 u598 u599 u600 u601 b2 b3 HB kj223 HJ223 A136 o9 p1 p3 A254 A255 A256 c260b0 c260b1 c261 c261b0 c261b1 c261b2
         revert u572 u573 u574 u575 u576 u577 u578 u579 u580 u581 u582 u583 u584 u585 u586 u587 u588 u589 u590 u591 u592 u593 u594 u595
         revert u548 u549 u550 u551 u552 u553 u554 u555 u556 u557 u558 u559 u560 u561 u562 u563 u564 u565 u566 u567 u568 u569 u570 u571
         revert u524 u525 u526 u527 u528 u529 u530 u531 u532 u533 u534 u535 u536 u537 u538 u539 u540 u541 u542 u543 u544 u545 u546 u547
         revert u500 u501 u502 u503 u504 u505 u506 u507 u508 u509 u510 u511 u512 u513 u514 u515 u516 u517 u518 u519 u520 u521 u522 u523
         revert u476 u477 u478 u479 u480 u481 u482 u483 u484 u485 u486 u487 u488 u489 u490 u491 u492 u493 u494 u495 u496 u497 u498 u499
         revert u452 u453 u454 u455 u456 u457 u458 u459 u460 u461 u462 u463 u464 u465 u466 u467 u468 u469 u470 u471 u472 u473 u474 u475
         revert u428 u429 u430 u431 u432 u433 u434 u435 u436 u437 u438 u439 u440 u441 u442 u443 u444 u445 u446 u447 u448 u449 u450 u451
         revert u404 u405 u406 u407 u408 u409 u410 u411 u412 u413 u414 u415 u416 u417 u418 u419 u420 u421 u422 u423 u424 u425 u426 u427
         revert u380 u381 u382 u383 u384 u385 u386 u387 u388 u389 u390 u391 u392 u393 u394 u395 u396 u397 u398 u399 u400 u401 u402 u403
         revert u356 u357 u358 u359 u360 u361 u362 u363 u364 u365 u366 u367 u368 u369 u370 u371 u372 u373 u374 u375 u376 u377 u378 u379
         revert u332 u333 u334 u335 u336 u337 u338 u339 u340 u341 u342 u343 u344 u345 u346 u347 u348 u349 u350 u351 u352 u353 u354 u355
         revert u308 u309 u310 u311 u312 u313 u314 u315 u316 u317 u318 u319 u320 u321 u322 u323 u324 u325 u326 u327 u328 u329 u330 u331
         revert u284 u285 u286 u287 u288 u289 u290 u291 u292 u293 u294 u295 u296 u297 u298 u299 u300 u301 u302 u303 u304 u305 u306 u307
         revert u260 u261 u262 u263 u264 u265 u266 u267 u268 u269 u270 u271 u272 u273 u274 u275 u276 u277 u278 u279 u280 u281 u282 u283
         revert u236 u237 u238 u239 u240 u241 u242 u243 u244 u245 u246 u247 u248 u249 u250 u251 u252 u253 u254 u255 u256 u257 u258 u259
         revert u212 u213 u214 u215 u216 u217 u218 u219 u220 u221 u222 u223 u224 u225 u226 u227 u228 u229 u230 u231 u232 u233 u234 u235
         revert u185 u186 u187 u188 u189 u190 u191 u192 u193 u194 u195 u196 u197 u198 u199 u200 u201 u202 u206 u207 u208 u209 u210 u211
         revert u161 u162 u163 u164 u165 u166 u167 u168 u169 u170 u171 u172 u173 u174 u175 u176 u177 u178 u179 u180 u181 u182 u183 u184
         revert u137 u138 u139 u140 u141 u142 u143 u144 u145 u146 u147 u148 u149 u150 u151 u152 u153 u154 u155 u156 u157 u158 u159 u160
         revert u113 u114 u115 u116 u117 u118 u119 u120 u121 u122 u123 u124 u125 u126 u127 u128 u129 u130 u131 u132 u133 u134 u135 u136
         revert u89 u90 u91 u92 u93 u94 u95 u96 u97 u98 u99 u100 u101 u102 u103 u104 u105 u106 u107 u108 u109 u110 u111 u112
         revert z48_3 u68 z49_0 z49_1 z49_2 kj196 HJ196 z48_521 wc u4 u69 u70 u71 u72 u73 u74 u75 u76 u83 u84 u85 u86 u87 u88
         revert z25_4 d8 z31_0 z31_1 z31_2 kj137 HJ137 z31_3 u63 u64 z44_0 z44_1 z44_2 kj166 HJ166 z44_3 u65 u66 u67 z48_0 z48_1 z48_2 kj183 HJ183
         revert b1 hnb141 hnc141 Ao143 co143 w144 w146 w147 z18_0 z18_1 w148 z19_0 z19_1 w149 z20_0 w150 z22_517 w151 d7 z25_1 z25_2 z25_3 z22_518 nd
         revert n9 A131 o0 o1 A132 o2 o3 A133 o4 o5 A134 b4 b5 A135 o6 o7 o8 A137 w139 d4 w140 d5 d6 b0
         revert m2 A124 m3 m4 A125 m5 m6 m7 A126 m8 m9 n0 A127 n1 A128 n2 n3 n4 A129 n5 n6 n7 A130 n8
         revert z16_0 z16_1 kj66 HJ66 z22_0 u22 u23 u24 u25 u26 u27 u203 u204 u205 kj89 HJ89 g6 g7 g8 A122 g9 m0 A123 m1
         revert w20 v451 w22 v455 b9 d0 d1 d2 z11_0 z11_1 z8_1 z17_0 z11_2 z15_0 z15_1 z15_2 z15_3 kj11 HJ11 z15_4 u20 u21 g5 d3
         revert A7 f7 f8 A8 f9 g0 A9 g1 g2 A10 g3 g4 A11 z8_0 z2_1 w13 b6 w14 b7 b8 w16 v443 w18 v447
         revert k A0 c0 l0 A1 c1 l1 w hu25 HR0 HC0 HR1 HC1 A3 d9 f0 f1 f2 A5 f3 f4 A6 f5 f6
         exact S_.a
        ·cases H
       ·cases H
      ·cases H
     ·rw [if_neg c259] at H
      cases H
    ·rw [if_neg c258] at H
     cases H
   ·rw [if_neg c257] at H
    cases H
  ·obtain rfl := Option.some.inj H
   rename_i z50_0 z50_1 z50_2
   revert u596 u597 u598 u599 u600 u601 b2 b3 HB kj223 HJ223 A136 z2_0 z48_522 H
   revert u572 u573 u574 u575 u576 u577 u578 u579 u580 u581 u582 u583 u584 u585 u586 u587 u588 u589 u590 u591 u592 u593 u594 u595
   revert u548 u549 u550 u551 u552 u553 u554 u555 u556 u557 u558 u559 u560 u561 u562 u563 u564 u565 u566 u567 u568 u569 u570 u571
   revert u524 u525 u526 u527 u528 u529 u530 u531 u532 u533 u534 u535 u536 u537 u538 u539 u540 u541 u542 u543 u544 u545 u546 u547
   revert u500 u501 u502 u503 u504 u505 u506 u507 u508 u509 u510 u511 u512 u513 u514 u515 u516 u517 u518 u519 u520 u521 u522 u523
   revert u476 u477 u478 u479 u480 u481 u482 u483 u484 u485 u486 u487 u488 u489 u490 u491 u492 u493 u494 u495 u496 u497 u498 u499
   revert u452 u453 u454 u455 u456 u457 u458 u459 u460 u461 u462 u463 u464 u465 u466 u467 u468 u469 u470 u471 u472 u473 u474 u475
   revert u428 u429 u430 u431 u432 u433 u434 u435 u436 u437 u438 u439 u440 u441 u442 u443 u444 u445 u446 u447 u448 u449 u450 u451
   revert u404 u405 u406 u407 u408 u409 u410 u411 u412 u413 u414 u415 u416 u417 u418 u419 u420 u421 u422 u423 u424 u425 u426 u427
   revert u380 u381 u382 u383 u384 u385 u386 u387 u388 u389 u390 u391 u392 u393 u394 u395 u396 u397 u398 u399 u400 u401 u402 u403
   revert u356 u357 u358 u359 u360 u361 u362 u363 u364 u365 u366 u367 u368 u369 u370 u371 u372 u373 u374 u375 u376 u377 u378 u379
   revert u332 u333 u334 u335 u336 u337 u338 u339 u340 u341 u342 u343 u344 u345 u346 u347 u348 u349 u350 u351 u352 u353 u354 u355
   revert u308 u309 u310 u311 u312 u313 u314 u315 u316 u317 u318 u319 u320 u321 u322 u323 u324 u325 u326 u327 u328 u329 u330 u331
   revert u284 u285 u286 u287 u288 u289 u290 u291 u292 u293 u294 u295 u296 u297 u298 u299 u300 u301 u302 u303 u304 u305 u306 u307
   revert u260 u261 u262 u263 u264 u265 u266 u267 u268 u269 u270 u271 u272 u273 u274 u275 u276 u277 u278 u279 u280 u281 u282 u283
   revert u236 u237 u238 u239 u240 u241 u242 u243 u244 u245 u246 u247 u248 u249 u250 u251 u252 u253 u254 u255 u256 u257 u258 u259
   revert u212 u213 u214 u215 u216 u217 u218 u219 u220 u221 u222 u223 u224 u225 u226 u227 u228 u229 u230 u231 u232 u233 u234 u235
   revert u185 u186 u187 u188 u189 u190 u191 u192 u193 u194 u195 u196 u197 u198 u199 u200 u201 u202 u206 u207 u208 u209 u210 u211
   revert u161 u162 u163 u164 u165 u166 u167 u168 u169 u170 u171 u172 u173 u174 u175 u176 u177 u178 u179 u180 u181 u182 u183 u184
   revert u137 u138 u139 u140 u141 u142 u143 u144 u145 u146 u147 u148 u149 u150 u151 u152 u153 u154 u155 u156 u157 u158 u159 u160
   revert u113 u114 u115 u116 u117 u118 u119 u120 u121 u122 u123 u124 u125 u126 u127 u128 u129 u130 u131 u132 u133 u134 u135 u136
   revert u89 u90 u91 u92 u93 u94 u95 u96 u97 u98 u99 u100 u101 u102 u103 u104 u105 u106 u107 u108 u109 u110 u111 u112
   revert z48_3 u68 z50_0 z50_1 z50_2 kj196 HJ196 z48_521 wc u4 u69 u70 u71 u72 u73 u74 u75 u76 u83 u84 u85 u86 u87 u88
   revert z25_4 d8 z31_0 z31_1 z31_2 kj137 HJ137 z31_3 u63 u64 z44_0 z44_1 z44_2 kj166 HJ166 z44_3 u65 u66 u67 z48_0 z48_1 z48_2 kj183 HJ183
   revert b1 hnb141 hnc141 Ao143 co143 w144 w146 w147 z18_0 z18_1 w148 z19_0 z19_1 w149 z20_0 w150 z22_517 w151 d7 z25_1 z25_2 z25_3 z22_518 nd
   revert n9 A131 o0 o1 A132 o2 o3 A133 o4 o5 A134 b4 b5 A135 o6 o7 o8 A137 w139 d4 w140 d5 d6 b0
   revert m2 A124 m3 m4 A125 m5 m6 m7 A126 m8 m9 n0 A127 n1 A128 n2 n3 n4 A129 n5 n6 n7 A130 n8
   revert z16_0 z16_1 kj66 HJ66 z22_0 u22 u23 u24 u25 u26 u27 u203 u204 u205 kj89 HJ89 g6 g7 g8 A122 g9 m0 A123 m1
   revert w20 v451 w22 v455 b9 d0 d1 d2 z11_0 z11_1 z8_1 z17_0 z11_2 z15_0 z15_1 z15_2 z15_3 kj11 HJ11 z15_4 u20 u21 g5 d3
   revert A7 f7 f8 A8 f9 g0 A9 g1 g2 A10 g3 g4 A11 z8_0 z2_1 w13 b6 w14 b7 b8 w16 v443 w18 v447
   revert k A0 c0 l0 A1 c1 l1 w hu25 HR0 HC0 HR1 HC1 A3 d9 f0 f1 f2 A5 f3 f4 A6 f5 f6
   exact S_.r.a
 : Bx.A2 laws_FnPostDelivers.p44)
end Go.Proofs.YtpopeedfgenebaaGreat.PFnPostDelivers
