/- Cut by wip/cut.py out of the texts of this claim (printed by the kit's printer, or this session's own): what the row's theorem does not reach is struck. Not trusted: Lean checks it. -/
import Derived.Test.YtpopeedfgenebaaGreatZFnPostDeliversPx43
namespace Go.Proofs.YtpopeedfgenebaaGreat.PFnPostDelivers
open Go.RowKit Go.Proofs.YtpopeedfgenebaaGreatW.PrintWords Go.Proofs.YtpopeedfgenebaaGreatW.PrintLast Go.Proofs.YtpopeedfgenebaaGreatW.PrintMore
attribute [local go_sem] zq zo zx zw zk zj zp zn
set_option linter.unusedVariables false
set_option linter.defProp false
set_option linter.unusedSimpArgs false
set_option maxHeartbeats 8000000 in
set_option maxRecDepth 100000 in
def laws_FnPostDelivers.p27 := fun (S_ : Bx _ (Bx _ (Bx _ (Unit)))) => (by
 unfold Bx.A1
 intro k A0 c0 l0 A1 c1 l1 r w hu25 HR0 HC0 HR1 HC1 A3 f1 f2 f3 f4 A5 f5 f6 A6 f7 f8 A7 f9 g0 A8 g1 g2 A9 g3 g4 A10 g5 g6 A11 z2_0 z8_0 z2_1 w13 b6 w14 b7 b4 w16 v443 w18 v447 w20 v451 w22 v455 b8 b9 d0 d1 z11_0 z11_1 z8_1 z17_0 z11_2 z15_0 z15_1 z15_2 z15_3 kj11 HJ11 z15_4 u20 u21 g7 d2 z16_0 z16_1 kj66 HJ66 z22_0 u22 u23 u24 u25 u26 u27 u203 u204 u205 kj89 HJ89 g8 g9 m0 A122 m1 m2 A123 m3 m4 A124 d8 d3 A125 m5 d9 m6 m7 m8 A127 m9 A128 n0 n1 n2 A129 n3 n4 n5 A130 n6 n7 A131 n8 n9 A132 o0 o1 A133 o2 o3 A134 o4 o5 A135 o6 o7 A136 o8 o9 A137 w139 d4 w140 d5 b5 b0 b1 hnb141 hnc141 Ao143 co143 w144 w146 w147 z18_0 z18_1 w148 z19_0 z19_1 w149 z20_0 w150 z22_517 w151 d6 z25_1 z25_2 z25_3 z22_518 nd z25_4 d7 z26_0 z26_1 z26_2 kj137 HJ137 wc u63 u64 u83 u84 u85 u86 u87 u88 u89 u90 u91 u92 u93 u94 u95 u96 u97 u98 u99 u100 u101 u102 u103 u104 u105 u106 u107 u108 u109 u110 u111 u112 u113 u114 u115 u116 u117 u118 u119 u120 u121 u122 u123 u124 u125 u126 u127 u128 u129 u130 u131 u132 u133 u134 u135 u136 u137 u138 u139 u140 u141 u142 u143 u144 u145 u146 u147 u148 u149 u150 u151 u152 u153 u154 u155 u156 u157 u158 u159 u160 u161 u162 u163 u164 u165 u166 u167 u168 u169 u170 u171 u172 u173 u174 u175 u176 u177 u178 u179 u180 u181 u182 u183 u184 u185 u186 u187 u188 u189 u190 u191 u192 u193 u194 u195 u196 u197 u198 u199 u200 u201 u202 u206 u207 u208 u209 u210 u211 u212 u213 u214 u215 u216 u217 u218 u219 u220 u221 u222 u223 u224 u225 u226 u227 u228 u229 u230 u231 u232 u233 u234 u235 u236 u237 u238 u239 u240 u241 u242 u243 u244 u245 u246 u247 u248 u249 u250 u251 u252 u253 u254 u255 u256 u257 u258 u259 u260 u261 u262 u263 u264 u265 u266 u267 u268 u269 u270 u271 u272 u273 u274 u275 u276 u277 u278 u279 u280 u281 u282 u283 u284 u285 u286 u287 u288 u289 u290 u291 u292 u293 u294 u295 u296 u297 u298 u299 u300 u301 u302 u303 u304 u305 u306 u307 u308 u309 u310 u311 u312 u313 u314 u315 u316 u317 u318 u319 u320 u321 u322 u323 u324 u325 u326 u327 u328 u329 u330 u331 u332 u333 u334 u335 u336 u337 u338 u339 u340 u341 u342 u343 u344 u345 u346 u347 u348 u349 u350 u351 u352 u353 u354 u355 u356 u357 u358 u359 u360 u361 u362 u363 u364 u365 u366 u367 u368 u369 u370 u371 u372 u373 u374 u375 u376 u377 u378 u379 u380 u381 u382 u383 u384 u385 u386 u387 u388 u389 u390 u391 u392 u393 u394 u395 u396 u397 u398 u399 u400 u401 u402 u403 u404 u405 u406 u407 u408 u409 u410 u411 u412 u413 u414 u460 u461 u462 u463 u464 u465 u466 u467 u468 u469 u470 u471 u472 u473 u474 u475 u476 u477 u478 u479 u480 u481 u482 u483 u484 u485 u486 u487 u488 u489 u490 u491 u492 u493 u494 u495 u496 u497 u498 u499 u500 u501 u502 u503 u504 u505 u506 u507 u508 u509 u510 u511 u512 u513 u514 u515 u516 u517 u518 u519 u520 u521 u522 u523 u524 u525 u526 u527 u528 u529 u530 u531 u532 u533 u534 u535 u536 u537 u538 u539 u540 u541 u542 u543 u544 u545 u546 u547 u548 u549 u550 u551 u552 u553 u554 u555 u556 u557 u558 u559 u560 u561 u562 u563 u564 u565 u566 u567 u568 u569 u570 u571 u572 u573 u574 u575 u576 u577 u578 u579 u580 u581 u582 u583 u584 u585 u586 u587 u588 u589 u590 u591 u592 u593 u594 u595 u596 u597 u598 u599 u600 u601 b2 b3 HB kj166 HJ166 z26_3 z26_4 z26_5 z26_6 z26_8 A126 z26_7 H' gk wr u4 u65 u66 u67 u415 u416 u417 u418 u419 u420 u421 u422 u423 u424 u425 u426 u427 u428 u429 u430 u431 u432 u433 u434 u435 u436 u437 u438 u439 u440 u441 u442 u443 u444 u445 u446 u447 u448 u449 u450 u451 u452 u453 u454 u455 u456 u457 u458 u459 hrel z27_46 z27_47 z27_48 z27_49
 clear H';(try clear c1);obtain ⟨x65_6, rfl, HA, HK6, b2, b3, HB⟩ := hrel;cases gk with
 | zero => exact absurd HA.out (by simp [laws_FnPostDelivers.l1])
 | succ k6 =>
  have H := HA.out;clear HA
  simp only [laws_FnPostDelivers.l1] at H
  replace H := iD_ H; obtain ⟨c186b0, H⟩ | ⟨c186b0, H⟩ := H
  ·(first | rw [c186b0] | (simp only [i64_w, i32_w]; rw [c186b0]) | skip)
   replace H := iC_ H; obtain ⟨c187, H⟩ | ⟨c187, H⟩ := H
   ·have c187b0 := eq_true c187
    have c187b1 : decide (0 ≤ x65_6) = true := decide_eq_true c187;clear c187;replace H := iC_ H; obtain ⟨c188, H⟩ | ⟨c188, H⟩ := H
    ·have c188b0 := eq_true c188
     have c188b1 : decide (x65_6 ≤ (wrap64 (x65_6 + d3))) = true := decide_eq_true c188;have c189b0 := eq_true (od_ : (wrap64 (x65_6 + d3)) ≤ (d8.size : Int));replace H := bX_ H; obtain ⟨⟨f0, p0⟩, A190, H⟩ := H; (try dsimp only at H)
     by_cases c191 : p0 = true
     ·subst c191
      rw [if_pos rfl] at H;replace H := iC_ H; obtain ⟨c192, H⟩ | ⟨c192, H⟩ := H
      ·cases H
      ·have c192b0 : decide (d9 < f0) = false := decide_eq_false c192
       clear c192;replace H := iE_ H; obtain ⟨c193b0, c193b1, H⟩ | ⟨c193, c193b0, c193b1, H⟩ := H
       ·replace H := iD_ H; obtain ⟨c194b0, H⟩ | ⟨c194b0, H⟩ := H
        ·cases H
        ·replace H := iE_ H; obtain ⟨c195b0, c195b1, H⟩ | ⟨c195, c195b0, c195b1, H⟩ := H
         ·have H' := qb.mk H
          clear H
          rename_i z28_0 z28_1 z28_2
          revert z27_49 HK6 c186b0 c187b0 c187b1 c188 c188b0 c188b1 c189b0 f0 A190 c192b0 c193b0 c193b1 c194b0 c195b0 c195b1 H'
          revert u444 u445 u446 u447 u448 u449 u450 u451 u452 u453 u454 u455 u456 u457 u458 u459 z27_46 z27_47 z27_48 x65_6 b2 b3 HB k6
          revert u420 u421 u422 u423 u424 u425 u426 u427 u428 u429 u430 u431 u432 u433 u434 u435 u436 u437 u438 u439 u440 u441 u442 u443
          revert u599 u600 u601 z28_0 z28_1 z28_2 kj166 HJ166 z26_3 z26_4 z26_5 z26_6 z26_8 A126 z26_7 wr u4 u66 u67 u415 u416 u417 u418 u419
          revert u575 u576 u577 u578 u579 u580 u581 u582 u583 u584 u585 u586 u587 u588 u589 u590 u591 u592 u593 u594 u595 u596 u597 u598
          revert u551 u552 u553 u554 u555 u556 u557 u558 u559 u560 u561 u562 u563 u564 u565 u566 u567 u568 u569 u570 u571 u572 u573 u574
          revert u527 u528 u529 u530 u531 u532 u533 u534 u535 u536 u537 u538 u539 u540 u541 u542 u543 u544 u545 u546 u547 u548 u549 u550
          revert u503 u504 u505 u506 u507 u508 u509 u510 u511 u512 u513 u514 u515 u516 u517 u518 u519 u520 u521 u522 u523 u524 u525 u526
          revert u479 u480 u481 u482 u483 u484 u485 u486 u487 u488 u489 u490 u491 u492 u493 u494 u495 u496 u497 u498 u499 u500 u501 u502
          revert u410 u411 u412 u413 u414 u460 u461 u462 u463 u464 u465 u466 u467 u468 u469 u470 u471 u472 u473 u474 u475 u476 u477 u478
          revert u386 u387 u388 u389 u390 u391 u392 u393 u394 u395 u396 u397 u398 u399 u400 u401 u402 u403 u404 u405 u406 u407 u408 u409
          revert u362 u363 u364 u365 u366 u367 u368 u369 u370 u371 u372 u373 u374 u375 u376 u377 u378 u379 u380 u381 u382 u383 u384 u385
          revert u338 u339 u340 u341 u342 u343 u344 u345 u346 u347 u348 u349 u350 u351 u352 u353 u354 u355 u356 u357 u358 u359 u360 u361
          revert u314 u315 u316 u317 u318 u319 u320 u321 u322 u323 u324 u325 u326 u327 u328 u329 u330 u331 u332 u333 u334 u335 u336 u337
          revert u290 u291 u292 u293 u294 u295 u296 u297 u298 u299 u300 u301 u302 u303 u304 u305 u306 u307 u308 u309 u310 u311 u312 u313
          revert u266 u267 u268 u269 u270 u271 u272 u273 u274 u275 u276 u277 u278 u279 u280 u281 u282 u283 u284 u285 u286 u287 u288 u289
          revert u242 u243 u244 u245 u246 u247 u248 u249 u250 u251 u252 u253 u254 u255 u256 u257 u258 u259 u260 u261 u262 u263 u264 u265
          revert u218 u219 u220 u221 u222 u223 u224 u225 u226 u227 u228 u229 u230 u231 u232 u233 u234 u235 u236 u237 u238 u239 u240 u241
          revert u191 u192 u193 u194 u195 u196 u197 u198 u199 u200 u201 u202 u206 u207 u208 u209 u210 u211 u212 u213 u214 u215 u216 u217
          revert u167 u168 u169 u170 u171 u172 u173 u174 u175 u176 u177 u178 u179 u180 u181 u182 u183 u184 u185 u186 u187 u188 u189 u190
          revert u143 u144 u145 u146 u147 u148 u149 u150 u151 u152 u153 u154 u155 u156 u157 u158 u159 u160 u161 u162 u163 u164 u165 u166
          revert u119 u120 u121 u122 u123 u124 u125 u126 u127 u128 u129 u130 u131 u132 u133 u134 u135 u136 u137 u138 u139 u140 u141 u142
          revert u95 u96 u97 u98 u99 u100 u101 u102 u103 u104 u105 u106 u107 u108 u109 u110 u111 u112 u113 u114 u115 u116 u117 u118
          revert z22_518 nd z25_4 d7 z26_0 z26_1 z26_2 kj137 HJ137 wc u63 u64 u83 u84 u85 u86 u87 u88 u89 u90 u91 u92 u93 u94
          revert b5 b0 b1 hnb141 hnc141 Ao143 co143 w144 w146 w147 z18_0 z18_1 w148 z19_0 z19_1 w149 z20_0 w150 z22_517 w151 d6 z25_1 z25_2 z25_3
          revert n7 A131 n8 n9 A132 o0 o1 A133 o2 o3 A134 o4 o5 A135 o6 o7 A136 o8 o9 A137 w139 d4 w140 d5
          revert A123 m3 m4 A124 d8 d3 A125 m5 d9 m6 m7 m8 A127 m9 A128 n0 n1 n2 A129 n3 n4 n5 A130 n6
          revert g7 d2 z16_0 z16_1 kj66 HJ66 z22_0 u22 u23 u24 u25 u26 u27 u203 u204 u205 kj89 HJ89 g8 g9 m0 A122 m1 m2
          revert w18 v447 w20 v451 w22 v455 b8 b9 d0 d1 z11_0 z11_1 z8_1 z17_0 z11_2 z15_0 z15_1 z15_2 z15_3 kj11 HJ11 z15_4 u20 u21
          revert f8 A7 f9 g0 A8 g1 g2 A9 g3 g4 A10 g5 g6 A11 z2_0 z8_0 z2_1 w13 b6 w14 b7 b4 w16 v443
          revert k A0 c0 l0 A1 c1 l1 r w hu25 HR0 HC0 HR1 HC1 A3 f1 f2 f3 f4 A5 f5 f6 A6 f7
          exact S_.a
         ·have H' := qb.mk H
          clear H
          rename_i z29_0 z29_1 z29_2
          revert z27_49 HK6 c186b0 c187b0 c187b1 c188 c188b0 c188b1 c189b0 f0 A190 c192b0 c193b0 c193b1 c194b0 c195 c195b0 c195b1 H'
          revert u444 u445 u446 u447 u448 u449 u450 u451 u452 u453 u454 u455 u456 u457 u458 u459 z27_46 z27_47 z27_48 x65_6 b2 b3 HB k6
          revert u420 u421 u422 u423 u424 u425 u426 u427 u428 u429 u430 u431 u432 u433 u434 u435 u436 u437 u438 u439 u440 u441 u442 u443
          revert u599 u600 u601 z29_0 z29_1 z29_2 kj166 HJ166 z26_3 z26_4 z26_5 z26_6 z26_8 A126 z26_7 wr u4 u66 u67 u415 u416 u417 u418 u419
          revert u575 u576 u577 u578 u579 u580 u581 u582 u583 u584 u585 u586 u587 u588 u589 u590 u591 u592 u593 u594 u595 u596 u597 u598
          revert u551 u552 u553 u554 u555 u556 u557 u558 u559 u560 u561 u562 u563 u564 u565 u566 u567 u568 u569 u570 u571 u572 u573 u574
          revert u527 u528 u529 u530 u531 u532 u533 u534 u535 u536 u537 u538 u539 u540 u541 u542 u543 u544 u545 u546 u547 u548 u549 u550
          revert u503 u504 u505 u506 u507 u508 u509 u510 u511 u512 u513 u514 u515 u516 u517 u518 u519 u520 u521 u522 u523 u524 u525 u526
          revert u479 u480 u481 u482 u483 u484 u485 u486 u487 u488 u489 u490 u491 u492 u493 u494 u495 u496 u497 u498 u499 u500 u501 u502
          revert u410 u411 u412 u413 u414 u460 u461 u462 u463 u464 u465 u466 u467 u468 u469 u470 u471 u472 u473 u474 u475 u476 u477 u478
          revert u386 u387 u388 u389 u390 u391 u392 u393 u394 u395 u396 u397 u398 u399 u400 u401 u402 u403 u404 u405 u406 u407 u408 u409
          revert u362 u363 u364 u365 u366 u367 u368 u369 u370 u371 u372 u373 u374 u375 u376 u377 u378 u379 u380 u381 u382 u383 u384 u385
          revert u338 u339 u340 u341 u342 u343 u344 u345 u346 u347 u348 u349 u350 u351 u352 u353 u354 u355 u356 u357 u358 u359 u360 u361
          revert u314 u315 u316 u317 u318 u319 u320 u321 u322 u323 u324 u325 u326 u327 u328 u329 u330 u331 u332 u333 u334 u335 u336 u337
          revert u290 u291 u292 u293 u294 u295 u296 u297 u298 u299 u300 u301 u302 u303 u304 u305 u306 u307 u308 u309 u310 u311 u312 u313
          revert u266 u267 u268 u269 u270 u271 u272 u273 u274 u275 u276 u277 u278 u279 u280 u281 u282 u283 u284 u285 u286 u287 u288 u289
          revert u242 u243 u244 u245 u246 u247 u248 u249 u250 u251 u252 u253 u254 u255 u256 u257 u258 u259 u260 u261 u262 u263 u264 u265
          revert u218 u219 u220 u221 u222 u223 u224 u225 u226 u227 u228 u229 u230 u231 u232 u233 u234 u235 u236 u237 u238 u239 u240 u241
          revert u191 u192 u193 u194 u195 u196 u197 u198 u199 u200 u201 u202 u206 u207 u208 u209 u210 u211 u212 u213 u214 u215 u216 u217
          revert u167 u168 u169 u170 u171 u172 u173 u174 u175 u176 u177 u178 u179 u180 u181 u182 u183 u184 u185 u186 u187 u188 u189 u190
          revert u143 u144 u145 u146 u147 u148 u149 u150 u151 u152 u153 u154 u155 u156 u157 u158 u159 u160 u161 u162 u163 u164 u165 u166
          revert u119 u120 u121 u122 u123 u124 u125 u126 u127 u128 u129 u130 u131 u132 u133 u134 u135 u136 u137 u138 u139 u140 u141 u142
          revert u95 u96 u97 u98 u99 u100 u101 u102 u103 u104 u105 u106 u107 u108 u109 u110 u111 u112 u113 u114 u115 u116 u117 u118
          revert z22_518 nd z25_4 d7 z26_0 z26_1 z26_2 kj137 HJ137 wc u63 u64 u83 u84 u85 u86 u87 u88 u89 u90 u91 u92 u93 u94
          revert b5 b0 b1 hnb141 hnc141 Ao143 co143 w144 w146 w147 z18_0 z18_1 w148 z19_0 z19_1 w149 z20_0 w150 z22_517 w151 d6 z25_1 z25_2 z25_3
          revert n7 A131 n8 n9 A132 o0 o1 A133 o2 o3 A134 o4 o5 A135 o6 o7 A136 o8 o9 A137 w139 d4 w140 d5
          revert A123 m3 m4 A124 d8 d3 A125 m5 d9 m6 m7 m8 A127 m9 A128 n0 n1 n2 A129 n3 n4 n5 A130 n6
          revert g7 d2 z16_0 z16_1 kj66 HJ66 z22_0 u22 u23 u24 u25 u26 u27 u203 u204 u205 kj89 HJ89 g8 g9 m0 A122 m1 m2
          revert w18 v447 w20 v451 w22 v455 b8 b9 d0 d1 z11_0 z11_1 z8_1 z17_0 z11_2 z15_0 z15_1 z15_2 z15_3 kj11 HJ11 z15_4 u20 u21
          revert f8 A7 f9 g0 A8 g1 g2 A9 g3 g4 A10 g5 g6 A11 z2_0 z8_0 z2_1 w13 b6 w14 b7 b4 w16 v443
          revert k A0 c0 l0 A1 c1 l1 r w hu25 HR0 HC0 HR1 HC1 A3 f1 f2 f3 f4 A5 f5 f6 A6 f7
          exact S_.r.a
       ·replace H := iE_ H; obtain ⟨c196b0, c196b1, H⟩ | ⟨c196, c196b0, c196b1, H⟩ := H
        ·cases H
        ·have H' := qb.mk H
         clear H
         rename_i z30_0 z30_1 z30_2
         revert z27_49 HK6 c186b0 c187b0 c187b1 c188 c188b0 c188b1 c189b0 f0 A190 c192b0 c193 c193b0 c193b1 c196 c196b0 c196b1 H'
         revert u444 u445 u446 u447 u448 u449 u450 u451 u452 u453 u454 u455 u456 u457 u458 u459 z27_46 z27_47 z27_48 x65_6 b2 b3 HB k6
         revert u420 u421 u422 u423 u424 u425 u426 u427 u428 u429 u430 u431 u432 u433 u434 u435 u436 u437 u438 u439 u440 u441 u442 u443
         revert u599 u600 u601 z30_0 z30_1 z30_2 kj166 HJ166 z26_3 z26_4 z26_5 z26_6 z26_8 A126 z26_7 wr u4 u66 u67 u415 u416 u417 u418 u419
         revert u575 u576 u577 u578 u579 u580 u581 u582 u583 u584 u585 u586 u587 u588 u589 u590 u591 u592 u593 u594 u595 u596 u597 u598
         revert u551 u552 u553 u554 u555 u556 u557 u558 u559 u560 u561 u562 u563 u564 u565 u566 u567 u568 u569 u570 u571 u572 u573 u574
         revert u527 u528 u529 u530 u531 u532 u533 u534 u535 u536 u537 u538 u539 u540 u541 u542 u543 u544 u545 u546 u547 u548 u549 u550
         revert u503 u504 u505 u506 u507 u508 u509 u510 u511 u512 u513 u514 u515 u516 u517 u518 u519 u520 u521 u522 u523 u524 u525 u526
         revert u479 u480 u481 u482 u483 u484 u485 u486 u487 u488 u489 u490 u491 u492 u493 u494 u495 u496 u497 u498 u499 u500 u501 u502
         revert u410 u411 u412 u413 u414 u460 u461 u462 u463 u464 u465 u466 u467 u468 u469 u470 u471 u472 u473 u474 u475 u476 u477 u478
         revert u386 u387 u388 u389 u390 u391 u392 u393 u394 u395 u396 u397 u398 u399 u400 u401 u402 u403 u404 u405 u406 u407 u408 u409
         revert u362 u363 u364 u365 u366 u367 u368 u369 u370 u371 u372 u373 u374 u375 u376 u377 u378 u379 u380 u381 u382 u383 u384 u385
         revert u338 u339 u340 u341 u342 u343 u344 u345 u346 u347 u348 u349 u350 u351 u352 u353 u354 u355 u356 u357 u358 u359 u360 u361
         revert u314 u315 u316 u317 u318 u319 u320 u321 u322 u323 u324 u325 u326 u327 u328 u329 u330 u331 u332 u333 u334 u335 u336 u337
         revert u290 u291 u292 u293 u294 u295 u296 u297 u298 u299 u300 u301 u302 u303 u304 u305 u306 u307 u308 u309 u310 u311 u312 u313
         revert u266 u267 u268 u269 u270 u271 u272 u273 u274 u275 u276 u277 u278 u279 u280 u281 u282 u283 u284 u285 u286 u287 u288 u289
         revert u242 u243 u244 u245 u246 u247 u248 u249 u250 u251 u252 u253 u254 u255 u256 u257 u258 u259 u260 u261 u262 u263 u264 u265
         revert u218 u219 u220 u221 u222 u223 u224 u225 u226 u227 u228 u229 u230 u231 u232 u233 u234 u235 u236 u237 u238 u239 u240 u241
         revert u191 u192 u193 u194 u195 u196 u197 u198 u199 u200 u201 u202 u206 u207 u208 u209 u210 u211 u212 u213 u214 u215 u216 u217
         revert u167 u168 u169 u170 u171 u172 u173 u174 u175 u176 u177 u178 u179 u180 u181 u182 u183 u184 u185 u186 u187 u188 u189 u190
         revert u143 u144 u145 u146 u147 u148 u149 u150 u151 u152 u153 u154 u155 u156 u157 u158 u159 u160 u161 u162 u163 u164 u165 u166
         revert u119 u120 u121 u122 u123 u124 u125 u126 u127 u128 u129 u130 u131 u132 u133 u134 u135 u136 u137 u138 u139 u140 u141 u142
         revert u95 u96 u97 u98 u99 u100 u101 u102 u103 u104 u105 u106 u107 u108 u109 u110 u111 u112 u113 u114 u115 u116 u117 u118
         revert z22_518 nd z25_4 d7 z26_0 z26_1 z26_2 kj137 HJ137 wc u63 u64 u83 u84 u85 u86 u87 u88 u89 u90 u91 u92 u93 u94
         revert b5 b0 b1 hnb141 hnc141 Ao143 co143 w144 w146 w147 z18_0 z18_1 w148 z19_0 z19_1 w149 z20_0 w150 z22_517 w151 d6 z25_1 z25_2 z25_3
         revert n7 A131 n8 n9 A132 o0 o1 A133 o2 o3 A134 o4 o5 A135 o6 o7 A136 o8 o9 A137 w139 d4 w140 d5
         revert A123 m3 m4 A124 d8 d3 A125 m5 d9 m6 m7 m8 A127 m9 A128 n0 n1 n2 A129 n3 n4 n5 A130 n6
         revert g7 d2 z16_0 z16_1 kj66 HJ66 z22_0 u22 u23 u24 u25 u26 u27 u203 u204 u205 kj89 HJ89 g8 g9 m0 A122 m1 m2
         revert w18 v447 w20 v451 w22 v455 b8 b9 d0 d1 z11_0 z11_1 z8_1 z17_0 z11_2 z15_0 z15_1 z15_2 z15_3 kj11 HJ11 z15_4 u20 u21
         revert f8 A7 f9 g0 A8 g1 g2 A9 g3 g4 A10 g5 g6 A11 z2_0 z8_0 z2_1 w13 b6 w14 b7 b4 w16 v443
         revert k A0 c0 l0 A1 c1 l1 r w hu25 HR0 HC0 HR1 HC1 A3 f1 f2 f3 f4 A5 f5 f6 A6 f7
         exact S_.r.r.a
     ·rw [if_neg c191] at H
      cases H
    ·cases H
   ·cases H
  ·(first | rw [c186b0] | (simp only [i64_w, i32_w]; rw [c186b0]) | skip)
   have H' := qb.mk H;clear H
   go_wp2
   go_meet
   case rel => exact ⟨_, H', ⟨by have := HJ11.out; have := HJ66.out; have := HJ89.out; have := HJ137.out; have := HJ166.out; have := HK6.out; first | omega | exact Nat.le_refl _⟩, ⟨bk_ b2⟩, ⟨bk_ b3⟩, ⟨be2_ HB b4 b5⟩⟩
 : Bx.A1 laws_FnPostDelivers.p26)
end Go.Proofs.YtpopeedfgenebaaGreat.PFnPostDelivers
