/- Cut by wip/cut.py out of the texts of this claim (printed by the kit's printer, or this session's own): what the row's theorem does not reach is struck. Not trusted: Lean checks it. -/
import Derived.Test.YtpopeedfgenebaaGreatZFnPostDeliversPx37
namespace Go.Proofs.YtpopeedfgenebaaGreat.PFnPostDelivers
open Go.RowKit Go.Proofs.YtpopeedfgenebaaGreatW.PrintWords Go.Proofs.YtpopeedfgenebaaGreatW.PrintLast Go.Proofs.YtpopeedfgenebaaGreatW.PrintMore
attribute [local go_sem] zq zo zx zw zk zj zp zn
set_option linter.unusedVariables false
set_option linter.defProp false
set_option linter.unusedSimpArgs false
set_option maxHeartbeats 8000000 in
set_option maxRecDepth 100000 in
def laws_FnPostDelivers.p23 := fun (S_ : Bx _ (Unit)) => (by
 unfold Bx.A1
 intro k A0 c0 l0 A1 c1 l1 r w hu25 HR0 HC0 HR1 HC1 A3 d7 d8 d9 f0 A5 f1 f2 A6 f3 f4 A7 f5 f6 A8 f7 f8 A9 f9 g0 A10 g1 g2 A11 z2_0 z8_0 z2_1 w13 b6 w14 b7 b3 w16 v443 w18 v447 w20 v451 w22 v455 b8 b9 d0 d1 z11_0 z11_1 z8_1 z17_0 z11_2 z15_0 z15_1 z15_2 z15_3 kj11 HJ11 z15_4 u20 u21 g3 d2 z16_0 z16_1 kj66 HJ66 z22_0 u4 u22 u23 u24 u25 u26 u27 u203 u204 u205 kj89 HJ89 g4 g5 g6 A122 g7 p2 A123 g8 g9 A124 m0 m1 A125 m2 m3 m4 A126 m5 m6 m7 A127 m8 A128 m9 n0 n1 A129 n2 n3 n4 A130 n5 n6 A131 n7 n8 A132 n9 o0 A133 o1 o2 A134 o3 o4 A135 o5 o6 A136 o7 o8 A137 w139 d3 w140 d4 b4 b0 b1 hnb141 hnc141 Ao143 co143 w144 w146 w147 z18_0 z18_1 w148 z19_0 z19_1 w149 z20_0 w150 z22_517 w151 d5 z23_0 z23_1 z23_2 z22_518 nd wc u83 u84 u85 u86 u87 u88 u89 u90 u91 u92 u93 u94 u95 u96 u97 u98 u99 u100 u101 u102 u103 u104 u105 u106 u107 u108 u109 u110 u111 u112 u113 u114 u115 u116 u117 u118 u119 u120 u121 u122 u123 u124 u125 u126 u127 u128 u129 u130 u131 u132 u133 u134 u135 u136 u137 u138 u139 u140 u141 u142 u143 u144 u145 u146 u147 u148 u149 u150 u151 u152 u153 u154 u155 u156 u157 u158 u159 u160 u161 u162 u163 u164 u165 u166 u167 u168 u169 u170 u171 u172 u173 u174 u175 u176 u177 u178 u179 u180 u181 u182 u183 u184 u185 u186 u187 u188 u189 u190 u191 u192 u193 u194 u195 u196 u197 u198 u199 u200 u201 u202 u206 u207 u208 u209 u210 u211 u212 u213 u214 u215 u216 u217 u218 u219 u220 u221 u222 u223 u224 u225 u226 u227 u228 u229 u230 u231 u232 u233 u234 u235 u236 u237 u238 u239 u240 u241 u242 u243 u244 u245 u246 u247 u248 u249 u250 u251 u252 u253 u254 u255 u256 u257 u258 u259 u260 u261 u262 u263 u264 u265 u266 u267 u268 u269 u270 u271 u272 u273 u274 u275 u276 u277 u278 u279 u280 u281 u282 u283 u284 u285 u286 u287 u288 u289 u290 u291 u292 u293 u294 u295 u296 u297 u298 u299 u300 u301 u302 u303 u304 u305 u306 u307 u308 u309 u310 u311 u312 u313 u314 u315 u316 u317 u318 u319 u320 u321 u322 u323 u324 u325 u326 u327 u328 u329 u330 u331 u332 u333 u334 u335 u336 u337 u338 u339 u340 u341 u342 u343 u344 u345 u346 u347 u348 u349 u350 u351 u352 u353 u354 u355 u356 u357 u358 u359 u360 u361 u362 u363 u364 u365 u366 u367 u368 u369 u370 u371 u372 u373 u374 u375 u376 u377 u378 u379 u380 u381 u382 u383 u384 u385 u386 u387 u388 u389 u390 u391 u392 u393 u394 u395 u396 u397 u399 u400 u401 u402 u403 u404 u405 u406 u407 u408 u409 u410 u411 u412 u413 u414 u415 u416 u417 u418 u419 u420 u421 u422 u423 u424 u425 u426 u427 u428 u429 u430 u431 u432 u433 u434 u435 u436 u437 u438 u439 u440 u441 u442 u443 u444 u445 u446 u447 u448 u449 u450 u451 u452 u453 u454 u455 u456 u457 u458 u459 u460 u461 u462 u463 u464 u465 u466 u467 u468 u469 u470 u471 u472 u473 u474 u475 u476 u477 u478 u479 u480 u481 u482 u483 u484 u485 u486 u487 u488 u489 u490 u491 u492 u493 u494 u495 u496 u497 u498 u499 u500 u501 u502 u503 u504 u505 u506 u507 u508 u509 u510 u511 u512 u513 u514 u515 u516 u517 u518 u519 u520 u521 u522 u523 u524 u525 u526 u527 u528 u529 u530 u531 u532 u533 u534 u535 u536 u537 u538 u539 u540 u541 u542 u543 u544 u545 u546 u547 u548 u549 u550 u551 u552 u553 u554 u555 u556 u557 u558 u559 u560 u561 u562 u563 u564 u565 u566 u567 u568 u569 u570 u571 u572 u573 u574 u575 u576 u577 u578 u579 u580 u581 u582 u583 u584 u585 u586 u587 u588 u589 u590 u591 u592 u593 u594 u595 u596 u597 u598 u599 u600 u601 d6 b5 b2 HB kj137 HJ137 HC167 z23_3 z23_4 z23_5 z23_6 z23_7 z23_8
 have H := HC167.out;clear HC167;replace H := iB_ H; obtain ⟨rfl, H⟩ | ⟨rfl, H⟩ := H
 ·replace H := bX_ H; obtain ⟨⟨o9, p0⟩, A169, H⟩ := H; (try dsimp only at H)
  by_cases c170 : p0 = true
  ·subst c170
   rw [if_pos rfl] at H;replace H := bX_ H; obtain ⟨p1, A171, H⟩ := H
   by_cases c172 : p1 = true
   ·subst c172
    rw [if_pos rfl] at H;have H' := qb.mk H;clear H;have hnb173 := b1.out;have hnc173 := b0.out;have hcz174_0 := cC_ b2 0;have hcz174_1 := cC_ b2 1;have hfz174_0 := qi b2.out 0;have hfz174_1 := qi b2.out 1
    revert z23_6 z23_8 A123 z23_7 o9 A169 A171 H' hnb173 hnc173 hcz174_0 hcz174_1 hfz174_0 hfz174_1
    revert u587 u588 u589 u590 u591 u592 u593 u594 u595 u596 u597 u598 u599 u600 u601 d6 b5 b2 HB kj137 HJ137 z23_3 z23_4 z23_5
    revert u563 u564 u565 u566 u567 u568 u569 u570 u571 u572 u573 u574 u575 u576 u577 u578 u579 u580 u581 u582 u583 u584 u585 u586
    revert u539 u540 u541 u542 u543 u544 u545 u546 u547 u548 u549 u550 u551 u552 u553 u554 u555 u556 u557 u558 u559 u560 u561 u562
    revert u515 u516 u517 u518 u519 u520 u521 u522 u523 u524 u525 u526 u527 u528 u529 u530 u531 u532 u533 u534 u535 u536 u537 u538
    revert u491 u492 u493 u494 u495 u496 u497 u498 u499 u500 u501 u502 u503 u504 u505 u506 u507 u508 u509 u510 u511 u512 u513 u514
    revert u467 u468 u469 u470 u471 u472 u473 u474 u475 u476 u477 u478 u479 u480 u481 u482 u483 u484 u485 u486 u487 u488 u489 u490
    revert u443 u444 u445 u446 u447 u448 u449 u450 u451 u452 u453 u454 u455 u456 u457 u458 u459 u460 u461 u462 u463 u464 u465 u466
    revert u419 u420 u421 u422 u423 u424 u425 u426 u427 u428 u429 u430 u431 u432 u433 u434 u435 u436 u437 u438 u439 u440 u441 u442
    revert u394 u395 u396 u397 u399 u400 u401 u402 u403 u404 u405 u406 u407 u408 u409 u410 u411 u412 u413 u414 u415 u416 u417 u418
    revert u370 u371 u372 u373 u374 u375 u376 u377 u378 u379 u380 u381 u382 u383 u384 u385 u386 u387 u388 u389 u390 u391 u392 u393
    revert u346 u347 u348 u349 u350 u351 u352 u353 u354 u355 u356 u357 u358 u359 u360 u361 u362 u363 u364 u365 u366 u367 u368 u369
    revert u322 u323 u324 u325 u326 u327 u328 u329 u330 u331 u332 u333 u334 u335 u336 u337 u338 u339 u340 u341 u342 u343 u344 u345
    revert u298 u299 u300 u301 u302 u303 u304 u305 u306 u307 u308 u309 u310 u311 u312 u313 u314 u315 u316 u317 u318 u319 u320 u321
    revert u274 u275 u276 u277 u278 u279 u280 u281 u282 u283 u284 u285 u286 u287 u288 u289 u290 u291 u292 u293 u294 u295 u296 u297
    revert u250 u251 u252 u253 u254 u255 u256 u257 u258 u259 u260 u261 u262 u263 u264 u265 u266 u267 u268 u269 u270 u271 u272 u273
    revert u226 u227 u228 u229 u230 u231 u232 u233 u234 u235 u236 u237 u238 u239 u240 u241 u242 u243 u244 u245 u246 u247 u248 u249
    revert u199 u200 u201 u202 u206 u207 u208 u209 u210 u211 u212 u213 u214 u215 u216 u217 u218 u219 u220 u221 u222 u223 u224 u225
    revert u175 u176 u177 u178 u179 u180 u181 u182 u183 u184 u185 u186 u187 u188 u189 u190 u191 u192 u193 u194 u195 u196 u197 u198
    revert u151 u152 u153 u154 u155 u156 u157 u158 u159 u160 u161 u162 u163 u164 u165 u166 u167 u168 u169 u170 u171 u172 u173 u174
    revert u127 u128 u129 u130 u131 u132 u133 u134 u135 u136 u137 u138 u139 u140 u141 u142 u143 u144 u145 u146 u147 u148 u149 u150
    revert u103 u104 u105 u106 u107 u108 u109 u110 u111 u112 u113 u114 u115 u116 u117 u118 u119 u120 u121 u122 u123 u124 u125 u126
    revert z23_2 z22_518 nd wc u83 u84 u85 u86 u87 u88 u89 u90 u91 u92 u93 u94 u95 u96 u97 u98 u99 u100 u101 u102
    revert d4 b4 b0 b1 hnb141 hnc141 Ao143 co143 w144 w146 w147 z18_0 z18_1 w148 z19_0 z19_1 w149 z20_0 w150 z22_517 w151 d5 z23_0 z23_1
    revert n5 n6 A131 n7 n8 A132 n9 o0 A133 o1 o2 A134 o3 o4 A135 o5 o6 A136 o7 o8 A137 w139 d3 w140
    revert g8 g9 A124 m0 m1 A125 m2 m3 m4 A126 m5 m6 m7 A127 m8 A128 m9 n0 n1 A129 n2 n3 n4 A130
    revert g3 d2 z16_0 z16_1 kj66 HJ66 z22_0 u4 u22 u23 u24 u25 u26 u27 u203 u204 u205 kj89 HJ89 g4 g5 g6 A122 g7
    revert w18 v447 w20 v451 w22 v455 b8 b9 d0 d1 z11_0 z11_1 z8_1 z17_0 z11_2 z15_0 z15_1 z15_2 z15_3 kj11 HJ11 z15_4 u20 u21
    revert f4 A7 f5 f6 A8 f7 f8 A9 f9 g0 A10 g1 g2 A11 z2_0 z8_0 z2_1 w13 b6 w14 b7 b3 w16 v443
    revert k A0 c0 l0 A1 c1 l1 r w hu25 HR0 HC0 HR1 HC1 A3 d7 d8 d9 f0 A5 f1 f2 A6 f3
    exact S_.a
   ·rw [if_neg c172] at H
    cases H
  ·rw [if_neg c170] at H
   cases H
 ·have H' := qb.mk H
  clear H
  go_wp2
  go_meet
  case rel => exact ⟨_, H', ⟨by have := HJ11.out; have := HJ66.out; have := HJ89.out; have := HJ137.out; first | omega | exact Nat.le_refl _⟩, ⟨bk_ b5⟩, ⟨bk_ b2⟩, ⟨be2_ HB b3 b4⟩⟩
 : Bx.A1 laws_FnPostDelivers.p22)
end Go.Proofs.YtpopeedfgenebaaGreat.PFnPostDelivers
