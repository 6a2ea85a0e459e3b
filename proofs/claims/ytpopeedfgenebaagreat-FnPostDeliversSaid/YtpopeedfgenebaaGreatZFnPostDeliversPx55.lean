/- Cut by wip/cut.py out of the texts of this claim (printed by the kit's printer, or this session's own): what the row's theorem does not reach is struck. Not trusted: Lean checks it. -/
import Derived.Test.YtpopeedfgenebaaGreatZFnPostDeliversPx50
namespace Go.Proofs.YtpopeedfgenebaaGreat.PFnPostDelivers
open Go.RowKit Go.Proofs.YtpopeedfgenebaaGreatW.PrintWords Go.Proofs.YtpopeedfgenebaaGreatW.PrintLast Go.Proofs.YtpopeedfgenebaaGreatW.PrintMore
attribute [local go_sem] zq zo zx zw zk zj zp zn
set_option linter.unusedVariables false
set_option linter.defProp false
set_option linter.unusedSimpArgs false
set_option maxHeartbeats 8000000 in
set_option maxRecDepth 100000 in
def laws_FnPostDelivers.p37 := fun (S_ : Bx _ (Bx _ (Bx _ (Bx _ (Bx _ (Unit)))))) => (by
 unfold Bx.A1
 intro k A0 c0 l0 A1 c1 l1 r w hu25 HR0 HC0 HR1 HC1 A3 f7 f8 f9 g0 A5 g1 g2 A6 g3 g4 A7 g5 g6 A8 g7 g8 A9 g9 m0 A10 m1 m2 A11 z2_0 z8_0 z2_1 w13 d4 w14 d5 d6 w16 v443 w18 v447 w20 v451 w22 v455 d7 d8 d9 f0 z11_0 z11_1 z8_1 z17_0 z11_2 z15_0 z15_1 z15_2 z15_3 kj11 HJ11 z15_4 u20 u21 m3 f1 z16_0 z16_1 kj66 HJ66 z22_0 u22 u23 u24 u25 u26 u27 u203 u204 u205 kj89 HJ89 m4 m5 m6 A122 m7 m8 A123 m9 n0 A124 n1 n2 A125 n3 n4 n5 A126 n6 n7 n8 A127 b0 A128 b3 b4 n9 o0 o1 A130 b7 b8 A131 o2 o3 A132 b9 o4 A133 o5 o6 A134 d0 d1 A135 d2 d3 A136 o7 o8 A137 w139 f2 w140 f3 f4 b1 b2 hnb141 hnc141 Ao143 co143 w144 w146 w147 z18_0 z18_1 w148 z19_0 z19_1 w149 z20_0 w150 z22_517 w151 f5 z25_1 z25_2 z25_3 z22_518 nd z25_4 f6 z31_0 z31_1 z31_2 kj137 HJ137 z31_3 u63 u64 z32_0 z32_1 z32_2 kj166 HJ166 z35_0 u65 u66 u67 z36_0 z36_1 z36_2 kj183 HJ183 z32_3 z32_4 z32_5 z32_6 z32_8 A129 z32_7 wc u83 u84 u85 u86 u87 u88 u89 u90 u91 u92 u93 u94 u95 u96 u97 u98 u99 u100 u101 u102 u103 u104 u105 u106 u107 u108 u109 u110 u111 u112 u113 u114 u115 u116 u117 u118 u119 u120 u121 u122 u123 u124 u125 u126 u127 u128 u129 u130 u131 u132 u133 u134 u135 u136 u137 u138 u139 u140 u141 u142 u143 u144 u145 u146 u147 u148 u149 u150 u151 u152 u153 u154 u155 u156 u157 u158 u159 u160 u161 u162 u163 u164 u165 u166 u167 u168 u169 u170 u171 u172 u173 u174 u175 u176 u177 u178 u179 u180 u181 u182 u183 u184 u185 u186 u187 u188 u189 u190 u191 u192 u193 u194 u195 u196 u197 u198 u199 u200 u201 u202 u206 u207 u208 u209 u210 u211 u212 u213 u214 u215 u216 u217 u218 u219 u220 u221 u222 u223 u224 u225 u226 u227 u228 u229 u230 u231 u232 u233 u234 u235 u236 u237 u238 u239 u240 u241 u242 u243 u244 u245 u246 u247 u248 u249 u250 u251 u252 u253 u254 u255 u256 u257 u258 u259 u260 u261 u262 u263 u264 u265 u266 u267 u268 u269 u270 u271 u272 u273 u274 u275 u276 u277 u278 u279 u280 u281 u282 u283 u284 u285 u286 u287 u288 u289 u290 u291 u292 u293 u294 u295 u296 u297 u298 u299 u300 u301 u302 u303 u304 u305 u306 u307 u308 u309 u310 u311 u312 u313 u314 u315 u316 u317 u318 u319 u320 u321 u322 u323 u324 u325 u326 u327 u328 u329 u330 u331 u332 u333 u334 u335 u336 u337 u338 u339 u340 u341 u342 u343 u344 u345 u346 u347 u348 u349 u350 u351 u352 u353 u354 u355 u356 u357 u358 u359 u360 u361 u362 u363 u364 u365 u366 u367 u368 u369 u370 u371 u372 u373 u374 u375 u376 u377 u378 u379 u380 u381 u382 u383 u384 u385 u386 u387 u388 u389 u390 u391 u392 u393 u394 u395 u396 u397 u398 u399 u400 u401 u402 u403 u404 u405 u406 u407 u408 u409 u410 u411 u412 u413 u414 u415 u416 u417 u418 u419 u420 u421 u422 u423 u424 u425 u426 u427 u428 u429 u430 u431 u432 u433 u434 u435 u436 u437 u438 u439 u440 u441 u442 u443 u444 u445 u446 u447 u448 u449 u450 u451 u452 u453 u454 u455 u456 u457 u458 u459 u460 u461 u462 u463 u464 u465 u466 u467 u468 u469 u470 u471 u472 u473 u475 u487 u488 u489 u490 u491 u492 u493 u494 u495 u496 u497 u498 u499 u500 u501 u502 u503 u504 u505 u506 u507 u508 u509 u510 u511 u512 u513 u514 u515 u516 u517 u518 u519 u520 u521 u522 u523 u524 u525 u526 u527 u528 u529 u530 u531 u532 u533 u534 u535 u536 u537 u538 u539 u540 u541 u542 u543 u544 u545 u546 u547 u548 u549 u550 u551 u552 u553 u554 u555 u556 u557 u558 u559 u560 u561 u562 u563 u564 u565 u566 u567 u568 u569 u570 u571 u572 u573 u574 u575 u576 u577 u578 u579 u580 u581 u582 u583 u584 u585 u586 u587 u588 u589 u590 u591 u592 u593 u594 u595 u596 u597 u598 u599 u600 u601 b5 b6 HB kj198 HJ198 H' z37_12 z37_13 gk wr u4 u68 u476 u477 u478 u479 u480 u481 u482 u483 u484 u485 u486 hrel z37_14 z37_15 z37_16 z37_17
 clear H';(try clear c1);obtain ⟨x68_8, rfl, HA, HK8, b5, b6, HB⟩ := hrel;cases gk with
 | zero => exact absurd HA.out (by simp [laws_FnPostDelivers.l2])
 | succ k8 =>
  have H := HA.out;clear HA
  simp only [laws_FnPostDelivers.l2] at H
  replace H := iD_ H; obtain ⟨c203b0, H⟩ | ⟨c203b0, H⟩ := H
  ·replace H := iD_ H; obtain ⟨c204b0, H⟩ | ⟨c204b0, H⟩ := H
   ·replace H := iD_ H; obtain ⟨c205b0, H⟩ | ⟨c205b0, H⟩ := H
    ·replace H := iE_ H; obtain ⟨c207b0, c207b1, H⟩ | ⟨c207, c207b0, c207b1, H⟩ := H
     ·have H' := qb.mk H
      clear H;have p206 : 0 ≤ (x68_8 : Int) := od_;have q206 : x68_8 < (b0.size : Int) := od_;have hx206 := bt_at b0 x68_8;replace p206 := eq_true p206;replace q206 := eq_true q206
      rename_i z38_0 z38_1 z38_2
      revert q206
      revert u481 u482 u483 u484 u485 u486 z37_14 z37_15 z37_16 x68_8 b5 b6 HB k8 z37_17 HK8 c203b0 c204b0 c205b0 c207b0 c207b1 H' hx206 p206
      revert u592 u593 u594 u595 u596 u597 u598 u599 u600 u601 z38_0 z38_1 z38_2 kj198 HJ198 z37_12 z37_13 wr u4 u476 u477 u478 u479 u480
      revert u568 u569 u570 u571 u572 u573 u574 u575 u576 u577 u578 u579 u580 u581 u582 u583 u584 u585 u586 u587 u588 u589 u590 u591
      revert u544 u545 u546 u547 u548 u549 u550 u551 u552 u553 u554 u555 u556 u557 u558 u559 u560 u561 u562 u563 u564 u565 u566 u567
      revert u520 u521 u522 u523 u524 u525 u526 u527 u528 u529 u530 u531 u532 u533 u534 u535 u536 u537 u538 u539 u540 u541 u542 u543
      revert u496 u497 u498 u499 u500 u501 u502 u503 u504 u505 u506 u507 u508 u509 u510 u511 u512 u513 u514 u515 u516 u517 u518 u519
      revert u460 u461 u462 u463 u464 u465 u466 u467 u468 u469 u470 u471 u472 u473 u475 u487 u488 u489 u490 u491 u492 u493 u494 u495
      revert u436 u437 u438 u439 u440 u441 u442 u443 u444 u445 u446 u447 u448 u449 u450 u451 u452 u453 u454 u455 u456 u457 u458 u459
      revert u412 u413 u414 u415 u416 u417 u418 u419 u420 u421 u422 u423 u424 u425 u426 u427 u428 u429 u430 u431 u432 u433 u434 u435
      revert u388 u389 u390 u391 u392 u393 u394 u395 u396 u397 u398 u399 u400 u401 u402 u403 u404 u405 u406 u407 u408 u409 u410 u411
      revert u364 u365 u366 u367 u368 u369 u370 u371 u372 u373 u374 u375 u376 u377 u378 u379 u380 u381 u382 u383 u384 u385 u386 u387
      revert u340 u341 u342 u343 u344 u345 u346 u347 u348 u349 u350 u351 u352 u353 u354 u355 u356 u357 u358 u359 u360 u361 u362 u363
      revert u316 u317 u318 u319 u320 u321 u322 u323 u324 u325 u326 u327 u328 u329 u330 u331 u332 u333 u334 u335 u336 u337 u338 u339
      revert u292 u293 u294 u295 u296 u297 u298 u299 u300 u301 u302 u303 u304 u305 u306 u307 u308 u309 u310 u311 u312 u313 u314 u315
      revert u268 u269 u270 u271 u272 u273 u274 u275 u276 u277 u278 u279 u280 u281 u282 u283 u284 u285 u286 u287 u288 u289 u290 u291
      revert u244 u245 u246 u247 u248 u249 u250 u251 u252 u253 u254 u255 u256 u257 u258 u259 u260 u261 u262 u263 u264 u265 u266 u267
      revert u220 u221 u222 u223 u224 u225 u226 u227 u228 u229 u230 u231 u232 u233 u234 u235 u236 u237 u238 u239 u240 u241 u242 u243
      revert u193 u194 u195 u196 u197 u198 u199 u200 u201 u202 u206 u207 u208 u209 u210 u211 u212 u213 u214 u215 u216 u217 u218 u219
      revert u169 u170 u171 u172 u173 u174 u175 u176 u177 u178 u179 u180 u181 u182 u183 u184 u185 u186 u187 u188 u189 u190 u191 u192
      revert u145 u146 u147 u148 u149 u150 u151 u152 u153 u154 u155 u156 u157 u158 u159 u160 u161 u162 u163 u164 u165 u166 u167 u168
      revert u121 u122 u123 u124 u125 u126 u127 u128 u129 u130 u131 u132 u133 u134 u135 u136 u137 u138 u139 u140 u141 u142 u143 u144
      revert u97 u98 u99 u100 u101 u102 u103 u104 u105 u106 u107 u108 u109 u110 u111 u112 u113 u114 u115 u116 u117 u118 u119 u120
      revert kj183 HJ183 z32_3 z32_4 z32_5 z32_6 z32_8 A129 z32_7 wc u83 u84 u85 u86 u87 u88 u89 u90 u91 u92 u93 u94 u95 u96
      revert z22_518 nd z25_4 f6 z31_0 z31_1 z31_2 kj137 HJ137 z31_3 u63 u64 z32_0 z32_1 z32_2 kj166 HJ166 z35_0 u65 u66 u67 z36_0 z36_1 z36_2
      revert f4 b1 b2 hnb141 hnc141 Ao143 co143 w144 w146 w147 z18_0 z18_1 w148 z19_0 z19_1 w149 z20_0 w150 z22_517 w151 f5 z25_1 z25_2 z25_3
      revert b8 A131 o2 o3 A132 b9 o4 A133 o5 o6 A134 d0 d1 A135 d2 d3 A136 o7 o8 A137 w139 f2 w140 f3
      revert A123 m9 n0 A124 n1 n2 A125 n3 n4 n5 A126 n6 n7 n8 A127 b0 A128 b3 b4 n9 o0 o1 A130 b7
      revert m3 f1 z16_0 z16_1 kj66 HJ66 z22_0 u22 u23 u24 u25 u26 u27 u203 u204 u205 kj89 HJ89 m4 m5 m6 A122 m7 m8
      revert w18 v447 w20 v451 w22 v455 d7 d8 d9 f0 z11_0 z11_1 z8_1 z17_0 z11_2 z15_0 z15_1 z15_2 z15_3 kj11 HJ11 z15_4 u20 u21
      revert g4 A7 g5 g6 A8 g7 g8 A9 g9 m0 A10 m1 m2 A11 z2_0 z8_0 z2_1 w13 d4 w14 d5 d6 w16 v443
      revert k A0 c0 l0 A1 c1 l1 r w hu25 HR0 HC0 HR1 HC1 A3 f7 f8 f9 g0 A5 g1 g2 A6 g3
      exact S_.a
     ·cases H
    ·cases H
   ·cases H
  ·replace H := iC_ H; obtain ⟨c208, H⟩ | ⟨c208, H⟩ := H
   ·have c208b0 : decide (0 < b3) = true := decide_eq_true c208
    clear c208;obtain ⟨ji209, hji209⟩ : ∃ j_ : Int, (wrap64 (b3 - 1)) = j_ := ⟨_, rfl⟩;replace H : (if 0 ≤ (ji209) then (if (ji209) < (b0.size : Int) then (if (bt b0 (ji209)) = 45 then (none) else (if (wrap64 (b3 + b4)) < (b0.size : Int) then (if 0 ≤ (wrap64 (b3 + b4)) then (if (bt b0 (wrap64 (b3 + b4))) = 45 then (none) else (laws_FnPostDelivers.j10 k8 b0 b7 b8 b9 d0 d1 d2 d3)) else (none)) else (laws_FnPostDelivers.j10 k8 b0 b7 b8 b9 d0 d1 d2 d3))) else (none)) else (none)) = some r := by first | (rw [hji209] at H; exact H) | (simp only [hji209] at H ⊢; exact H)
    have hji209w : (IntKind.i64.wrap (b3 - 1)) = ji209 := (i64_w _).trans hji209;replace H := iD_ H; obtain ⟨c210b0, H⟩ | ⟨c210b0, H⟩ := H
    ·replace H := iD_ H; obtain ⟨c211b0, H⟩ | ⟨c211b0, H⟩ := H
     ·replace H := iE_ H; obtain ⟨c213b0, c213b1, H⟩ | ⟨c213, c213b0, c213b1, H⟩ := H
      ·cases H
      ·replace H := iD_ H; obtain ⟨c214b0, H⟩ | ⟨c214b0, H⟩ := H
       ·obtain ⟨ji215, hji215⟩ : ∃ j_ : Int, (wrap64 (b3 + b4)) = j_ := ⟨_, rfl⟩
        replace H : (if 0 ≤ (ji215) then (if (bt b0 (ji215)) = 45 then (none) else (laws_FnPostDelivers.j10 k8 b0 b7 b8 b9 d0 d1 d2 d3)) else (none)) = some r := by first | (rw [hji215] at H; exact H) | (simp only [hji215] at H ⊢; exact H)
        (try rw [hji215] at c203b0)
        (try rw [hji215] at c214b0)
        have hji215w : (IntKind.i64.wrap (b3 + b4)) = ji215 := (i64_w _).trans hji215;replace H := iD_ H; obtain ⟨c216b0, H⟩ | ⟨c216b0, H⟩ := H
        ·replace H := iE_ H; obtain ⟨c218b0, c218b1, H⟩ | ⟨c218, c218b0, c218b1, H⟩ := H
         ·cases H
         ·have H' := qb.mk H
          clear H;have p212 : 0 ≤ ((ji209) : Int) := od_;have q212 : (ji209) < (b0.size : Int) := od_;have hx212 := bt_at b0 (ji209);replace p212 := eq_true p212;replace q212 := eq_true q212;have p217 : 0 ≤ ((ji215) : Int) := od_;have q217 : (ji215) < (b0.size : Int) := od_;have hx217 := bt_at b0 (ji215);replace p217 := eq_true p217;replace q217 := eq_true q217
          rename_i z39_0 z39_1 z39_2
          revert c213b1 ji215 c214b0 c203b0 hji215 hji215w c216b0 c218 c218b0 c218b1 H' hx212 p212 q212 hx217 p217 q217
          revert u481 u482 u483 u484 u485 u486 z37_14 z37_15 z37_16 x68_8 b5 b6 HB k8 z37_17 HK8 c208b0 ji209 hji209 hji209w c210b0 c211b0 c213 c213b0
          revert u592 u593 u594 u595 u596 u597 u598 u599 u600 u601 z39_0 z39_1 z39_2 kj198 HJ198 z37_12 z37_13 wr u4 u476 u477 u478 u479 u480
          revert u568 u569 u570 u571 u572 u573 u574 u575 u576 u577 u578 u579 u580 u581 u582 u583 u584 u585 u586 u587 u588 u589 u590 u591
          revert u544 u545 u546 u547 u548 u549 u550 u551 u552 u553 u554 u555 u556 u557 u558 u559 u560 u561 u562 u563 u564 u565 u566 u567
          revert u520 u521 u522 u523 u524 u525 u526 u527 u528 u529 u530 u531 u532 u533 u534 u535 u536 u537 u538 u539 u540 u541 u542 u543
          revert u496 u497 u498 u499 u500 u501 u502 u503 u504 u505 u506 u507 u508 u509 u510 u511 u512 u513 u514 u515 u516 u517 u518 u519
          revert u460 u461 u462 u463 u464 u465 u466 u467 u468 u469 u470 u471 u472 u473 u475 u487 u488 u489 u490 u491 u492 u493 u494 u495
          revert u436 u437 u438 u439 u440 u441 u442 u443 u444 u445 u446 u447 u448 u449 u450 u451 u452 u453 u454 u455 u456 u457 u458 u459
          revert u412 u413 u414 u415 u416 u417 u418 u419 u420 u421 u422 u423 u424 u425 u426 u427 u428 u429 u430 u431 u432 u433 u434 u435
          revert u388 u389 u390 u391 u392 u393 u394 u395 u396 u397 u398 u399 u400 u401 u402 u403 u404 u405 u406 u407 u408 u409 u410 u411
          revert u364 u365 u366 u367 u368 u369 u370 u371 u372 u373 u374 u375 u376 u377 u378 u379 u380 u381 u382 u383 u384 u385 u386 u387
          revert u340 u341 u342 u343 u344 u345 u346 u347 u348 u349 u350 u351 u352 u353 u354 u355 u356 u357 u358 u359 u360 u361 u362 u363
          revert u316 u317 u318 u319 u320 u321 u322 u323 u324 u325 u326 u327 u328 u329 u330 u331 u332 u333 u334 u335 u336 u337 u338 u339
          revert u292 u293 u294 u295 u296 u297 u298 u299 u300 u301 u302 u303 u304 u305 u306 u307 u308 u309 u310 u311 u312 u313 u314 u315
          revert u268 u269 u270 u271 u272 u273 u274 u275 u276 u277 u278 u279 u280 u281 u282 u283 u284 u285 u286 u287 u288 u289 u290 u291
          revert u244 u245 u246 u247 u248 u249 u250 u251 u252 u253 u254 u255 u256 u257 u258 u259 u260 u261 u262 u263 u264 u265 u266 u267
          revert u220 u221 u222 u223 u224 u225 u226 u227 u228 u229 u230 u231 u232 u233 u234 u235 u236 u237 u238 u239 u240 u241 u242 u243
          revert u193 u194 u195 u196 u197 u198 u199 u200 u201 u202 u206 u207 u208 u209 u210 u211 u212 u213 u214 u215 u216 u217 u218 u219
          revert u169 u170 u171 u172 u173 u174 u175 u176 u177 u178 u179 u180 u181 u182 u183 u184 u185 u186 u187 u188 u189 u190 u191 u192
          revert u145 u146 u147 u148 u149 u150 u151 u152 u153 u154 u155 u156 u157 u158 u159 u160 u161 u162 u163 u164 u165 u166 u167 u168
          revert u121 u122 u123 u124 u125 u126 u127 u128 u129 u130 u131 u132 u133 u134 u135 u136 u137 u138 u139 u140 u141 u142 u143 u144
          revert u97 u98 u99 u100 u101 u102 u103 u104 u105 u106 u107 u108 u109 u110 u111 u112 u113 u114 u115 u116 u117 u118 u119 u120
          revert kj183 HJ183 z32_3 z32_4 z32_5 z32_6 z32_8 A129 z32_7 wc u83 u84 u85 u86 u87 u88 u89 u90 u91 u92 u93 u94 u95 u96
          revert z22_518 nd z25_4 f6 z31_0 z31_1 z31_2 kj137 HJ137 z31_3 u63 u64 z32_0 z32_1 z32_2 kj166 HJ166 z35_0 u65 u66 u67 z36_0 z36_1 z36_2
          revert f4 b1 b2 hnb141 hnc141 Ao143 co143 w144 w146 w147 z18_0 z18_1 w148 z19_0 z19_1 w149 z20_0 w150 z22_517 w151 f5 z25_1 z25_2 z25_3
          revert b8 A131 o2 o3 A132 b9 o4 A133 o5 o6 A134 d0 d1 A135 d2 d3 A136 o7 o8 A137 w139 f2 w140 f3
          revert A123 m9 n0 A124 n1 n2 A125 n3 n4 n5 A126 n6 n7 n8 A127 b0 A128 b3 b4 n9 o0 o1 A130 b7
          revert m3 f1 z16_0 z16_1 kj66 HJ66 z22_0 u22 u23 u24 u25 u26 u27 u203 u204 u205 kj89 HJ89 m4 m5 m6 A122 m7 m8
          revert w18 v447 w20 v451 w22 v455 d7 d8 d9 f0 z11_0 z11_1 z8_1 z17_0 z11_2 z15_0 z15_1 z15_2 z15_3 kj11 HJ11 z15_4 u20 u21
          revert g4 A7 g5 g6 A8 g7 g8 A9 g9 m0 A10 m1 m2 A11 z2_0 z8_0 z2_1 w13 d4 w14 d5 d6 w16 v443
          revert k A0 c0 l0 A1 c1 l1 r w hu25 HR0 HC0 HR1 HC1 A3 f7 f8 f9 g0 A5 g1 g2 A6 g3
          exact S_.r.a
        ·cases H
       ·have H' := qb.mk H
        clear H;have p212 : 0 ≤ ((ji209) : Int) := od_;have q212 : (ji209) < (b0.size : Int) := od_;have hx212 := bt_at b0 (ji209);replace p212 := eq_true p212;replace q212 := eq_true q212
        rename_i z40_0 z40_1 z40_2
        revert c213b0 c213b1 c214b0 H' hx212 p212 q212
        revert u481 u482 u483 u484 u485 u486 z37_14 z37_15 z37_16 x68_8 b5 b6 HB k8 z37_17 HK8 c203b0 c208b0 ji209 hji209 hji209w c210b0 c211b0 c213
        revert u592 u593 u594 u595 u596 u597 u598 u599 u600 u601 z40_0 z40_1 z40_2 kj198 HJ198 z37_12 z37_13 wr u4 u476 u477 u478 u479 u480
        revert u568 u569 u570 u571 u572 u573 u574 u575 u576 u577 u578 u579 u580 u581 u582 u583 u584 u585 u586 u587 u588 u589 u590 u591
        revert u544 u545 u546 u547 u548 u549 u550 u551 u552 u553 u554 u555 u556 u557 u558 u559 u560 u561 u562 u563 u564 u565 u566 u567
        revert u520 u521 u522 u523 u524 u525 u526 u527 u528 u529 u530 u531 u532 u533 u534 u535 u536 u537 u538 u539 u540 u541 u542 u543
        revert u496 u497 u498 u499 u500 u501 u502 u503 u504 u505 u506 u507 u508 u509 u510 u511 u512 u513 u514 u515 u516 u517 u518 u519
        revert u460 u461 u462 u463 u464 u465 u466 u467 u468 u469 u470 u471 u472 u473 u475 u487 u488 u489 u490 u491 u492 u493 u494 u495
        revert u436 u437 u438 u439 u440 u441 u442 u443 u444 u445 u446 u447 u448 u449 u450 u451 u452 u453 u454 u455 u456 u457 u458 u459
        revert u412 u413 u414 u415 u416 u417 u418 u419 u420 u421 u422 u423 u424 u425 u426 u427 u428 u429 u430 u431 u432 u433 u434 u435
        revert u388 u389 u390 u391 u392 u393 u394 u395 u396 u397 u398 u399 u400 u401 u402 u403 u404 u405 u406 u407 u408 u409 u410 u411
        revert u364 u365 u366 u367 u368 u369 u370 u371 u372 u373 u374 u375 u376 u377 u378 u379 u380 u381 u382 u383 u384 u385 u386 u387
        revert u340 u341 u342 u343 u344 u345 u346 u347 u348 u349 u350 u351 u352 u353 u354 u355 u356 u357 u358 u359 u360 u361 u362 u363
        revert u316 u317 u318 u319 u320 u321 u322 u323 u324 u325 u326 u327 u328 u329 u330 u331 u332 u333 u334 u335 u336 u337 u338 u339
        revert u292 u293 u294 u295 u296 u297 u298 u299 u300 u301 u302 u303 u304 u305 u306 u307 u308 u309 u310 u311 u312 u313 u314 u315
        revert u268 u269 u270 u271 u272 u273 u274 u275 u276 u277 u278 u279 u280 u281 u282 u283 u284 u285 u286 u287 u288 u289 u290 u291
        revert u244 u245 u246 u247 u248 u249 u250 u251 u252 u253 u254 u255 u256 u257 u258 u259 u260 u261 u262 u263 u264 u265 u266 u267
        revert u220 u221 u222 u223 u224 u225 u226 u227 u228 u229 u230 u231 u232 u233 u234 u235 u236 u237 u238 u239 u240 u241 u242 u243
        revert u193 u194 u195 u196 u197 u198 u199 u200 u201 u202 u206 u207 u208 u209 u210 u211 u212 u213 u214 u215 u216 u217 u218 u219
        revert u169 u170 u171 u172 u173 u174 u175 u176 u177 u178 u179 u180 u181 u182 u183 u184 u185 u186 u187 u188 u189 u190 u191 u192
        revert u145 u146 u147 u148 u149 u150 u151 u152 u153 u154 u155 u156 u157 u158 u159 u160 u161 u162 u163 u164 u165 u166 u167 u168
        revert u121 u122 u123 u124 u125 u126 u127 u128 u129 u130 u131 u132 u133 u134 u135 u136 u137 u138 u139 u140 u141 u142 u143 u144
        revert u97 u98 u99 u100 u101 u102 u103 u104 u105 u106 u107 u108 u109 u110 u111 u112 u113 u114 u115 u116 u117 u118 u119 u120
        revert kj183 HJ183 z32_3 z32_4 z32_5 z32_6 z32_8 A129 z32_7 wc u83 u84 u85 u86 u87 u88 u89 u90 u91 u92 u93 u94 u95 u96
        revert z22_518 nd z25_4 f6 z31_0 z31_1 z31_2 kj137 HJ137 z31_3 u63 u64 z32_0 z32_1 z32_2 kj166 HJ166 z35_0 u65 u66 u67 z36_0 z36_1 z36_2
        revert f4 b1 b2 hnb141 hnc141 Ao143 co143 w144 w146 w147 z18_0 z18_1 w148 z19_0 z19_1 w149 z20_0 w150 z22_517 w151 f5 z25_1 z25_2 z25_3
        revert b8 A131 o2 o3 A132 b9 o4 A133 o5 o6 A134 d0 d1 A135 d2 d3 A136 o7 o8 A137 w139 f2 w140 f3
        revert A123 m9 n0 A124 n1 n2 A125 n3 n4 n5 A126 n6 n7 n8 A127 b0 A128 b3 b4 n9 o0 o1 A130 b7
        revert m3 f1 z16_0 z16_1 kj66 HJ66 z22_0 u22 u23 u24 u25 u26 u27 u203 u204 u205 kj89 HJ89 m4 m5 m6 A122 m7 m8
        revert w18 v447 w20 v451 w22 v455 d7 d8 d9 f0 z11_0 z11_1 z8_1 z17_0 z11_2 z15_0 z15_1 z15_2 z15_3 kj11 HJ11 z15_4 u20 u21
        revert g4 A7 g5 g6 A8 g7 g8 A9 g9 m0 A10 m1 m2 A11 z2_0 z8_0 z2_1 w13 d4 w14 d5 d6 w16 v443
        revert k A0 c0 l0 A1 c1 l1 r w hu25 HR0 HC0 HR1 HC1 A3 f7 f8 f9 g0 A5 g1 g2 A6 g3
        exact S_.r.r.a
     ·cases H
    ·cases H
   ·have c208b0 : decide (0 < b3) = false := decide_eq_false c208
    clear c208;replace H := iD_ H; obtain ⟨c219b0, H⟩ | ⟨c219b0, H⟩ := H
    ·obtain ⟨ji220, hji220⟩ : ∃ j_ : Int, (wrap64 (b3 + b4)) = j_ := ⟨_, rfl⟩
     replace H : (if 0 ≤ (ji220) then (if (bt b0 (ji220)) = 45 then (none) else (laws_FnPostDelivers.j10 k8 b0 b7 b8 b9 d0 d1 d2 d3)) else (none)) = some r := by first | (rw [hji220] at H; exact H) | (simp only [hji220] at H ⊢; exact H)
     (try rw [hji220] at c203b0)
     (try rw [hji220] at c219b0)
     have hji220w : (IntKind.i64.wrap (b3 + b4)) = ji220 := (i64_w _).trans hji220;replace H := iD_ H; obtain ⟨c221b0, H⟩ | ⟨c221b0, H⟩ := H
     ·replace H := iE_ H; obtain ⟨c223b0, c223b1, H⟩ | ⟨c223, c223b0, c223b1, H⟩ := H
      ·cases H
      ·have H' := qb.mk H
       clear H;have p222 : 0 ≤ ((ji220) : Int) := od_;have q222 : (ji220) < (b0.size : Int) := od_;have hx222 := bt_at b0 (ji220);replace p222 := eq_true p222;replace q222 := eq_true q222
       rename_i z41_0 z41_1 z41_2
       revert c223b0 c223b1 H' hx222 p222 q222
       revert u481 u482 u483 u484 u485 u486 z37_14 z37_15 z37_16 x68_8 b5 b6 HB k8 z37_17 HK8 c208b0 ji220 c219b0 c203b0 hji220 hji220w c221b0 c223
       revert u592 u593 u594 u595 u596 u597 u598 u599 u600 u601 z41_0 z41_1 z41_2 kj198 HJ198 z37_12 z37_13 wr u4 u476 u477 u478 u479 u480
       revert u568 u569 u570 u571 u572 u573 u574 u575 u576 u577 u578 u579 u580 u581 u582 u583 u584 u585 u586 u587 u588 u589 u590 u591
       revert u544 u545 u546 u547 u548 u549 u550 u551 u552 u553 u554 u555 u556 u557 u558 u559 u560 u561 u562 u563 u564 u565 u566 u567
       revert u520 u521 u522 u523 u524 u525 u526 u527 u528 u529 u530 u531 u532 u533 u534 u535 u536 u537 u538 u539 u540 u541 u542 u543
       revert u496 u497 u498 u499 u500 u501 u502 u503 u504 u505 u506 u507 u508 u509 u510 u511 u512 u513 u514 u515 u516 u517 u518 u519
       revert u460 u461 u462 u463 u464 u465 u466 u467 u468 u469 u470 u471 u472 u473 u475 u487 u488 u489 u490 u491 u492 u493 u494 u495
       revert u436 u437 u438 u439 u440 u441 u442 u443 u444 u445 u446 u447 u448 u449 u450 u451 u452 u453 u454 u455 u456 u457 u458 u459
       revert u412 u413 u414 u415 u416 u417 u418 u419 u420 u421 u422 u423 u424 u425 u426 u427 u428 u429 u430 u431 u432 u433 u434 u435
       revert u388 u389 u390 u391 u392 u393 u394 u395 u396 u397 u398 u399 u400 u401 u402 u403 u404 u405 u406 u407 u408 u409 u410 u411
       revert u364 u365 u366 u367 u368 u369 u370 u371 u372 u373 u374 u375 u376 u377 u378 u379 u380 u381 u382 u383 u384 u385 u386 u387
       revert u340 u341 u342 u343 u344 u345 u346 u347 u348 u349 u350 u351 u352 u353 u354 u355 u356 u357 u358 u359 u360 u361 u362 u363
       revert u316 u317 u318 u319 u320 u321 u322 u323 u324 u325 u326 u327 u328 u329 u330 u331 u332 u333 u334 u335 u336 u337 u338 u339
       revert u292 u293 u294 u295 u296 u297 u298 u299 u300 u301 u302 u303 u304 u305 u306 u307 u308 u309 u310 u311 u312 u313 u314 u315
       revert u268 u269 u270 u271 u272 u273 u274 u275 u276 u277 u278 u279 u280 u281 u282 u283 u284 u285 u286 u287 u288 u289 u290 u291
       revert u244 u245 u246 u247 u248 u249 u250 u251 u252 u253 u254 u255 u256 u257 u258 u259 u260 u261 u262 u263 u264 u265 u266 u267
       revert u220 u221 u222 u223 u224 u225 u226 u227 u228 u229 u230 u231 u232 u233 u234 u235 u236 u237 u238 u239 u240 u241 u242 u243
       revert u193 u194 u195 u196 u197 u198 u199 u200 u201 u202 u206 u207 u208 u209 u210 u211 u212 u213 u214 u215 u216 u217 u218 u219
       revert u169 u170 u171 u172 u173 u174 u175 u176 u177 u178 u179 u180 u181 u182 u183 u184 u185 u186 u187 u188 u189 u190 u191 u192
       revert u145 u146 u147 u148 u149 u150 u151 u152 u153 u154 u155 u156 u157 u158 u159 u160 u161 u162 u163 u164 u165 u166 u167 u168
       revert u121 u122 u123 u124 u125 u126 u127 u128 u129 u130 u131 u132 u133 u134 u135 u136 u137 u138 u139 u140 u141 u142 u143 u144
       revert u97 u98 u99 u100 u101 u102 u103 u104 u105 u106 u107 u108 u109 u110 u111 u112 u113 u114 u115 u116 u117 u118 u119 u120
       revert kj183 HJ183 z32_3 z32_4 z32_5 z32_6 z32_8 A129 z32_7 wc u83 u84 u85 u86 u87 u88 u89 u90 u91 u92 u93 u94 u95 u96
       revert z22_518 nd z25_4 f6 z31_0 z31_1 z31_2 kj137 HJ137 z31_3 u63 u64 z32_0 z32_1 z32_2 kj166 HJ166 z35_0 u65 u66 u67 z36_0 z36_1 z36_2
       revert f4 b1 b2 hnb141 hnc141 Ao143 co143 w144 w146 w147 z18_0 z18_1 w148 z19_0 z19_1 w149 z20_0 w150 z22_517 w151 f5 z25_1 z25_2 z25_3
       revert b8 A131 o2 o3 A132 b9 o4 A133 o5 o6 A134 d0 d1 A135 d2 d3 A136 o7 o8 A137 w139 f2 w140 f3
       revert A123 m9 n0 A124 n1 n2 A125 n3 n4 n5 A126 n6 n7 n8 A127 b0 A128 b3 b4 n9 o0 o1 A130 b7
       revert m3 f1 z16_0 z16_1 kj66 HJ66 z22_0 u22 u23 u24 u25 u26 u27 u203 u204 u205 kj89 HJ89 m4 m5 m6 A122 m7 m8
       revert w18 v447 w20 v451 w22 v455 d7 d8 d9 f0 z11_0 z11_1 z8_1 z17_0 z11_2 z15_0 z15_1 z15_2 z15_3 kj11 HJ11 z15_4 u20 u21
       revert g4 A7 g5 g6 A8 g7 g8 A9 g9 m0 A10 m1 m2 A11 z2_0 z8_0 z2_1 w13 d4 w14 d5 d6 w16 v443
       revert k A0 c0 l0 A1 c1 l1 r w hu25 HR0 HC0 HR1 HC1 A3 f7 f8 f9 g0 A5 g1 g2 A6 g3
       exact S_.r.r.r.a
     ·cases H
    ·have H' := qb.mk H
     clear H
     rename_i z42_0 z42_1 z42_2
     revert u481 u482 u483 u484 u485 u486 z37_14 z37_15 z37_16 x68_8 b5 b6 HB k8 z37_17 HK8 c203b0 c208b0 c219b0 H'
     revert u592 u593 u594 u595 u596 u597 u598 u599 u600 u601 z42_0 z42_1 z42_2 kj198 HJ198 z37_12 z37_13 wr u4 u476 u477 u478 u479 u480
     revert u568 u569 u570 u571 u572 u573 u574 u575 u576 u577 u578 u579 u580 u581 u582 u583 u584 u585 u586 u587 u588 u589 u590 u591
     revert u544 u545 u546 u547 u548 u549 u550 u551 u552 u553 u554 u555 u556 u557 u558 u559 u560 u561 u562 u563 u564 u565 u566 u567
     revert u520 u521 u522 u523 u524 u525 u526 u527 u528 u529 u530 u531 u532 u533 u534 u535 u536 u537 u538 u539 u540 u541 u542 u543
     revert u496 u497 u498 u499 u500 u501 u502 u503 u504 u505 u506 u507 u508 u509 u510 u511 u512 u513 u514 u515 u516 u517 u518 u519
     revert u460 u461 u462 u463 u464 u465 u466 u467 u468 u469 u470 u471 u472 u473 u475 u487 u488 u489 u490 u491 u492 u493 u494 u495
     revert u436 u437 u438 u439 u440 u441 u442 u443 u444 u445 u446 u447 u448 u449 u450 u451 u452 u453 u454 u455 u456 u457 u458 u459
     revert u412 u413 u414 u415 u416 u417 u418 u419 u420 u421 u422 u423 u424 u425 u426 u427 u428 u429 u430 u431 u432 u433 u434 u435
     revert u388 u389 u390 u391 u392 u393 u394 u395 u396 u397 u398 u399 u400 u401 u402 u403 u404 u405 u406 u407 u408 u409 u410 u411
     revert u364 u365 u366 u367 u368 u369 u370 u371 u372 u373 u374 u375 u376 u377 u378 u379 u380 u381 u382 u383 u384 u385 u386 u387
     revert u340 u341 u342 u343 u344 u345 u346 u347 u348 u349 u350 u351 u352 u353 u354 u355 u356 u357 u358 u359 u360 u361 u362 u363
     revert u316 u317 u318 u319 u320 u321 u322 u323 u324 u325 u326 u327 u328 u329 u330 u331 u332 u333 u334 u335 u336 u337 u338 u339
     revert u292 u293 u294 u295 u296 u297 u298 u299 u300 u301 u302 u303 u304 u305 u306 u307 u308 u309 u310 u311 u312 u313 u314 u315
     revert u268 u269 u270 u271 u272 u273 u274 u275 u276 u277 u278 u279 u280 u281 u282 u283 u284 u285 u286 u287 u288 u289 u290 u291
     revert u244 u245 u246 u247 u248 u249 u250 u251 u252 u253 u254 u255 u256 u257 u258 u259 u260 u261 u262 u263 u264 u265 u266 u267
     revert u220 u221 u222 u223 u224 u225 u226 u227 u228 u229 u230 u231 u232 u233 u234 u235 u236 u237 u238 u239 u240 u241 u242 u243
     revert u193 u194 u195 u196 u197 u198 u199 u200 u201 u202 u206 u207 u208 u209 u210 u211 u212 u213 u214 u215 u216 u217 u218 u219
     revert u169 u170 u171 u172 u173 u174 u175 u176 u177 u178 u179 u180 u181 u182 u183 u184 u185 u186 u187 u188 u189 u190 u191 u192
     revert u145 u146 u147 u148 u149 u150 u151 u152 u153 u154 u155 u156 u157 u158 u159 u160 u161 u162 u163 u164 u165 u166 u167 u168
     revert u121 u122 u123 u124 u125 u126 u127 u128 u129 u130 u131 u132 u133 u134 u135 u136 u137 u138 u139 u140 u141 u142 u143 u144
     revert u97 u98 u99 u100 u101 u102 u103 u104 u105 u106 u107 u108 u109 u110 u111 u112 u113 u114 u115 u116 u117 u118 u119 u120
     revert kj183 HJ183 z32_3 z32_4 z32_5 z32_6 z32_8 A129 z32_7 wc u83 u84 u85 u86 u87 u88 u89 u90 u91 u92 u93 u94 u95 u96
     revert z22_518 nd z25_4 f6 z31_0 z31_1 z31_2 kj137 HJ137 z31_3 u63 u64 z32_0 z32_1 z32_2 kj166 HJ166 z35_0 u65 u66 u67 z36_0 z36_1 z36_2
     revert f4 b1 b2 hnb141 hnc141 Ao143 co143 w144 w146 w147 z18_0 z18_1 w148 z19_0 z19_1 w149 z20_0 w150 z22_517 w151 f5 z25_1 z25_2 z25_3
     revert b8 A131 o2 o3 A132 b9 o4 A133 o5 o6 A134 d0 d1 A135 d2 d3 A136 o7 o8 A137 w139 f2 w140 f3
     revert A123 m9 n0 A124 n1 n2 A125 n3 n4 n5 A126 n6 n7 n8 A127 b0 A128 b3 b4 n9 o0 o1 A130 b7
     revert m3 f1 z16_0 z16_1 kj66 HJ66 z22_0 u22 u23 u24 u25 u26 u27 u203 u204 u205 kj89 HJ89 m4 m5 m6 A122 m7 m8
     revert w18 v447 w20 v451 w22 v455 d7 d8 d9 f0 z11_0 z11_1 z8_1 z17_0 z11_2 z15_0 z15_1 z15_2 z15_3 kj11 HJ11 z15_4 u20 u21
     revert g4 A7 g5 g6 A8 g7 g8 A9 g9 m0 A10 m1 m2 A11 z2_0 z8_0 z2_1 w13 d4 w14 d5 d6 w16 v443
     revert k A0 c0 l0 A1 c1 l1 r w hu25 HR0 HC0 HR1 HC1 A3 f7 f8 f9 g0 A5 g1 g2 A6 g3
     exact S_.r.r.r.r.a
 : Bx.A1 laws_FnPostDelivers.p36)
end Go.Proofs.YtpopeedfgenebaaGreat.PFnPostDelivers
