/- Cut by wip/cut.py out of the texts of this claim (printed by the kit's printer, or this session's own): what the row's theorem does not reach is struck. Not trusted: Lean checks it. -/
import Derived.Test.YtpopeedfgenebaaGreatZFnPostDeliversPx18
namespace Go.Proofs.YtpopeedfgenebaaGreat.PFnPostDelivers
open Go.RowKit Go.Proofs.YtpopeedfgenebaaGreatW.PrintWords Go.Proofs.YtpopeedfgenebaaGreatW.PrintLast Go.Proofs.YtpopeedfgenebaaGreatW.PrintMore
attribute [local go_sem] zq zo zx zw zk zj zp zn
set_option linter.unusedVariables false
set_option linter.defProp false
set_option linter.unusedSimpArgs false
set_option maxHeartbeats 8000000 in
set_option maxRecDepth 100000 in
def laws_FnPostDelivers.p11 := fun (S_ : Bx _ (Bx _ (Unit))) => (by
 unfold Bx.A2
 intro k A0 c0 l0 A1 c1 l1 r w hu25 HR0 HC0 HR1 HC1 A3 b9 d0 d2 d3 A5 d4 d5 A6 d6 d7 A7 d8 d9 A8 f0 f1 A9 f2 f3 A10 f4 f5 A11 z2_0 z8_0 z2_1 w13 b0 w14 b3 b4 w16 v443 w18 v447 w20 v451 w22 v455 b5 b6 b7 b8 z11_0 z11_1 z8_1 nd z11_2 d1 b1 b2 HB kj11 HJ11 HC67 z11_518 z11_519 wc u4 u20 u21 u83 u84 u85 u86 u87 u88 u89 u90 u91 u92 u93 u94 u95 u96 u97 u98 u99 u100 u101 u102 u103 u104 u105 u106 u107 u108 u109 u110 u111 u112 u113 u114 u115 u116 u117 u118 u119 u120 u121 u122 u123 u124 u125 u126 u127 u128 u129 u130 u131 u132 u133 u134 u135 u136 u137 u138 u139 u140 u141 u142 u143 u144 u145 u146 u147 u148 u149 u150 u151 u152 u153 u154 u155 u156 u157 u158 u159 u160 u161 u162 u163 u164 u165 u166 u167 u168 u169 u170 u171 u172 u173 u174 u175 u176 u177 u178 u179 u180 u181 u182 u183 u184 u185 u186 u187 u188 u189 u190 u191 u192 u193 u194 u195 u196 u197 u198 u199 u200 u201 u202 u206 u207 u208 u209 u210 u211 u212 u213 u214 u215 u216 u217 u218 u219 u220 u221 u222 u223 u224 u225 u226 u227 u228 u229 u230 u231 u232 u233 u234 u235 u236 u237 u238 u239 u240 u241 u242 u243 u244 u245 u246 u247 u248 u249 u250 u251 u252 u253 u254 u255 u256 u257 u258 u259 u260 u261 u262 u263 u264 u265 u266 u267 u268 u269 u270 u271 u272 u273 u274 u275 u276 u277 u278 u279 u280 u281 u282 u283 u284 u285 u286 u287 u288 u289 u290 u291 u292 u293 u294 u295 u296 u297 u298 u299 u300 u301 u302 u303 u304 u305 u306 u307 u308 u309 u310 u311 u312 u313 u314 u315 u316 u317 u318 u319 u320 u321 u322 u323 u324 u325 u326 u327 u328 u329 u330 u331 u332 u333 u334 u335 u336 u337 u338 u339 u340 u341 u342 u343 u344 u345 u346 u347 u348 u349 u350 u351 u352 u353 u354 u355 u356 u357 u358 u359 u360 u361 u362 u363 u364 u365 u366 u367 u368 u369 u370 u371 u372 u373 u374 u375 u376 u377 u378 u379 u380 u381 u382 u383 u384 u385 u386 u387 u388 u389 u390 u391 u392 u393 u394 u395 u396 u397 u398 u399 u400 u401 u402 u403 u404 u405 u406 u407 u408 u409 u410 u411 u412 u413 u414 u415 u416 u417 u418 u419 u420 u421 u422 u423 u424 u425 u426 u427 u428 u429 u430 u431 u432 u433 u434 u435 u436 u437 u438 u439 u440 u441 u442 u443 u444 u445 u446 u447 u448 u449 u450 u451 u452 u453 u454 u455 u456 u457 u458 u459 u460 u461 u462 u463 u464 u465 u466 u467 u468 u469 u470 u471 u472 u473 u474 u475 u476 u477 u478 u479 u480 u481 u482 u483 u484 u485 u486 u487 u488 u489 u490 u491 u492 u493 u494 u495 u496 u497 u498 u499 u500 u501 u502 u503 u504 u505 u506 u507 u508 u509 u510 u511 u512 u513 u514 u515 u516 u517 u518 u519 u520 u521 u522 u523 u524 u525 u526 u527 u528 u529 u530 u531 u532 u533 u534 u535 u536 u537 u538 u539 u540 u541 u542 u543 u544 u545 u546 u547 u548 u549 u550 u551 u552 u553 u554 u555 u556 u557 u558 u559 u560 u561 u562 u563 u564 u565 u566 u567 u568 u569 u570 u571 u572 u573 u574 u575 u576 u577 u578 u579 u580 u581 u582 u583 u584 u585 u586 u587 u588 u589 u590 u591 u592 u593 u594 u595 u596 u597 u598 u599 u600 u601 hcut
 clear HC67;(try clear c1);obtain ⟨kq, HA, HJ66, d1, b1, b2, HB⟩ := hcut;cases kq with
 | zero => exact absurd HA.out (by simp [laws_FnPostDelivers.j1])
 | succ kj66 =>
  have H := HA.out;clear HA
  simp only [laws_FnPostDelivers.j1] at H
  have HC90 := qb.mk H;clear H
  go_upto_if 197 with (fail)
  go_cut [] (fun wc => ∃ (kq : Nat), qb (laws_FnPostDelivers.j3 kq l1 = some r) ∧ qb (kq ≤ kj66) ∧ qb (wc.heap[b0]? = some (.cells #[.int .i64 b9, .int .i64 d0] 25 (0, 0))) ∧ qb (Below w.heap.size w wc))
  case first =>
   rename_i z12_0 z12_1 z12_2 z12_3 z12_4 z12_5 z12_6 z12_7 z12_8 z12_9
   revert z12_8 z12_9
   revert u589 u590 u591 u592 u593 u594 u595 u596 u597 u598 u599 u600 u601 d1 b1 b2 HB kj66 HJ66 HC90 z12_4 z12_5 z12_6 z12_7
   revert u565 u566 u567 u568 u569 u570 u571 u572 u573 u574 u575 u576 u577 u578 u579 u580 u581 u582 u583 u584 u585 u586 u587 u588
   revert u541 u542 u543 u544 u545 u546 u547 u548 u549 u550 u551 u552 u553 u554 u555 u556 u557 u558 u559 u560 u561 u562 u563 u564
   revert u517 u518 u519 u520 u521 u522 u523 u524 u525 u526 u527 u528 u529 u530 u531 u532 u533 u534 u535 u536 u537 u538 u539 u540
   revert u493 u494 u495 u496 u497 u498 u499 u500 u501 u502 u503 u504 u505 u506 u507 u508 u509 u510 u511 u512 u513 u514 u515 u516
   revert u469 u470 u471 u472 u473 u474 u475 u476 u477 u478 u479 u480 u481 u482 u483 u484 u485 u486 u487 u488 u489 u490 u491 u492
   revert u445 u446 u447 u448 u449 u450 u451 u452 u453 u454 u455 u456 u457 u458 u459 u460 u461 u462 u463 u464 u465 u466 u467 u468
   revert u421 u422 u423 u424 u425 u426 u427 u428 u429 u430 u431 u432 u433 u434 u435 u436 u437 u438 u439 u440 u441 u442 u443 u444
   revert u397 u398 u399 u400 u401 u402 u403 u404 u405 u406 u407 u408 u409 u410 u411 u412 u413 u414 u415 u416 u417 u418 u419 u420
   revert u373 u374 u375 u376 u377 u378 u379 u380 u381 u382 u383 u384 u385 u386 u387 u388 u389 u390 u391 u392 u393 u394 u395 u396
   revert u349 u350 u351 u352 u353 u354 u355 u356 u357 u358 u359 u360 u361 u362 u363 u364 u365 u366 u367 u368 u369 u370 u371 u372
   revert u325 u326 u327 u328 u329 u330 u331 u332 u333 u334 u335 u336 u337 u338 u339 u340 u341 u342 u343 u344 u345 u346 u347 u348
   revert u301 u302 u303 u304 u305 u306 u307 u308 u309 u310 u311 u312 u313 u314 u315 u316 u317 u318 u319 u320 u321 u322 u323 u324
   revert u277 u278 u279 u280 u281 u282 u283 u284 u285 u286 u287 u288 u289 u290 u291 u292 u293 u294 u295 u296 u297 u298 u299 u300
   revert u253 u254 u255 u256 u257 u258 u259 u260 u261 u262 u263 u264 u265 u266 u267 u268 u269 u270 u271 u272 u273 u274 u275 u276
   revert u229 u230 u231 u232 u233 u234 u235 u236 u237 u238 u239 u240 u241 u242 u243 u244 u245 u246 u247 u248 u249 u250 u251 u252
   revert u202 u206 u207 u208 u209 u210 u211 u212 u213 u214 u215 u216 u217 u218 u219 u220 u221 u222 u223 u224 u225 u226 u227 u228
   revert u178 u179 u180 u181 u182 u183 u184 u185 u186 u187 u188 u189 u190 u191 u192 u193 u194 u195 u196 u197 u198 u199 u200 u201
   revert u154 u155 u156 u157 u158 u159 u160 u161 u162 u163 u164 u165 u166 u167 u168 u169 u170 u171 u172 u173 u174 u175 u176 u177
   revert u130 u131 u132 u133 u134 u135 u136 u137 u138 u139 u140 u141 u142 u143 u144 u145 u146 u147 u148 u149 u150 u151 u152 u153
   revert u106 u107 u108 u109 u110 u111 u112 u113 u114 u115 u116 u117 u118 u119 u120 u121 u122 u123 u124 u125 u126 u127 u128 u129
   revert u21 u83 u84 u85 u86 u87 u88 u89 u90 u91 u92 u93 u94 u95 u96 u97 u98 u99 u100 u101 u102 u103 u104 u105
   revert w18 v447 w20 v451 w22 v455 b5 b6 b7 b8 z11_0 z11_1 z8_1 nd z11_2 z12_0 z12_1 z12_2 z12_3 kj11 HJ11 wc u4 u20
   revert d7 A7 d8 d9 A8 f0 f1 A9 f2 f3 A10 f4 f5 A11 z2_0 z8_0 z2_1 w13 b0 w14 b3 b4 w16 v443
   revert k A0 c0 l0 A1 c1 l1 r w hu25 HR0 HC0 HR1 HC1 A3 b9 d0 d2 d3 A5 d4 d5 A6 d6
   exact S_.a
  case rest =>
   rename_i z15_0 z15_1 z15_2 z15_3 z15_4 _ _ _ _ _ _ _ _ _ _ _ _ _ _ _ _ _ _ _ _ _ _ _ _ _ _ _ _ _ _ _ _ _ _ _ _ _ _ _ _ _ _ _ _ _ _ _ _ _ _ _ _ _ _ _ _ _ _ _ _ _ _ _ _ _ _ _ _ _ _ _ _ _ _ _ _ _ _ _ _ _ _ _ _ _ _ _ _ _ _ _ _ _ _ _ _ _ _ _ _ _ _ _ _ _ _ _ _ _ _ _ _ _ _ _ _ _ _ _ _ _ _ _ _ _ _ _ _ _ _ _ _ _ _ _ _ _ _ _ _ _ _ _ _ _ _ _ _ _ _ _ _ _ _ _ _ _ _ _ _ _ _ _ _ _ _ _ _ _ _ _ _ _ _ _ _ _ _ _ _ _ _ _ _ _ _ _ _ _ _ _ _ _ _ _ _ _ _ _ _ _ _ _ _ _ _ _ _ _ _ _ _ _ _ _ _ _ _ _ _ _ _ _ _ _ _ _ _ _ _ _ _ _ _ _ _ _ _ _ _ _ _ _ _ _ _ _ _ _ _ _ _ _ _ _ _ _ _ _ _ _ _ _ _ _ _ _ _ _ _ _ _ _ _ _ _ _ _ _ _ _ _ _ _ _ _ _ _ _ _ _ _ _ _ _ _ _ _ _ _ _ _ _ _ _ _ _ _ _ _ _ _ _ _ _ _ _ _ _ _ _ _ _ _ _ _ _ _ _ _ _ _ _ _ _ _ _ _ _ _ _ _ _ _ _ _ _ _ _ _ _ _ _ _ _ _ _ _ _ _ _ _ _ _ _ _ _ _ _ _ _ _ _ _ _ _ _ _ _ _ _ _ _ _ _ _ _ _ _ _ _ _ _ _ _ _ _ _ _ _ _ _ _ _ _ _ _ _ _ _ _ _ _ _ _ _ _ _ _ _ _ _ _ _ _ _ _ _ _ _ _ _ _ _ _ _ _ _ _ _ _ _ _ _ _ _ _ _ _ _ _ _ _ _ _ _ _ _ _ _ _ _ _ _ _ _ _ _ _ _ _ _ _ _ _ _ _ _ _ _ _ _ _ _ _ _ _ _ _ _ _ _ _ _ _ _ _ _ _ _ _ _ _ _ _ _ _ _ _ _ _ _ _ _ _ _ _ z15_522 z15_523
   revert u594 u595 u596 u597 u598 u599 u600 u601 hcut
   revert u570 u571 u572 u573 u574 u575 u576 u577 u578 u579 u580 u581 u582 u583 u584 u585 u586 u587 u588 u589 u590 u591 u592 u593
   revert u546 u547 u548 u549 u550 u551 u552 u553 u554 u555 u556 u557 u558 u559 u560 u561 u562 u563 u564 u565 u566 u567 u568 u569
   revert u522 u523 u524 u525 u526 u527 u528 u529 u530 u531 u532 u533 u534 u535 u536 u537 u538 u539 u540 u541 u542 u543 u544 u545
   revert u498 u499 u500 u501 u502 u503 u504 u505 u506 u507 u508 u509 u510 u511 u512 u513 u514 u515 u516 u517 u518 u519 u520 u521
   revert u474 u475 u476 u477 u478 u479 u480 u481 u482 u483 u484 u485 u486 u487 u488 u489 u490 u491 u492 u493 u494 u495 u496 u497
   revert u450 u451 u452 u453 u454 u455 u456 u457 u458 u459 u460 u461 u462 u463 u464 u465 u466 u467 u468 u469 u470 u471 u472 u473
   revert u426 u427 u428 u429 u430 u431 u432 u433 u434 u435 u436 u437 u438 u439 u440 u441 u442 u443 u444 u445 u446 u447 u448 u449
   revert u402 u403 u404 u405 u406 u407 u408 u409 u410 u411 u412 u413 u414 u415 u416 u417 u418 u419 u420 u421 u422 u423 u424 u425
   revert u378 u379 u380 u381 u382 u383 u384 u385 u386 u387 u388 u389 u390 u391 u392 u393 u394 u395 u396 u397 u398 u399 u400 u401
   revert u354 u355 u356 u357 u358 u359 u360 u361 u362 u363 u364 u365 u366 u367 u368 u369 u370 u371 u372 u373 u374 u375 u376 u377
   revert u330 u331 u332 u333 u334 u335 u336 u337 u338 u339 u340 u341 u342 u343 u344 u345 u346 u347 u348 u349 u350 u351 u352 u353
   revert u306 u307 u308 u309 u310 u311 u312 u313 u314 u315 u316 u317 u318 u319 u320 u321 u322 u323 u324 u325 u326 u327 u328 u329
   revert u282 u283 u284 u285 u286 u287 u288 u289 u290 u291 u292 u293 u294 u295 u296 u297 u298 u299 u300 u301 u302 u303 u304 u305
   revert u258 u259 u260 u261 u262 u263 u264 u265 u266 u267 u268 u269 u270 u271 u272 u273 u274 u275 u276 u277 u278 u279 u280 u281
   revert u234 u235 u236 u237 u238 u239 u240 u241 u242 u243 u244 u245 u246 u247 u248 u249 u250 u251 u252 u253 u254 u255 u256 u257
   revert u210 u211 u212 u213 u214 u215 u216 u217 u218 u219 u220 u221 u222 u223 u224 u225 u226 u227 u228 u229 u230 u231 u232 u233
   revert u186 u187 u188 u189 u190 u191 u192 u193 u194 u195 u196 u197 u198 u199 u200 u201 u202 u203 u204 u205 u206 u207 u208 u209
   revert u162 u163 u164 u165 u166 u167 u168 u169 u170 u171 u172 u173 u174 u175 u176 u177 u178 u179 u180 u181 u182 u183 u184 u185
   revert u138 u139 u140 u141 u142 u143 u144 u145 u146 u147 u148 u149 u150 u151 u152 u153 u154 u155 u156 u157 u158 u159 u160 u161
   revert u114 u115 u116 u117 u118 u119 u120 u121 u122 u123 u124 u125 u126 u127 u128 u129 u130 u131 u132 u133 u134 u135 u136 u137
   revert u90 u91 u92 u93 u94 u95 u96 u97 u98 u99 u100 u101 u102 u103 u104 u105 u106 u107 u108 u109 u110 u111 u112 u113
   revert d1 b1 b2 HB kj66 HJ66 HC90 z15_522 z15_523 wc u4 u22 u23 u24 u25 u26 u27 u83 u84 u85 u86 u87 u88 u89
   revert w18 v447 w20 v451 w22 v455 b5 b6 b7 b8 z11_0 z11_1 z8_1 nd z11_2 z15_0 z15_1 z15_2 z15_3 kj11 HJ11 z15_4 u20 u21
   revert d7 A7 d8 d9 A8 f0 f1 A9 f2 f3 A10 f4 f5 A11 z2_0 z8_0 z2_1 w13 b0 w14 b3 b4 w16 v443
   revert k A0 c0 l0 A1 c1 l1 r w hu25 HR0 HC0 HR1 HC1 A3 b9 d0 d2 d3 A5 d4 d5 A6 d6
   exact S_.r.a
 : Bx.A2 laws_FnPostDelivers.p8)
set_option maxHeartbeats 8000000 in
set_option maxRecDepth 100000 in
def laws_FnPostDelivers.p12 := fun (S_ : Bx _ (Unit)) => (by
 unfold Bx.A1
 intro k A0 c0 l0 A1 c1 l1 r w hu25 HR0 HC0 HR1 HC1 A3 b7 b8 d4 d5 A5 b0 f5 A6 d6 d7 A7 b1 d8 A8 d9 f0 A9 f1 f2 A10 f3 f4 A11 z2_0 z8_0 z2_1 w13 b6 w14 b9 b2 w16 v443 w18 v447 w20 v451 w22 v455 d0 d1 d2 d3 z11_0 z11_1 z8_1 nd z11_2 z12_0 z12_1 z12_2 z12_3 kj11 HJ11 wc u4 u20 u21 u83 u84 u85 u86 u87 u88 u89 u90 u91 u92 u93 u94 u95 u96 u97 u98 u99 u100 u101 u102 u103 u104 u105 u106 u107 u108 u109 u110 u111 u112 u113 u114 u115 u116 u117 u118 u119 u120 u121 u122 u123 u124 u125 u126 u127 u128 u129 u130 u131 u132 u133 u134 u135 u136 u137 u138 u139 u140 u141 u142 u143 u144 u145 u146 u147 u148 u149 u150 u151 u152 u153 u154 u155 u156 u157 u158 u159 u160 u161 u162 u163 u164 u165 u166 u167 u168 u169 u170 u171 u172 u173 u174 u175 u176 u177 u178 u179 u180 u181 u182 u183 u184 u185 u186 u187 u188 u189 u190 u191 u192 u193 u194 u195 u196 u197 u198 u199 u200 u201 u202 u206 u207 u208 u209 u210 u211 u212 u213 u214 u215 u216 u217 u218 u219 u220 u221 u222 u223 u224 u225 u226 u227 u228 u229 u230 u231 u232 u233 u234 u235 u236 u237 u238 u239 u240 u241 u242 u243 u244 u245 u246 u247 u248 u249 u250 u251 u252 u253 u254 u255 u256 u257 u258 u259 u260 u261 u262 u263 u264 u265 u266 u267 u268 u269 u270 u271 u272 u273 u274 u275 u276 u277 u278 u279 u280 u281 u282 u283 u284 u285 u286 u287 u288 u289 u290 u291 u292 u293 u294 u295 u296 u297 u298 u299 u300 u301 u302 u303 u304 u305 u306 u307 u308 u309 u310 u311 u312 u313 u314 u315 u316 u317 u318 u319 u320 u321 u322 u323 u324 u325 u326 u327 u328 u329 u330 u331 u332 u333 u334 u335 u336 u337 u338 u339 u340 u341 u342 u343 u344 u345 u346 u347 u348 u349 u350 u351 u352 u353 u354 u355 u356 u357 u358 u359 u360 u361 u362 u363 u364 u365 u366 u367 u368 u369 u370 u371 u372 u373 u374 u375 u376 u377 u378 u379 u380 u381 u382 u383 u384 u385 u386 u387 u388 u389 u390 u391 u392 u393 u394 u395 u396 u397 u398 u399 u400 u401 u402 u403 u404 u405 u406 u407 u408 u409 u410 u411 u412 u413 u414 u415 u416 u417 u418 u419 u420 u421 u422 u423 u424 u425 u426 u427 u428 u429 u430 u431 u432 u433 u434 u435 u436 u437 u438 u439 u440 u441 u442 u443 u444 u445 u446 u447 u448 u449 u450 u451 u452 u453 u454 u455 u456 u457 u458 u459 u460 u461 u462 u463 u464 u465 u466 u467 u468 u469 u470 u471 u472 u473 u474 u475 u476 u477 u478 u479 u480 u481 u482 u483 u484 u485 u486 u487 u488 u489 u490 u491 u492 u493 u494 u495 u496 u497 u498 u499 u500 u501 u502 u503 u504 u505 u506 u507 u508 u509 u510 u511 u512 u513 u514 u515 u516 u517 u518 u519 u520 u521 u522 u523 u524 u525 u526 u527 u528 u529 u530 u531 u532 u533 u534 u535 u536 u537 u538 u539 u540 u541 u542 u543 u544 u545 u546 u547 u548 u549 u550 u551 u552 u553 u554 u555 u556 u557 u558 u559 u560 u561 u562 u563 u564 u565 u566 u567 u568 u569 u570 u571 u572 u573 u574 u575 u576 u577 u578 u579 u580 u581 u582 u583 u584 u585 u586 u587 u588 u589 u590 u591 u592 u593 u594 u595 u596 u597 u598 u599 u600 u601 b5 b3 b4 HB kj66 HJ66 HC90 z12_4 z12_5 z12_6 z12_7 z12_8 z12_9
 have H := HC90.out;clear HC90;replace H := iB_ H; obtain ⟨rfl, H⟩ | ⟨rfl, H⟩ := H
 ·replace H := iC_ H; obtain ⟨c92, H⟩ | ⟨c92, H⟩ := H
  ·have c92b0 := beq_iff_eq.mpr c92
   have c92b1 := bne_eq_false_iff_eq.mpr c92;have c92b2 : (b0.length == b1.length) = true := by first | simpa using c92 | (simp at c92 ⊢; omega)
   clear c92
   (first | rw [c92b0] | (simp only [i64_w, i32_w]; rw [c92b0]) | skip)
   have H' := qb.mk H;clear H;obtain ⟨Ao93, co93, eo93⟩ := Kd.ja b5.out;subst eo93;obtain ⟨Ao94, co94, eo94⟩ := Kd.ja b3.out;subst eo94
   go_wp2
   go_loopg [22, 205] kj66 (fun kq v22 v205 w' => ∃ (x22_3 : Int) (x205_3 : Int), v22 = .int .i64 x22_3 ∧ v205 = .int .i64 x205_3 ∧ qb (laws_FnPostDelivers.l0 kq l1 b0 b1 x22_3 b0 (b0.length : Int) x205_3 b7 b8 = some r) ∧ qb (kq ≤ kj66) ∧ qb (Kd.R (Kd.int .i64) 3 w' w.heap.size (fun k_ => some k_ ≠ ((.slice Ao94 b1.length co94) : Value).ownBlock) (.slice Ao93 b0.length co93) b0) ∧ qb (Kd.R (Kd.int .i64) 3 w' w.heap.size (fun k_ => some k_ ≠ ((.slice Ao93 b0.length co93) : Value).ownBlock ∧ some k_ ≠ ((.slice Ao93 b0.length co93) : Value).ownBlock) (.slice Ao94 b1.length co94) b1) ∧ qb (Kd.R (Kd.int .i64) 3 w' w.heap.size (fun k_ => some k_ ≠ ((.slice Ao94 b1.length co94) : Value).ownBlock) (.slice Ao93 b0.length co93) b0) ∧ qb (w'.heap[b6]? = some (.cells #[.int .i64 b7, .int .i64 b8] 25 (0, 0))) ∧ qb (Below w.heap.size w w'))
   case atStart => exact ⟨(0), (0), es_, es_, H', ⟨Nat.le_refl _⟩, ⟨kr_ b5⟩, ⟨by (with_reducible repeat (first | apply Kd.qu | apply Kd.qt | apply Kd.qv)); exact Kd.zl b3.out (fun _ hk => ⟨hk, hk⟩)⟩, ⟨kr_ b5⟩, ⟨bk_ b4⟩, ⟨be1_ HB b2⟩⟩
   case round =>
    rename_i z13_34 z13_35 z13_36 z13_37
    revert u224 u225 u226 u227 u228 u229 u230 u231 u232 u233 u234 u235 u236 u237 u238 hrel z13_34 z13_35 z13_36 z13_37
    revert u23 u24 u25 u26 u27 u205 u206 u207 u208 u209 u210 u211 u212 u213 u214 u215 u216 u217 u218 u219 u220 u221 u222 u223
    revert z12_7 z12_9 A6 c92b0 c92b1 c92b2 H' Ao93 co93 Ao94 co94 d0 d1 d2 d3 z12_0 z12_1 b5 b3 z12_8 gk wr u4 u22
    revert u585 u586 u587 u588 u589 u590 u591 u592 u593 u594 u595 u596 u597 u598 u599 u600 u601 b4 HB kj66 HJ66 z12_4 z12_5 z12_6
    revert u561 u562 u563 u564 u565 u566 u567 u568 u569 u570 u571 u572 u573 u574 u575 u576 u577 u578 u579 u580 u581 u582 u583 u584
    revert u537 u538 u539 u540 u541 u542 u543 u544 u545 u546 u547 u548 u549 u550 u551 u552 u553 u554 u555 u556 u557 u558 u559 u560
    revert u513 u514 u515 u516 u517 u518 u519 u520 u521 u522 u523 u524 u525 u526 u527 u528 u529 u530 u531 u532 u533 u534 u535 u536
    revert u489 u490 u491 u492 u493 u494 u495 u496 u497 u498 u499 u500 u501 u502 u503 u504 u505 u506 u507 u508 u509 u510 u511 u512
    revert u465 u466 u467 u468 u469 u470 u471 u472 u473 u474 u475 u476 u477 u478 u479 u480 u481 u482 u483 u484 u485 u486 u487 u488
    revert u441 u442 u443 u444 u445 u446 u447 u448 u449 u450 u451 u452 u453 u454 u455 u456 u457 u458 u459 u460 u461 u462 u463 u464
    revert u417 u418 u419 u420 u421 u422 u423 u424 u425 u426 u427 u428 u429 u430 u431 u432 u433 u434 u435 u436 u437 u438 u439 u440
    revert u393 u394 u395 u396 u397 u398 u399 u400 u401 u402 u403 u404 u405 u406 u407 u408 u409 u410 u411 u412 u413 u414 u415 u416
    revert u369 u370 u371 u372 u373 u374 u375 u376 u377 u378 u379 u380 u381 u382 u383 u384 u385 u386 u387 u388 u389 u390 u391 u392
    revert u345 u346 u347 u348 u349 u350 u351 u352 u353 u354 u355 u356 u357 u358 u359 u360 u361 u362 u363 u364 u365 u366 u367 u368
    revert u321 u322 u323 u324 u325 u326 u327 u328 u329 u330 u331 u332 u333 u334 u335 u336 u337 u338 u339 u340 u341 u342 u343 u344
    revert u297 u298 u299 u300 u301 u302 u303 u304 u305 u306 u307 u308 u309 u310 u311 u312 u313 u314 u315 u316 u317 u318 u319 u320
    revert u273 u274 u275 u276 u277 u278 u279 u280 u281 u282 u283 u284 u285 u286 u287 u288 u289 u290 u291 u292 u293 u294 u295 u296
    revert u249 u250 u251 u252 u253 u254 u255 u256 u257 u258 u259 u260 u261 u262 u263 u264 u265 u266 u267 u268 u269 u270 u271 u272
    revert u189 u190 u191 u192 u193 u194 u195 u196 u197 u198 u199 u200 u201 u202 u239 u240 u241 u242 u243 u244 u245 u246 u247 u248
    revert u165 u166 u167 u168 u169 u170 u171 u172 u173 u174 u175 u176 u177 u178 u179 u180 u181 u182 u183 u184 u185 u186 u187 u188
    revert u141 u142 u143 u144 u145 u146 u147 u148 u149 u150 u151 u152 u153 u154 u155 u156 u157 u158 u159 u160 u161 u162 u163 u164
    revert u117 u118 u119 u120 u121 u122 u123 u124 u125 u126 u127 u128 u129 u130 u131 u132 u133 u134 u135 u136 u137 u138 u139 u140
    revert u93 u94 u95 u96 u97 u98 u99 u100 u101 u102 u103 u104 u105 u106 u107 u108 u109 u110 u111 u112 u113 u114 u115 u116
    revert w22 v455 z11_0 z11_1 z8_1 nd z11_2 z12_2 z12_3 kj11 HJ11 wc u20 u21 u83 u84 u85 u86 u87 u88 u89 u90 u91 u92
    revert b1 d8 A8 d9 f0 A9 f1 f2 A10 f3 f4 A11 z2_0 z8_0 z2_1 w13 b6 w14 b9 b2 w16 w18 v447 w20
    revert k A0 c0 l0 A1 c1 l1 r w hu25 HR0 HC0 HR1 HC1 A3 b7 b8 d4 d5 A5 b0 d6 d7 A7
    exact S_.a
  ·cases H
 ·have H' := qb.mk H
  clear H
  go_wp2
  go_meet
  case rel => exact ⟨_, H', ⟨by have := HJ11.out; have := HJ66.out; first | omega | exact Nat.le_refl _⟩, ⟨bk_ b4⟩, ⟨be1_ HB b2⟩⟩
 : Bx.A1 laws_FnPostDelivers.p11)
set_option maxHeartbeats 8000000 in
set_option maxRecDepth 100000 in
def laws_FnPostDelivers.p13 := fun (S_ : Bx _ (Unit)) => (by
 unfold Bx.A1
 intro k A0 c0 l0 A1 c1 l1 r w hu25 HR0 HC0 HR1 HC1 A3 b7 b8 d9 f0 A5 b1 f1 f2 A7 b9 f3 A8 f4 f5 A9 f6 f7 A10 f8 f9 A11 z2_0 z8_0 z2_1 w13 d0 w14 d1 b3 w16 w18 v447 w20 w22 v455 z11_0 z11_1 z8_1 nd z11_2 z12_2 z12_3 kj11 HJ11 wc u20 u21 u83 u84 u85 u86 u87 u88 u89 u90 u91 u92 u93 u94 u95 u96 u97 u98 u99 u100 u101 u102 u103 u104 u105 u106 u107 u108 u109 u110 u111 u112 u113 u114 u115 u116 u117 u118 u119 u120 u121 u122 u123 u124 u125 u126 u127 u128 u129 u130 u131 u132 u133 u134 u135 u136 u137 u138 u139 u140 u141 u142 u143 u144 u145 u146 u147 u148 u149 u150 u151 u152 u153 u154 u155 u156 u157 u158 u159 u160 u161 u162 u163 u164 u165 u166 u167 u168 u169 u170 u171 u172 u173 u174 u175 u176 u177 u178 u179 u180 u181 u182 u183 u184 u185 u186 u187 u188 u189 u190 u191 u192 u193 u194 u195 u196 u197 u198 u199 u200 u201 u202 u239 u240 u241 u242 u243 u244 u245 u246 u247 u248 u249 u250 u251 u252 u253 u254 u255 u256 u257 u258 u259 u260 u261 u262 u263 u264 u265 u266 u267 u268 u269 u270 u271 u272 u273 u274 u275 u276 u277 u278 u279 u280 u281 u282 u283 u284 u285 u286 u287 u288 u289 u290 u291 u292 u293 u294 u295 u296 u297 u298 u299 u300 u301 u302 u303 u304 u305 u306 u307 u308 u309 u310 u311 u312 u313 u314 u315 u316 u317 u318 u319 u320 u321 u322 u323 u324 u325 u326 u327 u328 u329 u330 u331 u332 u333 u334 u335 u336 u337 u338 u339 u340 u341 u342 u343 u344 u345 u346 u347 u348 u349 u350 u351 u352 u353 u354 u355 u356 u357 u358 u359 u360 u361 u362 u363 u364 u365 u366 u367 u368 u369 u370 u371 u372 u373 u374 u375 u376 u377 u378 u379 u380 u381 u382 u383 u384 u385 u386 u387 u388 u389 u390 u391 u392 u393 u394 u395 u396 u397 u398 u399 u400 u401 u402 u403 u404 u405 u406 u407 u408 u409 u410 u411 u412 u413 u414 u415 u416 u417 u418 u419 u420 u421 u422 u423 u424 u425 u426 u427 u428 u429 u430 u431 u432 u433 u434 u435 u436 u437 u438 u439 u440 u441 u442 u443 u444 u445 u446 u447 u448 u449 u450 u451 u452 u453 u454 u455 u456 u457 u458 u459 u460 u461 u462 u463 u464 u465 u466 u467 u468 u469 u470 u471 u472 u473 u474 u475 u476 u477 u478 u479 u480 u481 u482 u483 u484 u485 u486 u487 u488 u489 u490 u491 u492 u493 u494 u495 u496 u497 u498 u499 u500 u501 u502 u503 u504 u505 u506 u507 u508 u509 u510 u511 u512 u513 u514 u515 u516 u517 u518 u519 u520 u521 u522 u523 u524 u525 u526 u527 u528 u529 u530 u531 u532 u533 u534 u535 u536 u537 u538 u539 u540 u541 u542 u543 u544 u545 u546 u547 u548 u549 u550 u551 u552 u553 u554 u555 u556 u557 u558 u559 u560 u561 u562 u563 u564 u565 u566 u567 u568 u569 u570 u571 u572 u573 u574 u575 u576 u577 u578 u579 u580 u581 u582 u583 u584 u585 u586 u587 u588 u589 u590 u591 u592 u593 u594 u595 u596 u597 u598 u599 u600 u601 b0 HB kj66 HJ66 z12_4 z12_5 z12_6 z12_7 z12_9 A6 c92b0 c92b1 c92b2 H' Ao93 co93 Ao94 co94 d2 d3 d4 d5 z12_0 z12_1 d6 b4 z12_8 gk wr u4 u22 u23 u24 u25 u26 u27 u205 u206 u207 u208 u209 u210 u211 u212 u213 u214 u215 u216 u217 u218 u219 u220 u221 u222 u223 u224 u225 u226 u227 u228 u229 u230 u231 u232 u233 u234 u235 u236 u237 u238 hrel z13_34 z13_35 z13_36 z13_37
 clear H';(try clear c1);(try clear c92b0);(try clear c92b1);(try clear c92b2);obtain ⟨x22_3, x205_3, rfl, rfl, HA, HK3, d6, b4, b2, b0, HB⟩ := hrel;cases gk with
 | zero => exact absurd HA.out (by simp [laws_FnPostDelivers.l0])
 | succ k3 =>
  have H := HA.out;clear HA
  simp only [laws_FnPostDelivers.l0] at H
  replace H := iD_ H; obtain ⟨c95b0, H⟩ | ⟨c95b0, H⟩ := H
  ·replace H := iD_ H; obtain ⟨c96b0, H⟩ | ⟨c96b0, H⟩ := H
   ·replace H := iD_ H; obtain ⟨c97b0, H⟩ | ⟨c97b0, H⟩ := H
    ·replace H := bX_ H; obtain ⟨⟨g0, b5, g1⟩, A98, H⟩ := H; (try dsimp only at H)
     by_cases c99 : g1 = true
     ·subst c99
      rw [if_pos rfl] at H;replace H := bX_ H; obtain ⟨g2, A100, H⟩ := H
      by_cases c101 : g2 = true
      ·subst c101
       rw [if_pos rfl] at H;have c102b0 := eq_true (od_ : 0 ≤ x205_3);replace H := iC_ H; obtain ⟨c103, H⟩ | ⟨c103, H⟩ := H
       ·have c103b0 := eq_true c103
        have c103b1 : decide (x205_3 ≤ (b1.length : Int)) = true := decide_eq_true c103;clear c103;obtain ⟨d7, hy472⟩ : ∃ y_ : List Int, y_ = (b1.take (x205_3 : Int).toNat) := ⟨_, rfl⟩;replace H : ((laws_zHas.f k3 d7 (rd b1 x205_3)).bind fun b6 => (if b6 = true then (none) else (if b5 < x22_3 then (none) else (laws_FnPostDelivers.l0 k3 l1 b1 b9 b5 b1 (b1.length : Int) (wrap64 (x205_3 + 1)) b7 b8)))) = some r := by first | (rw [hy472]; with_reducible exact H) | (have H2_ := (Option.bind_some _ _).symm.trans H; rw [hy472]; with_reducible exact H2_) | (have H2_ := (Option.bind_some _ _).symm.trans H; with_reducible exact H2_) | with_reducible exact H | (rw [hy472]; exact H) | exact H
        have d8 := qb.mk hy472;clear hy472;replace H := bX_ H; obtain ⟨b6, A104, H⟩ := H
        by_cases c105 : b6 = true
        ·rw [if_pos c105] at H
         cases H
        ·replace c105 := Bool.eq_false_iff.mpr c105
         subst c105;rw [if_neg (show ¬ (false = true) by decide)] at H;replace H := iD_ H; obtain ⟨c109b0, H⟩ | ⟨c109b0, H⟩ := H
         ·cases H
         ·have H' := qb.mk H
          clear H;have p467 : 0 ≤ (x205_3 : Int) := od_;have q467 : x205_3 < (b1.length : Int) := od_;obtain ⟨ad467, e467, hx467_0⟩ := Kd.zi (Kd.ze b2.out).2.2 x205_3 p467 q467;cases e467;replace p467 := eq_true p467;replace q467 := eq_true q467;have hcz113_0 := cC_ b0 0;have hcz113_1 := cC_ b0 1;have hfz113_0 := qi b0.out 0;have hfz113_1 := qi b0.out 1
          rename_i z14_0 z14_1 z14_2 z14_3
          revert d2 d3 d4 d5 z12_0 z12_1 z14_2 z14_3 z12_8 z13_36 d6 b4 b2 p467 q467 hcz113_0 hcz113_1 hfz113_0 hfz113_1
          revert x22_3 x205_3 b0 HB k3 z13_37 HK3 c95b0 c96b0 c97b0 g0 b5 A98 A100 c102b0 c103b0 c103b1 d7 d8 A104 c109b0 H' ad467 hx467_0
          revert u217 u218 u219 u220 u221 u222 u223 u224 u225 u226 u227 u228 u229 u230 u231 u232 u233 u234 u235 u236 u237 u238 z13_34 z13_35
          revert z12_7 z12_9 A6 co93 Ao94 co94 wr u4 u23 u24 u25 u26 u27 u206 u207 u208 u209 u210 u211 u212 u213 u214 u215 u216
          revert u585 u586 u587 u588 u589 u590 u591 u592 u593 u594 u595 u596 u597 u598 u599 u600 u601 z14_0 z14_1 kj66 HJ66 z12_4 z12_5 z12_6
          revert u561 u562 u563 u564 u565 u566 u567 u568 u569 u570 u571 u572 u573 u574 u575 u576 u577 u578 u579 u580 u581 u582 u583 u584
          revert u537 u538 u539 u540 u541 u542 u543 u544 u545 u546 u547 u548 u549 u550 u551 u552 u553 u554 u555 u556 u557 u558 u559 u560
          revert u513 u514 u515 u516 u517 u518 u519 u520 u521 u522 u523 u524 u525 u526 u527 u528 u529 u530 u531 u532 u533 u534 u535 u536
          revert u489 u490 u491 u492 u493 u494 u495 u496 u497 u498 u499 u500 u501 u502 u503 u504 u505 u506 u507 u508 u509 u510 u511 u512
          revert u465 u466 u467 u468 u469 u470 u471 u472 u473 u474 u475 u476 u477 u478 u479 u480 u481 u482 u483 u484 u485 u486 u487 u488
          revert u441 u442 u443 u444 u445 u446 u447 u448 u449 u450 u451 u452 u453 u454 u455 u456 u457 u458 u459 u460 u461 u462 u463 u464
          revert u417 u418 u419 u420 u421 u422 u423 u424 u425 u426 u427 u428 u429 u430 u431 u432 u433 u434 u435 u436 u437 u438 u439 u440
          revert u393 u394 u395 u396 u397 u398 u399 u400 u401 u402 u403 u404 u405 u406 u407 u408 u409 u410 u411 u412 u413 u414 u415 u416
          revert u369 u370 u371 u372 u373 u374 u375 u376 u377 u378 u379 u380 u381 u382 u383 u384 u385 u386 u387 u388 u389 u390 u391 u392
          revert u345 u346 u347 u348 u349 u350 u351 u352 u353 u354 u355 u356 u357 u358 u359 u360 u361 u362 u363 u364 u365 u366 u367 u368
          revert u321 u322 u323 u324 u325 u326 u327 u328 u329 u330 u331 u332 u333 u334 u335 u336 u337 u338 u339 u340 u341 u342 u343 u344
          revert u297 u298 u299 u300 u301 u302 u303 u304 u305 u306 u307 u308 u309 u310 u311 u312 u313 u314 u315 u316 u317 u318 u319 u320
          revert u273 u274 u275 u276 u277 u278 u279 u280 u281 u282 u283 u284 u285 u286 u287 u288 u289 u290 u291 u292 u293 u294 u295 u296
          revert u249 u250 u251 u252 u253 u254 u255 u256 u257 u258 u259 u260 u261 u262 u263 u264 u265 u266 u267 u268 u269 u270 u271 u272
          revert u189 u190 u191 u192 u193 u194 u195 u196 u197 u198 u199 u200 u201 u202 u239 u240 u241 u242 u243 u244 u245 u246 u247 u248
          revert u165 u166 u167 u168 u169 u170 u171 u172 u173 u174 u175 u176 u177 u178 u179 u180 u181 u182 u183 u184 u185 u186 u187 u188
          revert u141 u142 u143 u144 u145 u146 u147 u148 u149 u150 u151 u152 u153 u154 u155 u156 u157 u158 u159 u160 u161 u162 u163 u164
          revert u117 u118 u119 u120 u121 u122 u123 u124 u125 u126 u127 u128 u129 u130 u131 u132 u133 u134 u135 u136 u137 u138 u139 u140
          revert u93 u94 u95 u96 u97 u98 u99 u100 u101 u102 u103 u104 u105 u106 u107 u108 u109 u110 u111 u112 u113 u114 u115 u116
          revert w22 v455 z11_0 z11_1 z8_1 nd z11_2 z12_2 z12_3 kj11 HJ11 wc u20 u21 u83 u84 u85 u86 u87 u88 u89 u90 u91 u92
          revert b9 f3 A8 f4 f5 A9 f6 f7 A10 f8 f9 A11 z2_0 z8_0 z2_1 w13 d0 w14 d1 b3 w16 w18 v447 w20
          revert k A0 c0 l0 A1 c1 l1 r w hu25 HR0 HC0 HR1 HC1 A3 b7 b8 d9 f0 A5 b1 f1 f2 A7
          exact S_.a
       ·cases H
      ·rw [if_neg c101] at H
       cases H
     ·rw [if_neg c99] at H
      cases H
    ·cases H
   ·cases H
  ·have H' := qb.mk H
   clear H
   go_wp2
   go_meet
   case rel => exact ⟨_, H', ⟨by have := HJ11.out; have := HJ66.out; have := HK3.out; first | omega | exact Nat.le_refl _⟩, ⟨bk_ b0⟩, ⟨be1_ HB b3⟩⟩
 : Bx.A1 laws_FnPostDelivers.p12)
end Go.Proofs.YtpopeedfgenebaaGreat.PFnPostDelivers
