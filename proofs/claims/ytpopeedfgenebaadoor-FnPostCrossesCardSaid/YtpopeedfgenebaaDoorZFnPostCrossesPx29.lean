/- Cut by wip/cut.py out of the texts of this claim (printed by the kit's printer, or this session's own): what the row's theorem does not reach is struck. Not trusted: Lean checks it. -/
import Derived.Test.YtpopeedfgenebaaDoorZFnPostCrossesPx28
namespace Go.Proofs.YtpopeedfgenebaaDoor.PFnPostCrosses
open Go.RowKit Go.Proofs.YtpopeedfgenebaaDoorW.PrintWords Go.Proofs.YtpopeedfgenebaaDoorW.PrintLast Go.Proofs.YtpopeedfgenebaaDoorW.PrintMore
attribute [local go_sem] zb qz zf ze qw qv za qy
set_option linter.unusedVariables false
set_option linter.defProp false
set_option linter.unusedSimpArgs false
set_option maxHeartbeats 8000000 in
set_option maxRecDepth 100000 in
def laws_FnPostCrosses.p18 := fun (S_ : Bx _ (Bx _ (Bx _ (Unit)))) => (by
 unfold Bx.A1
 set_option tactic.hygienic false in intros
 clear H'
 try clear c1
 obtain ⟨x39_5, x337_5, rfl, HA, HK5, HO_39, HB⟩ := hrel
 have hl39_5 := (Kd.R_reads' HO_39.out).1
 rw [hl39_5] at HO_39
 (try simp only [hl39_5])
 cases gk with
 | zero => exact absurd HA.out (by simp [laws_FnPostCrosses.l0])
 | succ k5 =>
  have H := HA.out
  clear HA
  simp only [laws_FnPostCrosses.l0] at H
  replace H := iC_ H; obtain ⟨c159, H⟩ | ⟨c159, H⟩ := H
  ·have c159b0 : decide (x337_5 < (y339.length : Int)) = true := decide_eq_true c159
   (try (have c159b0hl39_5 := c159b0; rw [hl39_5] at c159b0hl39_5))
   clear c159
   replace H := iD_ H; obtain ⟨c160b0, H⟩ | ⟨c160b0, H⟩ := H
   ·replace H := iC_ H; obtain ⟨c161, H⟩ | ⟨c161, H⟩ := H
    ·have c161b0 : decide (x337_5 < (x39_5.length : Int)) = true := decide_eq_true c161
     (try (have c161b0hl39_5 := c161b0; rw [hl39_5] at c161b0hl39_5))
     clear c161
     obtain ⟨y342, hy342⟩ : ∃ y_ : List Int, y_ = (x39_5.set (x337_5 : Int).toNat (wrap64 (1 - (Int.tmod x337_5 2)))) := ⟨_, rfl⟩
     replace H : (laws_FnPostCrosses.l0 k5 l1 t284 t285 t286 t287 t288 t291 t307 t311 y342 (y339.length : Int) (wrap64 (x337_5 + 1))) = some r := by first | (rw [hy342]; with_reducible exact H) | (have H2_ := (Option.bind_some _ _).symm.trans H; rw [hy342]; with_reducible exact H2_) | (have H2_ := (Option.bind_some _ _).symm.trans H; with_reducible exact H2_) | with_reducible exact H | (rw [hy342]; exact H) | exact H
     have Ny342 := qa.mk hy342
     clear hy342
     have H' := qa.mk H
     clear H
     have p162 : 0 ≤ (x337_5 : Int) := od_
     have q162 : (x337_5 : Int) < ((x39_5.length : Int) : Int) := od_
     obtain ⟨go162, co162, eo162, gb162, gl162, cl162, HG162⟩ := Kd.R_form HO_39.out (by omega)
     (first | cases eo162 | (injection eo162 with ea_ en_ ec_; (first | subst ea_ | (injection ea_ with ea_; subst ea_)); subst ec_; clear en_))
     have GB162 := qa.mk gb162
     have GG162 := qa.mk HG162
     clear gb162 gl162 HG162
     obtain ⟨hx162_0, hf162_0⟩ := Kd.R_celln 0 HO_39.out (x337_5 : Int) p162 q162
     replace p162 := eq_true p162
     replace q162 := eq_true q162
     have HP163 := Kd.R_putg HO_39.out (x337_5 : Int) (wrap64 (1 - (Int.tmod x337_5 2)))
     rename_i z19_0
     revert k A0 c0 l0 A1 c1 l1 r w HR0 HC0 HR1 HC1 A3 t284 t285 t286 A5 t287 t288 A6 t289 t290 A7 t291 t293 t294 A9 t295 t296 A10 t299 t300 A11 t303 t304 A12 t305 t306 A13 t307 t308 A14 t309 t310 A15 t311 t312 A16 t313 t314 A17 z8_0 z8_1 z8_2 w19 w20 w21 w22 w23 w24 w25 v301 w26 w27 w28 w29 w30 z9_0 z11_0 z11_1 kj17 HJ17 z9_1 z9_2 z9_3 z9_4 z9_6 A8 t328 t329 A117 t330 t331 A118 Ao120 co120 HO298 HO302 z9_5 z16_0 w121 HO_16 z14_0 z14_1 kj118 HJ118 y333 Ny333 w139 z16_1 z16_2 x36_137 z17_0 kj137 HJ137 t337 t338 A149 Ao151 co151 HO335 HO_36 nd wc u56 u57 u58 u59 u60 u61 u62 u63 u64 u65 u66 u67 u68 u69 u70 u71 u72 u73 u74 u75 u76 u77 u78 u79 u80 u81 u82 u83 u84 u85 u86 u87 u88 u89 u90 u91 u92 u93 u94 u95 u96 u97 u98 u99 u100 u101 u102 u103 u104 u105 u106 u107 u108 u109 u110 u111 u112 u113 u114 u115 u116 u117 u118 u119 u120 u121 u122 u123 u124 u125 u126 u127 u128 u129 u130 u131 u132 u133 u134 u135 u136 u137 u138 u139 u140 u141 u142 u143 u144 u145 u146 u147 u148 u149 u150 u151 u152 u153 u154 u155 u156 u157 u158 u159 u160 u161 u162 u163 u164 u165 u166 u167 u168 u169 u170 u171 u172 u173 u174 u175 u176 u177 u178 u179 u180 u181 u182 u183 u184 u185 u186 u187 u188 u189 u190 u191 u192 u193 u194 u195 u196 u197 u198 u199 u200 u201 u202 u203 u204 u205 u206 u207 u208 u209 u210 u211 u212 u213 u214 u215 u216 u217 u218 u219 u220 u221 u222 u223 u224 u225 u226 u227 u228 u229 u230 u231 u232 u233 u234 u235 u236 u237 u238 u239 u240 u241 u242 u243 u244 u245 u246 u247 u248 u249 u250 u251 u252 u253 u254 u255 u256 u257 u258 u259 u260 u261 u262 u263 u264 u265 u266 u267 u268 u269 u270 u271 u272 u273 u274 u275 u276 u277 u278 u279 u280 u281 u282 u283 u284 u285 u286 u287 u288 u289 u290 u291 u292 u293 u294 u295 u296 u297 u298 u299 u300 u301 u302 u303 u304 u305 u306 u307 u308 u309 u310 u311 u312 u313 u314 u315 u316 u317 u318 u319 u320 u321 u322 u323 u324 u325 u326 u327 u328 u329 u330 u332 u333 u334 u335 u347 u348 u349 u350 u351 u352 u353 u354 u355 u356 u357 u358 u359 u360 u361 u362 u363 u364 u365 u366 u367 u368 u369 u370 u371 u372 u373 u374 u375 u376 u377 u378 u379 u380 u381 u382 u383 u384 u385 u386 u387 u388 u389 u390 u391 u392 u393 u394 u395 u396 u397 u398 u399 u400 u401 u402 u403 u404 u405 u406 u407 u408 u409 u410 u411 u412 u413 u414 u415 u416 u417 u418 u419 u420 u421 u422 u423 u424 u425 u426 u427 u428 u429 u430 u431 u432 u433 u434 u435 u436 u437 u438 u439 u440 u444 u445 u446 u447 u448 u449 u450 u451 u452 u453 u454 u455 u456 u457 u458 u459 u460 u461 u462 u463 u464 u465 u466 u467 u468 u469 u470 u471 u472 u473 u474 u475 u476 u477 u478 u479 u480 u481 u482 u483 u484 u485 u486 kj149 HJ149 y339 Ny339 w156 z19_0 co158 z18_9 z18_10 wr u40 u338 u339 u340 u341 u342 u343 u344 u345 u346 z18_11 z18_12 x39_5 x337_5 HB hl39_5 k5 z18_14 HK5 c159b0 c159b0hl39_5 c160b0 c161b0 y342 Ny342 H' go162 cl162 HO341 z18_13 HO_39 GB162 GG162 hx162_0 hf162_0 p162 q162 HP163
     exact S_.a
    ·cases H
   ·cases H
  ·have c159b0 : decide (x337_5 < (y339.length : Int)) = false := decide_eq_false c159
   (try (have c159b0hl39_5 := c159b0; rw [hl39_5] at c159b0hl39_5))
   clear c159
   replace H := iD_ H; obtain ⟨c165b0, H⟩ | ⟨c165b0, H⟩ := H
   ·obtain ⟨ji166, hji166⟩ : ∃ j_ : Int, (wrap64 ((x39_5.length : Int) - 1)) = j_ := ⟨_, rfl⟩
    replace H : (if 0 ≤ (ji166) then (if (ji166) < (x39_5.length : Int) then ((impl_RouteCrossings.f k5 t284 (x39_5.set ((ji166) : Int).toNat t285)).bind fun bt344 => (if bt344.2 = true then (if bt344.1 < t291 then (none) else (laws_FnPostCrosses.j5 k5 l1 t284 t286 t287 t288 t291 t307 t311)) else (none))) else (none)) else (none)) = some r := by first | (rw [hji166] at H; exact H) | (simp only [hji166] at H ⊢; exact H)
    have hji166w : (IntKind.i64.wrap ((x39_5.length : Int) - 1)) = ji166 := (i64_w _).trans hji166
    replace H := iD_ H; obtain ⟨c167b0, H⟩ | ⟨c167b0, H⟩ := H
    ·replace H := iC_ H; obtain ⟨c168, H⟩ | ⟨c168, H⟩ := H
     ·have c168b0 : decide ((ji166) < (x39_5.length : Int)) = true := decide_eq_true c168
      (try (have c168b0hl39_5 := c168b0; rw [hl39_5] at c168b0hl39_5))
      clear c168
      obtain ⟨y343, hy343⟩ : ∃ y_ : List Int, y_ = (x39_5.set ((ji166) : Int).toNat t285) := ⟨_, rfl⟩
      replace H : ((impl_RouteCrossings.f k5 t284 y343).bind fun bt344 => (if bt344.2 = true then (if bt344.1 < t291 then (none) else (laws_FnPostCrosses.j5 k5 l1 t284 t286 t287 t288 t291 t307 t311)) else (none))) = some r := by first | (rw [hy343]; with_reducible exact H) | (have H2_ := (Option.bind_some _ _).symm.trans H; rw [hy343]; with_reducible exact H2_) | (have H2_ := (Option.bind_some _ _).symm.trans H; with_reducible exact H2_) | with_reducible exact H | (rw [hy343]; exact H) | exact H
      have Ny343 := qa.mk hy343
      clear hy343
      replace H := bX_ H; obtain ⟨⟨t344, t345⟩, A170, H⟩ := H; (try dsimp only at H)
      by_cases c171 : t345 = true
      ·subst c171
       rw [if_pos rfl] at H
       replace H := iD_ H; obtain ⟨c172b0, H⟩ | ⟨c172b0, H⟩ := H
       ·cases H
       ·have H' := qa.mk H
        clear H
        have p169 : 0 ≤ ((ji166) : Int) := od_
        have q169 : ((ji166) : Int) < ((x39_5.length : Int) : Int) := od_
        obtain ⟨go169, co169, eo169, gb169, gl169, cl169, HG169⟩ := Kd.R_form HO_39.out (by omega)
        (first | cases eo169 | (injection eo169 with ea_ en_ ec_; (first | subst ea_ | (injection ea_ with ea_; subst ea_)); subst ec_; clear en_))
        have GB169 := qa.mk gb169
        have GG169 := qa.mk HG169
        clear gb169 gl169 HG169
        obtain ⟨hx169_0, hf169_0⟩ := Kd.R_celln 0 HO_39.out ((ji166) : Int) p169 q169
        replace p169 := eq_true p169
        replace q169 := eq_true q169
        have HP175 := Kd.R_putg HO_39.out ((ji166) : Int) t285
        rename_i z20_0
        revert k A0 c0 l0 A1 c1 l1 r w HR0 HC0 HR1 HC1 A3 t284 t285 t286 A5 t287 t288 A6 t289 t290 A7 t291 t293 t294 A9 t295 t296 A10 t299 t300 A11 t303 t304 A12 t305 t306 A13 t307 t308 A14 t309 t310 A15 t311 t312 A16 t313 t314 A17 z8_0 z8_1 z8_2 w19 w20 w21 w22 w23 w24 w25 v301 w26 w27 w28 w29 w30 z9_0 z11_0 z11_1 kj17 HJ17 z9_1 z9_2 z9_3 z9_4 z9_6 A8 t328 t329 A117 t330 t331 A118 Ao120 co120 HO298 HO302 z9_5 z16_0 w121 HO_16 z14_0 z14_1 kj118 HJ118 y333 Ny333 w139 z16_1 z16_2 x36_137 z17_0 kj137 HJ137 t337 t338 A149 Ao151 co151 HO335 HO_36 nd wc u56 u57 u58 u59 u60 u61 u62 u63 u64 u65 u66 u67 u68 u69 u70 u71 u72 u73 u74 u75 u76 u77 u78 u79 u80 u81 u82 u83 u84 u85 u86 u87 u88 u89 u90 u91 u92 u93 u94 u95 u96 u97 u98 u99 u100 u101 u102 u103 u104 u105 u106 u107 u108 u109 u110 u111 u112 u113 u114 u115 u116 u117 u118 u119 u120 u121 u122 u123 u124 u125 u126 u127 u128 u129 u130 u131 u132 u133 u134 u135 u136 u137 u138 u139 u140 u141 u142 u143 u144 u145 u146 u147 u148 u149 u150 u151 u152 u153 u154 u155 u156 u157 u158 u159 u160 u161 u162 u163 u164 u165 u166 u167 u168 u169 u170 u171 u172 u173 u174 u175 u176 u177 u178 u179 u180 u181 u182 u183 u184 u185 u186 u187 u188 u189 u190 u191 u192 u193 u194 u195 u196 u197 u198 u199 u200 u201 u202 u203 u204 u205 u206 u207 u208 u209 u210 u211 u212 u213 u214 u215 u216 u217 u218 u219 u220 u221 u222 u223 u224 u225 u226 u227 u228 u229 u230 u231 u232 u233 u234 u235 u236 u237 u238 u239 u240 u241 u242 u243 u244 u245 u246 u247 u248 u249 u250 u251 u252 u253 u254 u255 u256 u257 u258 u259 u260 u261 u262 u263 u264 u265 u266 u267 u268 u269 u270 u271 u272 u273 u274 u275 u276 u277 u278 u279 u280 u281 u282 u283 u284 u285 u286 u287 u288 u289 u290 u291 u292 u293 u294 u295 u296 u297 u298 u299 u300 u301 u302 u303 u304 u305 u306 u307 u308 u309 u310 u311 u312 u313 u314 u315 u316 u317 u318 u319 u320 u321 u322 u323 u324 u325 u326 u327 u328 u329 u330 u332 u333 u334 u335 u347 u348 u349 u350 u351 u352 u353 u354 u355 u356 u357 u358 u359 u360 u361 u362 u363 u364 u365 u366 u367 u368 u369 u370 u371 u372 u373 u374 u375 u376 u377 u378 u379 u380 u381 u382 u383 u384 u385 u386 u387 u388 u389 u390 u391 u392 u393 u394 u395 u396 u397 u398 u399 u400 u401 u402 u403 u404 u405 u406 u407 u408 u409 u410 u411 u412 u413 u414 u415 u416 u417 u418 u419 u420 u421 u422 u423 u424 u425 u426 u427 u428 u429 u430 u431 u432 u433 u434 u435 u436 u437 u438 u439 u440 u444 u445 u446 u447 u448 u449 u450 u451 u452 u453 u454 u455 u456 u457 u458 u459 u460 u461 u462 u463 u464 u465 u466 u467 u468 u469 u470 u471 u472 u473 u474 u475 u476 u477 u478 u479 u480 u481 u482 u483 u484 u485 u486 kj149 HJ149 y339 Ny339 w156 z20_0 co158 z18_9 z18_10 wr u40 u338 u339 u340 u341 u342 u343 u344 u345 u346 z18_11 z18_12 x39_5 x337_5 HB hl39_5 k5 z18_14 HK5 c159b0 c159b0hl39_5 c165b0 ji166 hji166 hji166w c167b0 c168b0 y343 Ny343 t344 A170 c172b0 H' go169 cl169 HO341 z18_13 HO_39 GB169 GG169 hx169_0 hf169_0 p169 q169 HP175
        exact S_.r.a
      ·rw [if_neg c171] at H
       cases H
     ·cases H
    ·cases H
   ·replace H := bX_ H; obtain ⟨⟨t346, t347⟩, A179, H⟩ := H; (try dsimp only at H)
    by_cases c180 : t347 = true
    ·subst c180
     rw [if_pos rfl] at H
     replace H := iD_ H; obtain ⟨c181b0, H⟩ | ⟨c181b0, H⟩ := H
     ·cases H
     ·have H' := qa.mk H
      clear H
      rename_i z21_0
      revert k A0 c0 l0 A1 c1 l1 r w HR0 HC0 HR1 HC1 A3 t284 t285 t286 A5 t287 t288 A6 t289 t290 A7 t291 t293 t294 A9 t295 t296 A10 t299 t300 A11 t303 t304 A12 t305 t306 A13 t307 t308 A14 t309 t310 A15 t311 t312 A16 t313 t314 A17 z8_0 z8_1 z8_2 w19 w20 w21 w22 w23 w24 w25 v301 w26 w27 w28 w29 w30 z9_0 z11_0 z11_1 kj17 HJ17 z9_1 z9_2 z9_3 z9_4 z9_6 A8 t328 t329 A117 t330 t331 A118 Ao120 co120 HO298 HO302 z9_5 z16_0 w121 HO_16 z14_0 z14_1 kj118 HJ118 y333 Ny333 w139 z16_1 z16_2 x36_137 z17_0 kj137 HJ137 t337 t338 A149 Ao151 co151 HO335 HO_36 nd wc u56 u57 u58 u59 u60 u61 u62 u63 u64 u65 u66 u67 u68 u69 u70 u71 u72 u73 u74 u75 u76 u77 u78 u79 u80 u81 u82 u83 u84 u85 u86 u87 u88 u89 u90 u91 u92 u93 u94 u95 u96 u97 u98 u99 u100 u101 u102 u103 u104 u105 u106 u107 u108 u109 u110 u111 u112 u113 u114 u115 u116 u117 u118 u119 u120 u121 u122 u123 u124 u125 u126 u127 u128 u129 u130 u131 u132 u133 u134 u135 u136 u137 u138 u139 u140 u141 u142 u143 u144 u145 u146 u147 u148 u149 u150 u151 u152 u153 u154 u155 u156 u157 u158 u159 u160 u161 u162 u163 u164 u165 u166 u167 u168 u169 u170 u171 u172 u173 u174 u175 u176 u177 u178 u179 u180 u181 u182 u183 u184 u185 u186 u187 u188 u189 u190 u191 u192 u193 u194 u195 u196 u197 u198 u199 u200 u201 u202 u203 u204 u205 u206 u207 u208 u209 u210 u211 u212 u213 u214 u215 u216 u217 u218 u219 u220 u221 u222 u223 u224 u225 u226 u227 u228 u229 u230 u231 u232 u233 u234 u235 u236 u237 u238 u239 u240 u241 u242 u243 u244 u245 u246 u247 u248 u249 u250 u251 u252 u253 u254 u255 u256 u257 u258 u259 u260 u261 u262 u263 u264 u265 u266 u267 u268 u269 u270 u271 u272 u273 u274 u275 u276 u277 u278 u279 u280 u281 u282 u283 u284 u285 u286 u287 u288 u289 u290 u291 u292 u293 u294 u295 u296 u297 u298 u299 u300 u301 u302 u303 u304 u305 u306 u307 u308 u309 u310 u311 u312 u313 u314 u315 u316 u317 u318 u319 u320 u321 u322 u323 u324 u325 u326 u327 u328 u329 u330 u332 u333 u334 u335 u347 u348 u349 u350 u351 u352 u353 u354 u355 u356 u357 u358 u359 u360 u361 u362 u363 u364 u365 u366 u367 u368 u369 u370 u371 u372 u373 u374 u375 u376 u377 u378 u379 u380 u381 u382 u383 u384 u385 u386 u387 u388 u389 u390 u391 u392 u393 u394 u395 u396 u397 u398 u399 u400 u401 u402 u403 u404 u405 u406 u407 u408 u409 u410 u411 u412 u413 u414 u415 u416 u417 u418 u419 u420 u421 u422 u423 u424 u425 u426 u427 u428 u429 u430 u431 u432 u433 u434 u435 u436 u437 u438 u439 u440 u444 u445 u446 u447 u448 u449 u450 u451 u452 u453 u454 u455 u456 u457 u458 u459 u460 u461 u462 u463 u464 u465 u466 u467 u468 u469 u470 u471 u472 u473 u474 u475 u476 u477 u478 u479 u480 u481 u482 u483 u484 u485 u486 kj149 HJ149 y339 Ny339 w156 z21_0 Ao158 co158 HO341 z18_9 z18_10 wr u40 u338 u339 u340 u341 u342 u343 u344 u345 u346 z18_11 z18_12 z18_13 x39_5 x337_5 HO_39 HB hl39_5 k5 z18_14 HK5 c159b0 c159b0hl39_5 c165b0 t346 A179 c181b0 H'
      exact S_.r.r.a
    ·rw [if_neg c180] at H
     cases H
 done
 : Bx.A1 laws_FnPostCrosses.p17)
end Go.Proofs.YtpopeedfgenebaaDoor.PFnPostCrosses
