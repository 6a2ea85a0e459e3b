/- Cut by wip/cut.py out of the texts of this claim (printed by the kit's printer, or this session's own): what the row's theorem does not reach is struck. Not trusted: Lean checks it. -/
import Derived.Test.YtpopeedfgenebaaDoorZFnPostCrossesPx38
namespace Go.Proofs.YtpopeedfgenebaaDoor.PFnPostCrosses
open Go.RowKit Go.Proofs.YtpopeedfgenebaaDoorW.PrintWords Go.Proofs.YtpopeedfgenebaaDoorW.PrintLast Go.Proofs.YtpopeedfgenebaaDoorW.PrintMore
attribute [local go_sem] zb qz zf ze qw qv za qy
set_option linter.unusedVariables false
set_option linter.defProp false
set_option linter.unusedSimpArgs false
set_option maxHeartbeats 8000000 in
set_option maxRecDepth 100000 in
def laws_FnPostCrosses.p28 := fun (S_ : Bx _ (Bx _ (Unit))) => (by
 unfold Bx.A1
 set_option tactic.hygienic false in intros
 clear H'
 try clear c1
 obtain ⟨x51_5, x443_5, rfl, HA, HK5, HO_51, HO_441, HB⟩ := hrel
 cases gk with
 | zero => exact absurd HA.out (by simp [laws_FnPostCrosses.l1])
 | succ k5 =>
  have H := HA.out
  clear HA
  simp only [laws_FnPostCrosses.l1] at H
  replace H := iC_ H; obtain ⟨c206, H⟩ | ⟨c206, H⟩ := H
  ·have c206b0 : decide (x443_5 < (t349.length : Int)) = true := decide_eq_true c206
   (try (have c206b0hl39_5 := c206b0; rw [hl39_5] at c206b0hl39_5))
   clear c206
   replace H := iD_ H; obtain ⟨c207b0, H⟩ | ⟨c207b0, H⟩ := H
   ·replace H := iC_ H; obtain ⟨c208, H⟩ | ⟨c208, H⟩ := H
    ·have c208b0 : decide (x443_5 < (t349.length : Int)) = true := decide_eq_true c208
     (try (have c208b0hl39_5 := c208b0; rw [hl39_5] at c208b0hl39_5))
     clear c208
     replace H := iC_ H; obtain ⟨c209, H⟩ | ⟨c209, H⟩ := H
     ·have c209b0 : decide (x443_5 < (x51_5.length : Int)) = true := decide_eq_true c209
      (try (have c209b0hl39_5 := c209b0; rw [hl39_5] at c209b0hl39_5))
      clear c209
      obtain ⟨y364, hy364⟩ : ∃ y_ : List Int, y_ = (x51_5.set (x443_5 : Int).toNat (wrap64 (1 - (rd t349 x443_5)))) := ⟨_, rfl⟩
      replace H : (laws_FnPostCrosses.l1 k5 t352 t356 t357 t358 t359 y364 t349 (t349.length : Int) (wrap64 (x443_5 + 1))) = some r := by first | (rw [hy364]; with_reducible exact H) | (have H2_ := (Option.bind_some _ _).symm.trans H; rw [hy364]; with_reducible exact H2_) | (have H2_ := (Option.bind_some _ _).symm.trans H; with_reducible exact H2_) | with_reducible exact H | (rw [hy364]; exact H) | exact H
      have Ny364 := qa.mk hy364
      clear hy364
      have H' := qa.mk H
      clear H
      have p363 : 0 ≤ (x443_5 : Int) := od_
      have q363 : x443_5 < (t349.length : Int) := od_
      obtain ⟨ad363, e363, hx363_0⟩ := Kd.zj (Kd.R_reads' HO_441.out).2.2 x443_5 p363 q363
      cases e363
      replace p363 := eq_true p363
      replace q363 := eq_true q363
      have p210 : 0 ≤ (x443_5 : Int) := od_
      have q210 : (x443_5 : Int) < ((x51_5.length : Int) : Int) := od_
      obtain ⟨go210, co210, eo210, gb210, gl210, cl210, HG210⟩ := Kd.R_form HO_51.out (by omega)
      (first | cases eo210 | (injection eo210 with ea_ en_ ec_; (first | subst ea_ | (injection ea_ with ea_; subst ea_)); subst ec_; clear en_))
      have GB210 := qa.mk gb210
      have GG210 := qa.mk HG210
      clear gb210 gl210 HG210
      obtain ⟨hx210_0, hf210_0⟩ := Kd.R_celln 0 HO_51.out (x443_5 : Int) p210 q210
      replace p210 := eq_true p210
      replace q210 := eq_true q210
      have HP211 := Kd.R_putg HO_51.out (x443_5 : Int) (wrap64 (1 - (rd t349 x443_5)))
      rename_i z29_0
      revert k A0 c0 l0 A1 c1 l1 r w HR0 HC0 HR1 HC1 A3 t284 t285 t286 A5 t287 t288 A6 t289 t290 A7 t291 t292 A8 t293 t294 A9 t295 t296 A10 t299 t300 A11 t303 t304 A12 t305 t306 A13 t307 t308 A14 t309 t310 A15 t311 t312 A16 t313 t314 A17 z8_0 z8_1 z8_2 w19 w20 w21 w22 w23 w24 v297 w25 v301 w26 w27 w28 w29 w30 HO298 HO302 z22_0 z26_0 z22_1 HO_16 z24_0 kj17 HJ17 z24_1 u32 u33 u34 u35 u36 u37 u38 u39 u40 u336 u337 z26_1 kj114 HJ114 z26_2 u4 kj181 HJ181 t348 t349 A189 t352 t354 t355 A191 w193 z27_0 co194 z26_429 nd wc u56 u57 u58 u59 u60 u61 u62 u63 u64 u65 u66 u67 u68 u69 u70 u71 u72 u73 u74 u75 u76 u77 u78 u79 u80 u81 u82 u83 u84 u85 u86 u87 u88 u89 u90 u91 u92 u93 u94 u95 u96 u97 u98 u99 u100 u101 u102 u103 u104 u105 u106 u107 u108 u109 u110 u111 u112 u113 u114 u115 u116 u117 u118 u119 u120 u121 u122 u123 u124 u125 u126 u127 u128 u129 u130 u131 u132 u133 u134 u135 u136 u137 u138 u139 u140 u141 u142 u143 u144 u145 u146 u147 u148 u149 u150 u151 u152 u153 u154 u155 u156 u157 u158 u159 u160 u161 u162 u163 u164 u165 u166 u167 u168 u169 u170 u171 u172 u173 u174 u175 u176 u177 u178 u179 u180 u181 u182 u183 u184 u185 u186 u187 u188 u189 u190 u191 u192 u193 u194 u195 u196 u197 u198 u199 u200 u201 u202 u203 u204 u205 u206 u207 u208 u209 u210 u211 u212 u213 u214 u215 u216 u217 u218 u219 u220 u221 u222 u223 u224 u225 u226 u227 u228 u229 u230 u231 u232 u233 u234 u235 u236 u237 u238 u239 u240 u241 u242 u243 u244 u245 u246 u247 u248 u249 u250 u251 u252 u253 u254 u255 u256 u257 u258 u259 u260 u261 u262 u263 u264 u265 u266 u267 u268 u269 u270 u271 u272 u273 u274 u275 u276 u277 u278 u279 u280 u281 u282 u283 u284 u285 u286 u287 u288 u289 u290 u291 u292 u293 u294 u295 u296 u297 u298 u299 u300 u301 u302 u303 u304 u305 u306 u307 u308 u309 u310 u311 u312 u313 u314 u315 u316 u317 u318 u319 u320 u321 u322 u323 u324 u325 u326 u327 u328 u329 u330 u331 u332 u333 u334 u335 u338 u339 u340 u341 u342 u343 u344 u345 u346 u347 u348 u349 u350 u351 u352 u353 u354 u355 u356 u357 u358 u359 u360 u361 u362 u363 u364 u365 u366 u367 u368 u369 u370 u371 u372 u373 u374 u375 u376 u377 u378 u379 u380 u381 u382 u383 u384 u385 u386 u387 u388 u389 u390 u391 u392 u393 u394 u395 u396 u397 u398 u399 u400 u401 u402 u403 u404 u405 u406 u407 u408 u409 u410 u411 u412 u413 u414 u415 u416 u417 u418 u419 u420 u421 u422 u423 u424 u425 u427 u428 u429 u430 u431 u432 u433 u434 u435 u436 u437 u438 u439 u440 u454 u455 u456 u457 u458 u459 u460 u461 u462 u463 u464 u465 u466 u467 u468 u469 u470 u471 u472 u473 u474 u475 u476 u477 u478 u479 u480 u481 u482 u483 u484 u485 u486 kj191 HJ191 A190 t356 t357 A198 t358 t359 A199 y360 Ny360 z28_10 z28_11 w202 w203 w204 z29_0 z28_12 z28_13 wr u52 u53 u444 u445 u446 u447 u448 u449 u450 u451 u452 u453 z28_14 z28_15 x51_5 x443_5 HB k5 z28_17 HK5 c206b0 c207b0 c208b0 c209b0 y364 Ny364 H' ad363 hx363_0 HO351 p363 q363 go210 co210 cl210 HO362 HO_42 z28_16 HO_51 HO_441 GB210 GG210 hx210_0 hf210_0 p210 q210 HP211
      exact S_.a
     ·cases H
    ·cases H
   ·cases H
  ·have c206b0 : decide (x443_5 < (t349.length : Int)) = false := decide_eq_false c206
   (try (have c206b0hl39_5 := c206b0; rw [hl39_5] at c206b0hl39_5))
   clear c206
   replace H := bX_ H; obtain ⟨⟨t365, t366⟩, A213, H⟩ := H; (try dsimp only at H)
   by_cases c214 : t357 = true
   ·subst c214
    rw [if_pos rfl] at H
    replace H := iC_ H; obtain ⟨c215, H⟩ | ⟨c215, H⟩ := H
    ·cases H
    ·have c215b0 : decide (t352 < t356) = false := decide_eq_false c215
     clear c215
     by_cases c217 : t359 = true
     ·subst c217
      rw [if_pos rfl] at H
      by_cases c218 : t366 = true
      ·subst c218
       rw [if_pos rfl] at H
       replace H := iC_ H; obtain ⟨c219, H⟩ | ⟨c219, H⟩ := H
       ·cases H
       ·have c219b0 : decide ((wrap64 (t352 + 1)) < t365) = false := decide_eq_false c219
        clear c219
        replace H := iC_ H; obtain ⟨c221, H⟩ | ⟨c221, H⟩ := H
        ·cases H
        ·have c221b0 : decide ((wrap64 (t365 + 1)) < t352) = false := decide_eq_false c221
         clear c221
         obtain rfl := Option.some.inj H
         obtain ⟨Ao223, co223, eo223⟩ := Kd.zi HO_51.out
         subst eo223
         rename_i z30_0
         revert k A0 c0 l0 A1 c1 l1 w HR0 HC0 HR1 HC1 A3 t284 t285 t286 A5 t287 t288 A6 t289 t290 A7 t291 t292 A8 t293 t294 A9 t295 t296 A10 t299 t300 A11 t303 t304 A12 t305 t306 A13 t307 t308 A14 t309 t310 A15 t311 t312 A16 t313 t314 A17 z8_1 z8_2 w19 w20 w21 w22 w23 w24 v297 w25 v301 w26 w27 w28 w29 w30 HO298 HO302 z22_0 z26_0 z22_1 HO_16 z24_0 kj17 HJ17 z24_1 u32 u33 u34 u35 u36 u37 u38 u39 u40 u336 u337 z26_1 kj114 HJ114 z26_2 u4 kj181 HJ181 t348 t349 A189 t352 t354 t355 A191 w193 z27_0 Ao194 co194 HO351 z26_429 nd wc u56 u57 u58 u59 u60 u61 u62 u63 u64 u65 u66 u67 u68 u69 u70 u71 u72 u73 u74 u75 u76 u77 u78 u79 u80 u81 u82 u83 u84 u85 u86 u87 u88 u89 u90 u91 u92 u93 u94 u95 u96 u97 u98 u99 u100 u101 u102 u103 u104 u105 u106 u107 u108 u109 u110 u111 u112 u113 u114 u115 u116 u117 u118 u119 u120 u121 u122 u123 u124 u125 u126 u127 u128 u129 u130 u131 u132 u133 u134 u135 u136 u137 u138 u139 u140 u141 u142 u143 u144 u145 u146 u147 u148 u149 u150 u151 u152 u153 u154 u155 u156 u157 u158 u159 u160 u161 u162 u163 u164 u165 u166 u167 u168 u169 u170 u171 u172 u173 u174 u175 u176 u177 u178 u179 u180 u181 u182 u183 u184 u185 u186 u187 u188 u189 u190 u191 u192 u193 u194 u195 u196 u197 u198 u199 u200 u201 u202 u203 u204 u205 u206 u207 u208 u209 u210 u211 u212 u213 u214 u215 u216 u217 u218 u219 u220 u221 u222 u223 u224 u225 u226 u227 u228 u229 u230 u231 u232 u233 u234 u235 u236 u237 u238 u239 u240 u241 u242 u243 u244 u245 u246 u247 u248 u249 u250 u251 u252 u253 u254 u255 u256 u257 u258 u259 u260 u261 u262 u263 u264 u265 u266 u267 u268 u269 u270 u271 u272 u273 u274 u275 u276 u277 u278 u279 u280 u281 u282 u283 u284 u285 u286 u287 u288 u289 u290 u291 u292 u293 u294 u295 u296 u297 u298 u299 u300 u301 u302 u303 u304 u305 u306 u307 u308 u309 u310 u311 u312 u313 u314 u315 u316 u317 u318 u319 u320 u321 u322 u323 u324 u325 u326 u327 u328 u329 u330 u331 u332 u333 u334 u335 u338 u339 u340 u341 u342 u343 u344 u345 u346 u347 u348 u349 u350 u351 u352 u353 u354 u355 u356 u357 u358 u359 u360 u361 u362 u363 u364 u365 u366 u367 u368 u369 u370 u371 u372 u373 u374 u375 u376 u377 u378 u379 u380 u381 u382 u383 u384 u385 u386 u387 u388 u389 u390 u391 u392 u393 u394 u395 u396 u397 u398 u399 u400 u401 u402 u403 u404 u405 u406 u407 u408 u409 u410 u411 u412 u413 u414 u415 u416 u417 u418 u419 u420 u421 u422 u423 u424 u425 u427 u428 u429 u430 u431 u432 u433 u434 u435 u436 u437 u438 u439 u440 u454 u455 u456 u457 u458 u459 u460 u461 u462 u463 u464 u465 u466 u467 u468 u469 u470 u471 u472 u473 u474 u475 u476 u477 u478 u479 u480 u481 u482 u483 u484 u485 u486 kj191 HJ191 A190 t356 t358 y360 Ny360 z28_10 w202 w203 w204 z30_0 z28_12 wr u52 u53 u444 u445 u446 u447 u448 u449 u450 u451 u452 u453 z28_14 z28_15 x51_5 x443_5 HB k5 z28_17 HK5 c206b0 t365 A198 c215b0 A199 A213 c219b0 c221b0 z8_0 z28_11 z28_13 H Ao223 co223 HO362 HO_42 HO_51 HO_441 z28_16
         exact S_.r.a
      ·rw [if_neg c218] at H
       cases H
     ·rw [if_neg c217] at H
      cases H
   ·rw [if_neg c214] at H
    cases H
 done
 : Bx.A1 laws_FnPostCrosses.p27)
end Go.Proofs.YtpopeedfgenebaaDoor.PFnPostCrosses
