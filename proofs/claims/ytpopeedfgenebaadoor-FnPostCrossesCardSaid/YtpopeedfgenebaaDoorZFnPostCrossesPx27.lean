/- Cut by wip/cut.py out of the texts of this claim (printed by the kit's printer, or this session's own): what the row's theorem does not reach is struck. Not trusted: Lean checks it. -/
import Derived.Test.YtpopeedfgenebaaDoorZFnPostCrossesPx25
namespace Go.Proofs.YtpopeedfgenebaaDoor.PFnPostCrosses
open Go.RowKit Go.Proofs.YtpopeedfgenebaaDoorW.PrintWords Go.Proofs.YtpopeedfgenebaaDoorW.PrintLast Go.Proofs.YtpopeedfgenebaaDoorW.PrintMore
attribute [local go_sem] zb qz zf ze qw qv za qy
set_option linter.unusedVariables false
set_option linter.defProp false
set_option linter.unusedSimpArgs false
set_option maxHeartbeats 8000000 in
set_option maxRecDepth 100000 in
def laws_FnPostCrosses.p16 := fun (S_ : Bx _ (Unit)) => (by
 unfold Bx.A2
 set_option tactic.hygienic false in intros
 clear HC150
 try clear c1
 try clear p14
 try clear p14
 obtain ⟨kq, x331_149, rfl, HA, HJ149, HB⟩ := hcut
 cases kq with
 | zero => exact absurd HA.out (by simp [laws_FnPostCrosses.j3])
 | succ kj149 =>
  have H := HA.out
  clear HA
  simp only [laws_FnPostCrosses.j3] at H
  by_cases c153 : x331_149 = true
  ·rw [if_pos c153] at H
   cases H
  ·replace c153 := Bool.eq_false_iff.mpr c153
   subst c153
   rw [if_neg (show ¬ (false = true) by decide)] at H
   replace H := iC_ H; obtain ⟨c154, H⟩ | ⟨c154, H⟩ := H
   ·have c154b0 := eq_true c154
    have c154b1 : decide (0 ≤ (t284.size : Int)) = true := decide_eq_true c154
    clear c154
    replace H := iC_ H; obtain ⟨c155, H⟩ | ⟨c155, H⟩ := H
    ·have c155b0 := eq_true c155
     have c155b1 : decide (((t284.size : Int) : Int).toNat ≤ 35184372088832) = true := decide_eq_true c155
     clear c155
     obtain ⟨y339, hy339⟩ : ∃ y_ : List Int, y_ = (List.replicate ((t284.size : Int) : Int).toNat 0) := ⟨_, rfl⟩
     replace H : (laws_FnPostCrosses.l0 kj149 l1 t284 t285 t286 t287 t288 t291 t307 t311 y339 (y339.length : Int) 0) = some r := by first | (rw [hy339]; with_reducible exact H) | (have H2_ := (Option.bind_some _ _).symm.trans H; rw [hy339]; with_reducible exact H2_) | (have H2_ := (Option.bind_some _ _).symm.trans H; with_reducible exact H2_) | with_reducible exact H | (rw [hy339]; exact H) | exact H
     have Ny339 := qa.mk hy339
     clear hy339
     have H' := qa.mk H
     clear H
     rename_i z17_0
     revert k A0 c0 l0 A1 c1 l1 r w HR0 HC0 HR1 HC1 A3 t284 t285 t286 A5 t287 t288 A6 t289 t290 A7 t291 t293 t294 A9 t295 t296 A10 t299 t300 A11 t303 t304 A12 t305 t306 A13 t307 t308 A14 t309 t310 A15 t311 t312 A16 t313 t314 A17 z8_0 z8_1 z8_2 w19 w20 w21 w22 w23 w24 w25 v301 w26 w27 w28 w29 w30 z9_0 z11_0 z11_1 kj17 HJ17 z9_1 z9_2 z9_3 z9_4 z9_6 A8 t328 t329 A117 t330 t331 A118 Ao120 co120 HO298 HO302 z9_5 z16_0 w121 HO_16 z14_0 z14_1 kj118 HJ118 y333 Ny333 w139 z16_1 z16_2 x36_137 z17_0 kj137 HJ137 t337 t338 A149 Ao151 co151 HO335 HO_36 nd z16_429 z16_430 z16_431 z16_432 wc u56 u57 u58 u59 u60 u61 u62 u63 u64 u65 u66 u67 u68 u69 u70 u71 u72 u73 u74 u75 u76 u77 u78 u79 u80 u81 u82 u83 u84 u85 u86 u87 u88 u89 u90 u91 u92 u93 u94 u95 u96 u97 u98 u99 u100 u101 u102 u103 u104 u105 u106 u107 u108 u109 u110 u111 u112 u113 u114 u115 u116 u117 u118 u119 u120 u121 u122 u123 u124 u125 u126 u127 u128 u129 u130 u131 u132 u133 u134 u135 u136 u137 u138 u139 u140 u141 u142 u143 u144 u145 u146 u147 u148 u149 u150 u151 u152 u153 u154 u155 u156 u157 u158 u159 u160 u161 u162 u163 u164 u165 u166 u167 u168 u169 u170 u171 u172 u173 u174 u175 u176 u177 u178 u179 u180 u181 u182 u183 u184 u185 u186 u187 u188 u189 u190 u191 u192 u193 u194 u195 u196 u197 u198 u199 u200 u201 u202 u203 u204 u205 u206 u207 u208 u209 u210 u211 u212 u213 u214 u215 u216 u217 u218 u219 u220 u221 u222 u223 u224 u225 u226 u227 u228 u229 u230 u231 u232 u233 u234 u235 u236 u237 u238 u239 u240 u241 u242 u243 u244 u245 u246 u247 u248 u249 u250 u251 u252 u253 u254 u255 u256 u257 u258 u259 u260 u261 u262 u263 u264 u265 u266 u267 u268 u269 u270 u271 u272 u273 u274 u275 u276 u277 u278 u279 u280 u281 u282 u283 u284 u285 u286 u287 u288 u289 u290 u291 u292 u293 u294 u295 u296 u297 u298 u299 u300 u301 u302 u303 u304 u305 u306 u307 u308 u309 u310 u311 u312 u313 u314 u315 u316 u317 u318 u319 u320 u321 u322 u323 u324 u325 u326 u327 u328 u329 u330 u332 u333 u334 u335 u338 u339 u340 u341 u342 u343 u344 u345 u346 u347 u348 u349 u350 u351 u352 u353 u354 u355 u356 u357 u358 u359 u360 u361 u362 u363 u364 u365 u366 u367 u368 u369 u370 u371 u372 u373 u374 u375 u376 u377 u378 u379 u380 u381 u382 u383 u384 u385 u386 u387 u388 u389 u390 u391 u392 u393 u394 u395 u396 u397 u398 u399 u400 u401 u402 u403 u404 u405 u406 u407 u408 u409 u410 u411 u412 u413 u414 u415 u416 u417 u418 u419 u420 u421 u422 u423 u424 u425 u426 u427 u428 u429 u430 u431 u432 u433 u434 u435 u436 u437 u438 u439 u440 u444 u445 u446 u447 u448 u449 u450 u451 u452 u453 u454 u455 u456 u457 u458 u459 u460 u461 u462 u463 u464 u465 u466 u467 u468 u469 u470 u471 u472 u473 u474 u475 u476 u477 u478 u479 u480 u481 u482 u483 u484 u485 u486 HB kj149 HJ149 c154b0 c154b1 c155b0 c155b1 y339 Ny339 H'
     exact S_.a
    ·cases H
   ·cases H
 done
 : Bx.A2 laws_FnPostCrosses.p14)
end Go.Proofs.YtpopeedfgenebaaDoor.PFnPostCrosses
