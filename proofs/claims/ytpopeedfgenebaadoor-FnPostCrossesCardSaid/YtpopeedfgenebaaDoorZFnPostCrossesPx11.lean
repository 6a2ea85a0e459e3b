/- Cut by wip/cut.py out of the texts of this claim (printed by the kit's printer, or this session's own): what the row's theorem does not reach is struck. Not trusted: Lean checks it. -/
import Derived.Test.YtpopeedfgenebaaDoorZFnPostCrossesPx10
namespace Go.Proofs.YtpopeedfgenebaaDoor.PFnPostCrosses
open Go.RowKit Go.Proofs.YtpopeedfgenebaaDoorW.PrintWords Go.Proofs.YtpopeedfgenebaaDoorW.PrintLast Go.Proofs.YtpopeedfgenebaaDoorW.PrintMore
attribute [local go_sem] zb qz zf ze qw qv za qy
set_option linter.unusedVariables false
set_option linter.defProp false
set_option linter.unusedSimpArgs false
structure Bx (A : Prop) (T : Type) : Type where
  a : A
  r : T
def Bx.A1 {A1 : Prop} {T : Type} {R : Prop} (_ : Bx A1 T → R) : Prop := A1
def Bx.A2 {A1 A2 : Prop} {T : Type} {R : Prop} (_ : Bx A1 (Bx A2 T) → R) : Prop := A2
def Bx.A3 {A1 A2 A3 : Prop} {T : Type} {R : Prop} (_ : Bx A1 (Bx A2 (Bx A3 T)) → R) : Prop := A3
def Bx.A4 {A1 A2 A3 A4 : Prop} {T : Type} {R : Prop} (_ : Bx A1 (Bx A2 (Bx A3 (Bx A4 T))) → R) : Prop := A4
def Bx.A5 {A1 A2 A3 A4 A5 : Prop} {T : Type} {R : Prop} (_ : Bx A1 (Bx A2 (Bx A3 (Bx A4 (Bx A5 T)))) → R) : Prop := A5
def Bx.A6 {A1 A2 A3 A4 A5 A6 : Prop} {T : Type} {R : Prop} (_ : Bx A1 (Bx A2 (Bx A3 (Bx A4 (Bx A5 (Bx A6 T))))) → R) : Prop := A6
def Bx.A7 {A1 A2 A3 A4 A5 A6 A7 : Prop} {T : Type} {R : Prop} (_ : Bx A1 (Bx A2 (Bx A3 (Bx A4 (Bx A5 (Bx A6 (Bx A7 T)))))) → R) : Prop := A7
def Bx.A8 {A1 A2 A3 A4 A5 A6 A7 A8 : Prop} {T : Type} {R : Prop} (_ : Bx A1 (Bx A2 (Bx A3 (Bx A4 (Bx A5 (Bx A6 (Bx A7 (Bx A8 T))))))) → R) : Prop := A8
def Bx.A9 {A1 A2 A3 A4 A5 A6 A7 A8 A9 : Prop} {T : Type} {R : Prop} (_ : Bx A1 (Bx A2 (Bx A3 (Bx A4 (Bx A5 (Bx A6 (Bx A7 (Bx A8 (Bx A9 T)))))))) → R) : Prop := A9
def Bx.A10 {A1 A2 A3 A4 A5 A6 A7 A8 A9 A10 : Prop} {T : Type} {R : Prop} (_ : Bx A1 (Bx A2 (Bx A3 (Bx A4 (Bx A5 (Bx A6 (Bx A7 (Bx A8 (Bx A9 (Bx A10 T))))))))) → R) : Prop := A10
def Bx.A11 {A1 A2 A3 A4 A5 A6 A7 A8 A9 A10 A11 : Prop} {T : Type} {R : Prop} (_ : Bx A1 (Bx A2 (Bx A3 (Bx A4 (Bx A5 (Bx A6 (Bx A7 (Bx A8 (Bx A9 (Bx A10 (Bx A11 T)))))))))) → R) : Prop := A11
def Bx.A12 {A1 A2 A3 A4 A5 A6 A7 A8 A9 A10 A11 A12 : Prop} {T : Type} {R : Prop} (_ : Bx A1 (Bx A2 (Bx A3 (Bx A4 (Bx A5 (Bx A6 (Bx A7 (Bx A8 (Bx A9 (Bx A10 (Bx A11 (Bx A12 T))))))))))) → R) : Prop := A12
set_option maxHeartbeats 8000000 in
set_option maxRecDepth 100000 in
def laws_FnPostCrosses.p0 := fun (S_ : Bx _ (Bx _ (Bx _ (Unit)))) => (fun (k : Nat) (A0 : Option Addr) (c0 : Nat) (l0 : List Int) (A1 : Option Addr) (c1 : Nat) (l1 : List Int) (r : Bool) (w : World) (hr0 : Kd.C (Kd.int .u8) w A0 l0.length l0) (hc0 : l0.length ≤ c0) (hr1 : Kd.C (Kd.int .u8) w A1 l1.length l1) (hc1 : l1.length ≤ c1) (h : laws_FnPostCrosses.f k l0 l1 = some r) => by
 have HR0 := qa.mk hr0
 have HC0 := qa.mk hc0
 clear hr0 hc0
 have HR1 := qa.mk hr1
 have HC1 := qa.mk hc1
 clear hr1 hc1
 have HB := qa.mk (Below.refl w.heap.size w)
 have H := h; clear h; unfold laws_FnPostCrosses.f at H
 replace H := bX_ H; obtain ⟨t283, A3, H⟩ := H
 replace H := iB_ H; obtain ⟨rfl, H⟩ | ⟨rfl, H⟩ := H
 ·obtain rfl := Option.some.inj H
  go_enter Tryd.func5, Tryd.ntmps5
  revert k A0 c0 l0 A1 c1 l1 w HR0 HC0 HR1 HC1 HB A3 H
  exact S_.a
 ·replace H := bX_ H; obtain ⟨⟨t284, t285, t286⟩, A5, H⟩ := H; (try dsimp only at H)
  replace H := bX_ H; obtain ⟨⟨t287, t288⟩, A6, H⟩ := H; (try dsimp only at H)
  replace H := bX_ H; obtain ⟨⟨t289, t290⟩, A7, H⟩ := H; (try dsimp only at H)
  replace H := bX_ H; obtain ⟨⟨t291, t292⟩, A8, H⟩ := H; (try dsimp only at H)
  replace H := bX_ H; obtain ⟨⟨t293, t294⟩, A9, H⟩ := H; (try dsimp only at H)
  replace H := bX_ H; obtain ⟨⟨t295, t296⟩, A10, H⟩ := H; (try dsimp only at H)
  replace H := bX_ H; obtain ⟨⟨t299, t300⟩, A11, H⟩ := H; (try dsimp only at H)
  replace H := bX_ H; obtain ⟨⟨t303, t304⟩, A12, H⟩ := H; (try dsimp only at H)
  replace H := bX_ H; obtain ⟨⟨t305, t306⟩, A13, H⟩ := H; (try dsimp only at H)
  replace H := bX_ H; obtain ⟨⟨t307, t308⟩, A14, H⟩ := H; (try dsimp only at H)
  replace H := bX_ H; obtain ⟨⟨t309, t310⟩, A15, H⟩ := H; (try dsimp only at H)
  replace H := bX_ H; obtain ⟨⟨t311, t312⟩, A16, H⟩ := H; (try dsimp only at H)
  replace H := bX_ H; obtain ⟨⟨t313, t314⟩, A17, H⟩ := H; (try dsimp only at H)
  have HC18 := qa.mk H
  clear H
  go_enter Tryd.func5, Tryd.ntmps5
  go_upto_region 16 with (first | (refine gL_ 58 Tryd.func10 #[.slice A0 l0.length c0, .slice A1 l1.length c1] ?_; refine (laws_big.calls _ _ l0 _ _ l1 false _ (by repeat (first | exact HR0.out | (with_reducible refine Kd.zh ?_ _) | (with_reducible refine Kd.zg ?_ _) | (with_reducible refine Kd.zk ?_))) HC0.out (by repeat (first | exact HR1.out | (with_reducible refine Kd.zh ?_ _) | (with_reducible refine Kd.zg ?_ _) | (with_reducible refine Kd.zk ?_))) HC1.out A3.out).mono ?_; rintro e w' ⟨rfl, ⟨nd, rfl⟩⟩; refine ⟨_, rfl, ?_⟩) | (refine gL_ 61 Tryd.func11 #[.slice A0 l0.length c0] ?_; refine (spec_DrawRouteCost.calls k _ _ l0 t284 t285 t286 _ (by repeat (first | exact HR0.out | (with_reducible refine Kd.zh ?_ _) | (with_reducible refine Kd.zg ?_ _) | (with_reducible refine Kd.zk ?_))) HC0.out A5.out).mono ?_; rintro e w19 ⟨rfl, hb⟩; refine ⟨_, rfl, ?_⟩; replace HB := qa.mk a5_; (try clear hb)) | (refine gL_ 69 Tryd.func12 #[.string t284, .int .i64 t285, .int .i64 t286] ?_; refine (impl_RouteCost.calls k t284 t285 t286 t287 t288 _ A6.out).mono ?_; rintro e w20 ⟨rfl, hb⟩; refine ⟨_, rfl, ?_⟩; replace HB := qa.mk a5_; (try clear hb)) | (refine gL_ 76 Tryd.func13 #[.string t284, .int .i64 t285, .int .i64 t286] ?_; refine (spec_RouteCost.calls k t284 t285 t286 t289 t290 _ A7.out).mono ?_; rintro e w21 ⟨rfl, hb⟩; refine ⟨_, rfl, ?_⟩; replace HB := qa.mk a5_; (try clear hb)) | (refine gL_ 82 Tryd.func14 #[.string t284, .int .i64 t285] ?_; refine (impl_FewestCrossings.calls k t284 t285 t291 t292 _ A8.out).mono ?_; rintro e w22 ⟨rfl, hb⟩; refine ⟨_, rfl, ?_⟩; replace HB := qa.mk a5_; (try clear hb)) | (refine gL_ 88 Tryd.func15 #[.string t284, .int .i64 t285] ?_; refine (spec_FewestCrossings.calls k t284 t285 t293 t294 _ A9.out).mono ?_; rintro e w23 ⟨rfl, hb⟩; refine ⟨_, rfl, ?_⟩; replace HB := qa.mk a5_; (try clear hb)) | (refine gL_ 94 Tryd.func16 #[.string t284, .int .i64 t285] ?_; refine (impl_RouteSides.calls k t284 t285 t295 t296 _ A10.out).mono ?_; rintro e w24 ⟨v297, rfl, ho0, hb⟩; refine ⟨_, rfl, ?_⟩; have HO298 := qa.mk ap_; replace HB := qa.mk a5_; (try clear hb ho0)) | (refine gL_ 100 Tryd.func17 #[.string t284, .int .i64 t285] ?_; refine (spec_RouteSides.calls k t284 t285 t299 t300 _ A11.out).mono ?_; rintro e w25 ⟨v301, rfl, ho0, hb⟩; refine ⟨_, rfl, ?_⟩; have HO302 := qa.mk (Kd.R_lower (Kd.R_new' ho0 (Kd.R_lt (kr_ HO298))) a9_); replace HO298 := qa.mk (Kd.R_elder' (kr_ HO298) (Kd.R_base ho0) hb); replace HB := qa.mk a5_; (try clear hb ho0)) | (refine gL_ 106 Tryd.func18 #[.string t284, .int .i64 t285] ?_; refine (impl_CountRoutes.calls k t284 t285 t303 t304 _ A12.out).mono ?_; rintro e w26 ⟨rfl, hb⟩; refine ⟨_, rfl, ?_⟩; replace HO298 := qa.mk am_; replace HO302 := qa.mk ak_; replace HB := qa.mk a5_; (try clear hb)) | (refine gL_ 112 Tryd.func19 #[.string t284, .int .i64 t285] ?_; refine (spec_CountRoutes.calls k t284 t285 t305 t306 _ A13.out).mono ?_; rintro e w27 ⟨rfl, hb⟩; refine ⟨_, rfl, ?_⟩; replace HO298 := qa.mk am_; replace HO302 := qa.mk ak_; replace HB := qa.mk a5_; (try clear hb)) | (refine gL_ 119 Tryd.func9 #[.string t284, .int .i64 t285, .int .i64 t286] ?_; refine (impl_AroundIsBetter.calls k t284 t285 t286 t307 t308 _ A14.out).mono ?_; rintro e w28 ⟨rfl, hb⟩; refine ⟨_, rfl, ?_⟩; replace HO298 := qa.mk am_; replace HO302 := qa.mk ak_; replace HB := qa.mk a5_; (try clear hb)) | (refine gL_ 126 Tryd.func8 #[.string t284, .int .i64 t285, .int .i64 t286] ?_; refine (spec_AroundIsBetter.calls k t284 t285 t286 t309 t310 _ A15.out).mono ?_; rintro e w29 ⟨rfl, hb⟩; refine ⟨_, rfl, ?_⟩; replace HO298 := qa.mk am_; replace HO302 := qa.mk ak_; replace HB := qa.mk a5_; (try clear hb)) | (refine gL_ 132 Tryd.func7 #[.string t284, .int .i64 t286] ?_; refine (impl_AroundCost.calls k t284 t286 t311 t312 _ A16.out).mono ?_; rintro e w30 ⟨rfl, hb⟩; refine ⟨_, rfl, ?_⟩; replace HO298 := qa.mk am_; replace HO302 := qa.mk ak_; replace HB := qa.mk a5_; (try clear hb)) | (refine gL_ 138 Tryd.func6 #[.string t284, .int .i64 t286] ?_; refine (spec_AroundCost.calls k t284 t286 t313 t314 _ A17.out).mono ?_; rintro e w' ⟨rfl, ⟨nd, rfl⟩⟩; refine ⟨_, rfl, ?_⟩))
  (try simp only [Act.put, sA_, sB_, sC_])
  go_cut [245] (fun v245 wc => ∃ (kq : Nat) (x245_17 : Bool), v245 = .bool x245_17 ∧ qa (laws_FnPostCrosses.j0 kq l1 t284 t285 t286 t287 t288 t291 t292 t295 t303 t304 t307 t311 x245_17 = some r) ∧ qa (kq ≤ k) ∧ qa (Kd.R (Kd.int .i64) 3 wc w.heap.size (fun _ => True) v297 t295) ∧ qa (Below w.heap.size w wc))
  case first =>
   rename_i z2_0 z2_1 z2_2 z2_3 z2_4 z2_5 z2_6 z2_7 z2_8 z2_9 z2_10
   revert k A0 c0 l0 A1 c1 l1 r w HR0 HC0 HR1 HC1 A3 t284 t285 t286 A5 t287 t288 A6 t289 t290 A7 t291 t292 A8 t293 t294 A9 t295 t296 A10 t299 t300 A11 t303 t304 A12 t305 t306 A13 t307 t308 A14 t309 t310 A15 t311 t312 A16 t313 t314 A17 HC18 z2_0 z2_1 z2_2 w19 w20 w21 w22 w23 w24 v297 w25 v301 w26 w27 w28 w29 w30 HO298 HO302 HB nd z2_3 z2_4 z2_5 z2_6 z2_7 z2_8 z2_9 z2_10
   exact S_.r.a
  case rest =>
   rename_i z8_0 z8_1 z8_2 z8_3 z8_4 z8_5 z8_6
   revert k A0 c0 l0 A1 c1 l1 r w HR0 HC0 HR1 HC1 A3 t284 t285 t286 A5 t287 t288 A6 t289 t290 A7 t291 t292 A8 t293 t294 A9 t295 t296 A10 t299 t300 A11 t303 t304 A12 t305 t306 A13 t307 t308 A14 t309 t310 A15 t311 t312 A16 t313 t314 A17 HC18 z8_0 z8_1 z8_2 w19 w20 w21 w22 w23 w24 v297 w25 v301 w26 w27 w28 w29 w30 HO298 HO302 HB nd z8_3 z8_4 z8_5 z8_6 wc u56 u57 u58 u59 u60 u61 u62 u63 u64 u65 u66 u67 u68 u69 u70 u71 u72 u73 u74 u75 u76 u77 u78 u79 u80 u81 u82 u83 u84 u85 u86 u87 u88 u89 u90 u91 u92 u93 u94 u95 u96 u97 u98 u99 u100 u101 u102 u103 u104 u105 u106 u107 u108 u109 u110 u111 u112 u113 u114 u115 u116 u117 u118 u119 u120 u121 u122 u123 u124 u125 u126 u127 u128 u129 u130 u131 u132 u133 u134 u135 u136 u137 u138 u139 u140 u141 u142 u143 u144 u145 u146 u147 u148 u149 u150 u151 u152 u153 u154 u155 u156 u157 u158 u159 u160 u161 u162 u163 u164 u165 u166 u167 u168 u169 u170 u171 u172 u173 u174 u175 u176 u177 u178 u179 u180 u181 u182 u183 u184 u185 u186 u187 u188 u189 u190 u191 u192 u193 u194 u195 u196 u197 u198 u199 u200 u201 u202 u203 u204 u205 u206 u207 u208 u209 u210 u211 u212 u213 u214 u215 u216 u217 u218 u219 u220 u221 u222 u223 u224 u225 u226 u227 u228 u229 u230 u231 u232 u233 u234 u235 u236 u237 u238 u239 u240 u241 u242 u243 u244 u245 u246 u247 u248 u249 u250 u251 u252 u253 u254 u255 u256 u257 u258 u259 u260 u261 u262 u263 u264 u265 u266 u267 u268 u269 u270 u271 u272 u273 u274 u275 u276 u277 u278 u279 u280 u281 u282 u283 u284 u285 u286 u287 u288 u289 u290 u291 u292 u293 u294 u295 u296 u297 u298 u299 u300 u301 u302 u303 u304 u305 u306 u307 u308 u309 u310 u311 u312 u313 u314 u315 u316 u317 u318 u319 u320 u321 u322 u323 u324 u325 u326 u327 u328 u329 u330 u331 u332 u333 u334 u335 u338 u339 u340 u341 u342 u343 u344 u345 u346 u347 u348 u349 u350 u351 u352 u353 u354 u355 u356 u357 u358 u359 u360 u361 u362 u363 u364 u365 u366 u367 u368 u369 u370 u371 u372 u373 u374 u375 u376 u377 u378 u379 u380 u381 u382 u383 u384 u385 u386 u387 u388 u389 u390 u391 u392 u393 u394 u395 u396 u397 u398 u399 u400 u401 u402 u403 u404 u405 u406 u407 u408 u409 u410 u411 u412 u413 u414 u415 u416 u417 u418 u419 u420 u421 u422 u423 u424 u425 u426 u427 u428 u429 u430 u431 u432 u433 u434 u435 u436 u437 u438 u439 u440 u444 u445 u446 u447 u448 u449 u450 u451 u452 u453 u454 u455 u456 u457 u458 u459 u460 u461 u462 u463 u464 u465 u466 u467 u468 u469 u470 u471 u472 u473 u474 u475 u476 u477 u478 u479 u480 u481 u482 u483 u484 u485 u486 hcut
   exact S_.r.r.a
 : ∀ (k : Nat) (A0 : Option Addr) (c0 : Nat) (l0 : List Int) (A1 : Option Addr) (c1 : Nat) (l1 : List Int) (r : Bool) (w : World) (hr0 : Kd.C (Kd.int .u8) w A0 l0.length l0) (hc0 : l0.length ≤ c0) (hr1 : Kd.C (Kd.int .u8) w A1 l1.length l1) (hc1 : l1.length ≤ c1) (h : laws_FnPostCrosses.f k l0 l1 = some r), Calls Tryd.prog 5 #[.slice A0 l0.length c0, .slice A1 l1.length c1] w fun e w' => e = .returned (.bool r) ∧ Below w.heap.size w w')
end Go.Proofs.YtpopeedfgenebaaDoor.PFnPostCrosses
