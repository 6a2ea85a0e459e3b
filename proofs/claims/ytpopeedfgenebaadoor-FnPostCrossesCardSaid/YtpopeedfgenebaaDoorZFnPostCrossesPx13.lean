/- Cut by wip/cut.py out of the texts of this claim (printed by the kit's printer, or this session's own): what the row's theorem does not reach is struck. Not trusted: Lean checks it. -/
import Derived.Test.YtpopeedfgenebaaDoorZFnPostCrossesPx11
namespace Go.Proofs.YtpopeedfgenebaaDoor.PFnPostCrosses
open Go.RowKit Go.Proofs.YtpopeedfgenebaaDoorW.PrintWords Go.Proofs.YtpopeedfgenebaaDoorW.PrintLast Go.Proofs.YtpopeedfgenebaaDoorW.PrintMore
attribute [local go_sem] zb qz zf ze qw qv za qy
set_option linter.unusedVariables false
set_option linter.defProp false
set_option linter.unusedSimpArgs false
set_option maxHeartbeats 8000000 in
set_option maxRecDepth 100000 in
def laws_FnPostCrosses.p2 := fun (S_ : Bx _ (Bx _ (Bx _ (Bx _ (Bx _ (Unit)))))) => (by
 unfold Bx.A2
 set_option tactic.hygienic false in intros
 have H := HC18.out
 clear HC18
 replace H := iC_ H; obtain ⟨c31, H⟩ | ⟨c31, H⟩ := H
 ·exact absurd H a4_
 ·have c31b0 : (t288 != t290) = false := by simpa using c31
  (try (have c31b1 : decide (t288 = t290) = true := by simpa using c31))
  (try (have c31b2 : (t288 == t290) = true := by simpa using c31))
  clear c31
  (first | rw [c31b0] | (simp only [i64_w, i32_w]; rw [c31b0]) | skip)
  replace H := iE_ H; obtain ⟨c32b0, c32b1, H⟩ | ⟨c32, c32b0, c32b1, H⟩ := H
  ·replace H := iC_ H; obtain ⟨c33, H⟩ | ⟨c33, H⟩ := H
   ·exact absurd H a4_
   ·have c33b0 : (t292 != t294) = false := by simpa using c33
    (try (have c33b1 : decide (t292 = t294) = true := by simpa using c33))
    (try (have c33b2 : (t292 == t294) = true := by simpa using c33))
    clear c33
    replace H := iE_ H; obtain ⟨c34b0, c34b1, H⟩ | ⟨c34, c34b0, c34b1, H⟩ := H
    ·replace H := iC_ H; obtain ⟨c35, H⟩ | ⟨c35, H⟩ := H
     ·exact absurd H a4_
     ·have c35b0 : (t296 != t300) = false := by simpa using c35
      (try (have c35b1 : decide (t296 = t300) = true := by simpa using c35))
      (try (have c35b2 : (t296 == t300) = true := by simpa using c35))
      clear c35
      replace H := bX_ H; obtain ⟨t315, A36, H⟩ := H
      by_cases c37 : t315 = true
      ·subst c37
       rw [if_pos rfl] at H
       replace H := iC_ H; obtain ⟨c38, H⟩ | ⟨c38, H⟩ := H
       ·exact absurd H a4_
       ·have c38b0 : (t304 != t306) = false := by simpa using c38
        (try (have c38b1 : decide (t304 = t306) = true := by simpa using c38))
        (try (have c38b2 : (t304 == t306) = true := by simpa using c38))
        clear c38
        replace H := iE_ H; obtain ⟨c41b0, c41b1, H⟩ | ⟨c41, c41b0, c41b1, H⟩ := H
        ·replace H := iC_ H; obtain ⟨c42, H⟩ | ⟨c42, H⟩ := H
         ·exact absurd H a4_
         ·have c42b0 : (t308 != t310) = false := by simpa using c42
          (try (have c42b1 : decide (t308 = t310) = true := by simpa using c42))
          (try (have c42b2 : (t308 == t310) = true := by simpa using c42))
          clear c42
          replace H := iE_ H; obtain ⟨c45b0, c45b1, H⟩ | ⟨c45, c45b0, c45b1, H⟩ := H
          ·replace H := iC_ H; obtain ⟨c46, H⟩ | ⟨c46, H⟩ := H
           ·exact absurd H a4_
           ·have c46b0 : (t312 != t314) = false := by simpa using c46
            (try (have c46b1 : decide (t312 = t314) = true := by simpa using c46))
            (try (have c46b2 : (t312 == t314) = true := by simpa using c46))
            clear c46
            replace H := iE_ H; obtain ⟨c49b0, c49b1, H⟩ | ⟨c49, c49b0, c49b1, H⟩ := H
            ·replace H := iC_ H; obtain ⟨c50, H⟩ | ⟨c50, H⟩ := H
             ·exact absurd H a4_
             ·have c50b0 : (t296 != t292) = false := by simpa using c50
              (try (have c50b1 : decide (t296 = t292) = true := by simpa using c50))
              (try (have c50b2 : (t296 == t292) = true := by simpa using c50))
              clear c50
              replace H := iB_ H; obtain ⟨rfl, H⟩ | ⟨rfl, H⟩ := H
              ·by_cases c54 : t292 = true
               ·subst c54
                rw [if_pos rfl] at H
                replace H := iC_ H; obtain ⟨c55, H⟩ | ⟨c55, H⟩ := H
                ·exact absurd H a4_
                ·have c55b0 : (t308 != true) = false := by simpa using c55
                 (try (have c55b1 : decide (t308 = true) = true := by simpa using c55))
                 (try (have c55b2 : (t308 == true) = true := by simpa using c55))
                 clear c55
                 by_cases c58 : t312 = true
                 ·subst c58
                  rw [if_pos rfl] at H
                  replace H := iB_ H; obtain ⟨rfl, H⟩ | ⟨rfl, H⟩ := H
                  ·replace H := bX_ H; obtain ⟨t316, A60, H⟩ := H
                   replace H := bX_ H; obtain ⟨t317, A61, H⟩ := H
                   replace H := iC_ H; obtain ⟨c62, H⟩ | ⟨c62, H⟩ := H
                   ·exact absurd H a4_
                   ·have c62b0 : (t316 != t317) = false := by simpa using c62
                    (try (have c62b1 : decide (t316 = t317) = true := by simpa using c62))
                    (try (have c62b2 : (t316 == t317) = true := by simpa using c62))
                    clear c62
                    replace H := bX_ H; obtain ⟨t318, A65, H⟩ := H
                    have H' := qa.mk H
                    clear H
                    obtain ⟨Ao66, co66, eo66⟩ := Kd.zi HO298.out
                    subst eo66
                    obtain ⟨Ao67, co67, eo67⟩ := Kd.zi HO302.out
                    subst eo67
                    revert k A0 c0 l0 A1 c1 l1 r w HR0 HC0 HR1 HC1 A3 t284 t285 t286 A5 t287 t289 t290 A7 t291 t293 t294 A9 t295 t296 A10 t299 t300 A11 t303 t305 t306 A13 t307 t308 A14 t309 t310 A15 t311 t313 t314 A17 z2_0 z2_1 z2_2 w19 w20 w21 w22 w23 w24 w25 w26 w27 w28 w29 w30 HB nd z2_3 z2_4 z2_5 z2_6 z2_7 z2_8 z2_10 c32b0 c32b1 c34b0 c34b1 c35b0 c35b1 c35b2 A36 c41b0 c41b1 c42b0 c42b1 c42b2 c45b0 c45b1 c49b0 c49b1 A6 c31b0 c31b1 c31b2 A8 c33b0 c33b1 c33b2 c50b0 c50b1 c50b2 c55b0 c55b1 c55b2 A16 c46b0 c46b1 c46b2 A12 c38b0 c38b1 c38b2 t316 A60 t317 A61 c62b0 c62b1 c62b2 t318 A65 H' Ao66 co66 Ao67 co67 HO298 HO302 z2_9
                    exact S_.a
                  ·replace H := bX_ H; obtain ⟨t319, A68, H⟩ := H
                   replace H := bX_ H; obtain ⟨t320, A69, H⟩ := H
                   replace H := iC_ H; obtain ⟨c70, H⟩ | ⟨c70, H⟩ := H
                   ·exact absurd H a4_
                   ·have c70b0 : (t319 != t320) = false := by simpa using c70
                    (try (have c70b1 : decide (t319 = t320) = true := by simpa using c70))
                    (try (have c70b2 : (t319 == t320) = true := by simpa using c70))
                    clear c70
                    replace H := bX_ H; obtain ⟨t321, A73, H⟩ := H
                    have H' := qa.mk H
                    clear H
                    obtain ⟨Ao74, co74, eo74⟩ := Kd.zi HO298.out
                    subst eo74
                    obtain ⟨Ao75, co75, eo75⟩ := Kd.zi HO302.out
                    subst eo75
                    revert k A0 c0 l0 A1 c1 l1 r w HR0 HC0 HR1 HC1 A3 t284 t285 t286 A5 t287 t289 t290 A7 t291 t293 t294 A9 t295 t296 A10 t299 t300 A11 t303 t305 t306 A13 t307 t308 A14 t309 t310 A15 t311 t313 t314 A17 z2_0 z2_1 z2_2 w19 w20 w21 w22 w23 w24 w25 w26 w27 w28 w29 w30 HB nd z2_3 z2_4 z2_5 z2_6 z2_7 z2_8 z2_10 c32b0 c32b1 c34b0 c34b1 c35b0 c35b1 c35b2 A36 c41b0 c41b1 c42b0 c42b1 c42b2 c45b0 c45b1 c49b0 c49b1 A6 c31b0 c31b1 c31b2 A8 c33b0 c33b1 c33b2 c50b0 c50b1 c50b2 c55b0 c55b1 c55b2 A16 c46b0 c46b1 c46b2 A12 c38b0 c38b1 c38b2 t319 A68 t320 A69 c70b0 c70b1 c70b2 t321 A73 H' Ao74 co74 Ao75 co75 HO298 HO302 z2_9
                    exact S_.r.a
                 ·rw [if_neg c58] at H
                  exact absurd H a4_
               ·rw [if_neg c54] at H
                exact absurd H a4_
              ·replace H := iC_ H; obtain ⟨c80, H⟩ | ⟨c80, H⟩ := H
               ·exact absurd H a4_
               ·have c80b0 : (t308 != false) = false := by simpa using c80
                (try (have c80b1 : decide (t308 = false) = true := by simpa using c80))
                (try (have c80b2 : (t308 == false) = true := by simpa using c80))
                clear c80
                replace H := iB_ H; obtain ⟨rfl, H⟩ | ⟨rfl, H⟩ := H
                ·by_cases c84 : t292 = true
                 ·subst c84
                  rw [if_pos rfl] at H
                  replace H := bX_ H; obtain ⟨t322, A85, H⟩ := H
                  replace H := bX_ H; obtain ⟨t323, A86, H⟩ := H
                  replace H := iC_ H; obtain ⟨c87, H⟩ | ⟨c87, H⟩ := H
                  ·exact absurd H a4_
                  ·have c87b0 : (t322 != t323) = false := by simpa using c87
                   (try (have c87b1 : decide (t322 = t323) = true := by simpa using c87))
                   (try (have c87b2 : (t322 == t323) = true := by simpa using c87))
                   clear c87
                   replace H := bX_ H; obtain ⟨t324, A90, H⟩ := H
                   have H' := qa.mk H
                   clear H
                   obtain ⟨Ao91, co91, eo91⟩ := Kd.zi HO298.out
                   subst eo91
                   obtain ⟨Ao92, co92, eo92⟩ := Kd.zi HO302.out
                   subst eo92
                   revert k A0 c0 l0 A1 c1 l1 r w HR0 HC0 HR1 HC1 A3 t284 t285 t286 A5 t287 t289 t290 A7 t291 t293 t294 A9 t295 t296 A10 t299 t300 A11 t303 t305 t306 A13 t307 t308 A14 t309 t310 A15 t311 t312 A16 t313 t314 A17 z2_0 z2_1 z2_2 w19 w20 w21 w22 w23 w24 w25 w26 w27 w28 w29 w30 HB nd z2_3 z2_4 z2_5 z2_6 z2_7 z2_8 z2_10 c32b0 c32b1 c34b0 c34b1 c35b0 c35b1 c35b2 A36 c41b0 c41b1 c42b0 c42b1 c42b2 c45b0 c45b1 c46b0 c46b1 c46b2 c49b0 c49b1 A6 c31b0 c31b1 c31b2 c80b0 c80b1 c80b2 A12 c38b0 c38b1 c38b2 A8 c33b0 c33b1 c33b2 c50b0 c50b1 c50b2 t322 A85 t323 A86 c87b0 c87b1 c87b2 t324 A90 H' Ao91 co91 Ao92 co92 HO298 HO302 z2_9
                   exact S_.r.r.a
                 ·rw [if_neg c84] at H
                  exact absurd H a4_
                ·replace H := bX_ H; obtain ⟨t325, A95, H⟩ := H
                 replace H := bX_ H; obtain ⟨t326, A96, H⟩ := H
                 replace H := iC_ H; obtain ⟨c97, H⟩ | ⟨c97, H⟩ := H
                 ·exact absurd H a4_
                 ·have c97b0 : (t325 != t326) = false := by simpa using c97
                  (try (have c97b1 : decide (t325 = t326) = true := by simpa using c97))
                  (try (have c97b2 : (t325 == t326) = true := by simpa using c97))
                  clear c97
                  replace H := iB_ H; obtain ⟨rfl, H⟩ | ⟨rfl, H⟩ := H
                  ·replace H := bX_ H; obtain ⟨t327, A101, H⟩ := H
                   have H' := qa.mk H
                   clear H
                   obtain ⟨Ao102, co102, eo102⟩ := Kd.zi HO298.out
                   subst eo102
                   obtain ⟨Ao103, co103, eo103⟩ := Kd.zi HO302.out
                   subst eo103
                   revert k A0 c0 l0 A1 c1 l1 r w HR0 HC0 HR1 HC1 A3 t284 t285 t286 A5 t287 t289 t290 A7 t291 t293 t294 A9 t295 t296 A10 t299 t300 A11 t303 t305 t306 A13 t307 t308 A14 t309 t310 A15 t311 t312 A16 t313 t314 A17 z2_0 z2_1 z2_2 w19 w20 w21 w22 w23 w24 w25 w26 w27 w28 w29 w30 HB nd z2_3 z2_4 z2_5 z2_6 z2_7 z2_8 z2_10 c32b0 c32b1 c34b0 c34b1 c35b0 c35b1 c35b2 A36 c41b0 c41b1 c42b0 c42b1 c42b2 c45b0 c45b1 c46b0 c46b1 c46b2 c49b0 c49b1 A6 c31b0 c31b1 c31b2 c80b0 c80b1 c80b2 A12 c38b0 c38b1 c38b2 t325 A95 t326 A96 c97b0 c97b1 c97b2 A8 c33b0 c33b1 c33b2 c50b0 c50b1 c50b2 t327 A101 H' Ao102 co102 Ao103 co103 HO298 HO302 z2_9
                   exact S_.r.r.r.a
                  ·have H' := qa.mk H
                   clear H
                   obtain ⟨Ao104, co104, eo104⟩ := Kd.zi HO298.out
                   subst eo104
                   obtain ⟨Ao105, co105, eo105⟩ := Kd.zi HO302.out
                   subst eo105
                   revert k A0 c0 l0 A1 c1 l1 r w HR0 HC0 HR1 HC1 A3 t284 t285 t286 A5 t287 t289 t290 A7 t291 t293 t294 A9 t295 t296 A10 t299 t300 A11 t303 t305 t306 A13 t307 t308 A14 t309 t310 A15 t311 t312 A16 t313 t314 A17 z2_0 z2_1 z2_2 w19 w20 w21 w22 w23 w24 w25 w26 w27 w28 w29 w30 HB nd z2_3 z2_4 z2_5 z2_6 z2_7 z2_8 z2_10 c32b0 c32b1 c34b0 c34b1 c35b0 c35b1 c35b2 A36 c41b0 c41b1 c42b0 c42b1 c42b2 c45b0 c45b1 c46b0 c46b1 c46b2 c49b0 c49b1 A6 c31b0 c31b1 c31b2 c80b0 c80b1 c80b2 A12 c38b0 c38b1 c38b2 t325 A95 t326 A96 c97b0 c97b1 c97b2 A8 c33b0 c33b1 c33b2 c50b0 c50b1 c50b2 H' Ao104 co104 Ao105 co105 HO298 HO302 z2_9
                   exact S_.r.r.r.r.a
            ·exact absurd H a4_
          ·exact absurd H a4_
        ·exact absurd H a4_
      ·rw [if_neg c37] at H
       exact absurd H a4_
    ·exact absurd H a4_
  ·exact absurd H a4_
 : Bx.A2 laws_FnPostCrosses.p0)
end Go.Proofs.YtpopeedfgenebaaDoor.PFnPostCrosses
