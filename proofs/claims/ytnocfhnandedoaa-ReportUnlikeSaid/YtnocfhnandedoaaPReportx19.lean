/- Contracts: what calls of these functions of the program do, each as a plain function; written by a program of this session. -/
import Derived.Test.YtnocfhnandedoaaPReportx0
import Derived.Test.YtnocfhnandedoaaPReportx1
import Derived.Test.YtnocfhnandedoaaPReportx3
import Derived.Test.YtnocfhnandedoaaPReportx7
import Derived.Test.YtnocfhnandedoaaPReportx14
import Derived.Test.YtnocfhnandedoaaPReportx17
import Derived.Test.YtnocfhnandedoaaPReportx18
namespace Go.Proofs.Ytnocfhnandedoaa.PReport
open Go.RowKit Go.Proofs.YtnocfhnandedoaaW.PrintWords Go.Proofs.YtnocfhnandedoaaW.PrintLast Go.Proofs.YtnocfhnandedoaaW.PrintMore
attribute [local go_sem] max2_int min2_int max_two min_two max_three min_three max_four min_four   -- for this text's walks alone
set_option linter.unusedVariables false
set_option linter.unusedSimpArgs false

attribute [local go_sem high] eqA23
/-! ### wharfagelaw7_awake: function 24 -/
def wharfagelaw7_awake.f (k : Nat)  : Option (Bool) := (report_Put.f k 2 258 3 8).bind fun bt150 => ((report_Get.f k bt150.1).bind fun bt152 => ((report_Put.f k 3 0 0 0).bind fun bt158 => ((report_Newer.f 0 65535).bind fun bt160 => ((report_Newer.f 5 5).bind fun bt162 => ((report_Newer.f (-1) 0).bind fun bt164 => (if (bt150.1.size : Int) = 6 then (if 0 ≤ 5 then (if 5 ≤ (bt150.1.size : Int) then (if (bt150.1.extract 0 5).toList = ([2, 1, 2, 3, 8] : List UInt8) then ((wharfagelaw0_Num.f bt150.2).bind fun t166 => (if t166 = 0 then (if (bt152.1 == 2 && (bt152.2.1 == 258 && (bt152.2.2.1 == 3 && (bt152.2.2.2.1 == 8)))) = true then ((wharfagelaw0_Num.f bt152.2.2.2.2).bind fun t167 => (if t167 = 0 then ((wharfagelaw0_Num.f bt158.2).bind fun t168 => (if t168 = 700 then (if bt160.1 = true then ((wharfagelaw0_Num.f bt160.2).bind fun t169 => (if t169 = 0 then (if bt162.1 = true then (none) else ((wharfagelaw0_Num.f bt162.2).bind fun t170 => (if t170 = 0 then ((wharfagelaw0_Num.f bt164.2).bind fun t171 => (if t171 = 700 then ((report_May.f 2 258 3 8).bind fun t172 => (some t172)) else (none))) else (none)))) else (none))) else (none)) else (none))) else (none))) else (none)) else (none))) else (none)) else (none)) else (none)) else (none)))))))
theorem wharfagelaw7_awake.mono : ∀ k, LeO (wharfagelaw7_awake.f k ) (wharfagelaw7_awake.f (k + 1) ) := by
  intro  k
  unfold wharfagelaw7_awake.f
  repeat' first
      | (with_reducible exact report_Get.mono _ _)
      | (with_reducible exact report_Put.mono _ _ _ _ _)
      | (with_reducible exact LeO.refl _)
      | (with_reducible exact LeO.none _)
      | (with_reducible refine LeO.ite ?_ ?_)
      | (with_reducible refine LeO.bind ?_ (fun _ => ?_))
      | exact report_Get.mono _ _
      | exact report_Put.mono _ _ _ _ _
      | exact LeO.none _
      | refine LeO.ite ?_ ?_
      | refine LeO.bind ?_ (fun _ => ?_)
set_option maxHeartbeats 8000000 in
set_option maxRecDepth 100000 in
theorem wharfagelaw7_awake.calls (k : Nat)  (r : Bool) (w : World) (h : wharfagelaw7_awake.f k  = some r) :
    Calls Try.prog 24 #[] w fun e w' => e = .returned (.bool r) ∧ Below w.heap.size w w' := by
  have hu23 := Try.underlying23
  have HB := Aside0.mk (Below.refl w.heap.size w)
  have H : ((report_Put.f k 2 258 3 8).bind fun bt150 => ((report_Get.f k bt150.1).bind fun bt152 => ((report_Put.f k 3 0 0 0).bind fun bt158 => ((report_Newer.f 0 65535).bind fun bt160 => ((report_Newer.f 5 5).bind fun bt162 => ((report_Newer.f (-1) 0).bind fun bt164 => (if (bt150.1.size : Int) = 6 then (if 0 ≤ 5 then (if 5 ≤ (bt150.1.size : Int) then (if (bt150.1.extract 0 5).toList = ([2, 1, 2, 3, 8] : List UInt8) then ((wharfagelaw0_Num.f bt150.2).bind fun t166 => (if t166 = 0 then (if (bt152.1 == 2 && (bt152.2.1 == 258 && (bt152.2.2.1 == 3 && (bt152.2.2.2.1 == 8)))) = true then ((wharfagelaw0_Num.f bt152.2.2.2.2).bind fun t167 => (if t167 = 0 then ((wharfagelaw0_Num.f bt158.2).bind fun t168 => (if t168 = 700 then (if bt160.1 = true then ((wharfagelaw0_Num.f bt160.2).bind fun t169 => (if t169 = 0 then (if bt162.1 = true then (none) else ((wharfagelaw0_Num.f bt162.2).bind fun t170 => (if t170 = 0 then ((wharfagelaw0_Num.f bt164.2).bind fun t171 => (if t171 = 700 then ((report_May.f 2 258 3 8).bind fun t172 => (some t172)) else (none))) else (none)))) else (none))) else (none)) else (none))) else (none))) else (none)) else (none))) else (none)) else (none)) else (none)) else (none)))))))) = some r := h
  clear h
  replace H := Option.bind_eq_some_iff.mp H
  obtain ⟨⟨t150, t151⟩, A10, H⟩ := H
  replace H : ((report_Get.f k t150).bind fun bt152 => ((report_Put.f k 3 0 0 0).bind fun bt158 => ((report_Newer.f 0 65535).bind fun bt160 => ((report_Newer.f 5 5).bind fun bt162 => ((report_Newer.f (-1) 0).bind fun bt164 => (if (t150.size : Int) = 6 then (if 0 ≤ 5 then (if 5 ≤ (t150.size : Int) then (if (t150.extract 0 5).toList = ([2, 1, 2, 3, 8] : List UInt8) then ((wharfagelaw0_Num.f t151).bind fun t166 => (if t166 = 0 then (if (bt152.1 == 2 && (bt152.2.1 == 258 && (bt152.2.2.1 == 3 && (bt152.2.2.2.1 == 8)))) = true then ((wharfagelaw0_Num.f bt152.2.2.2.2).bind fun t167 => (if t167 = 0 then ((wharfagelaw0_Num.f bt158.2).bind fun t168 => (if t168 = 700 then (if bt160.1 = true then ((wharfagelaw0_Num.f bt160.2).bind fun t169 => (if t169 = 0 then (if bt162.1 = true then (none) else ((wharfagelaw0_Num.f bt162.2).bind fun t170 => (if t170 = 0 then ((wharfagelaw0_Num.f bt164.2).bind fun t171 => (if t171 = 700 then ((report_May.f 2 258 3 8).bind fun t172 => (some t172)) else (none))) else (none)))) else (none))) else (none)) else (none))) else (none))) else (none)) else (none))) else (none)) else (none)) else (none)) else (none))))))) = some r := H
  have A1 := Aside0.mk A10
  clear A10
  replace H := Option.bind_eq_some_iff.mp H
  obtain ⟨⟨t152, t153, t154, t155, t156⟩, A20, H⟩ := H
  replace H : ((report_Put.f k 3 0 0 0).bind fun bt158 => ((report_Newer.f 0 65535).bind fun bt160 => ((report_Newer.f 5 5).bind fun bt162 => ((report_Newer.f (-1) 0).bind fun bt164 => (if (t150.size : Int) = 6 then (if 0 ≤ 5 then (if 5 ≤ (t150.size : Int) then (if (t150.extract 0 5).toList = ([2, 1, 2, 3, 8] : List UInt8) then ((wharfagelaw0_Num.f t151).bind fun t166 => (if t166 = 0 then (if (t152 == 2 && (t153 == 258 && (t154 == 3 && (t155 == 8)))) = true then ((wharfagelaw0_Num.f t156).bind fun t167 => (if t167 = 0 then ((wharfagelaw0_Num.f bt158.2).bind fun t168 => (if t168 = 700 then (if bt160.1 = true then ((wharfagelaw0_Num.f bt160.2).bind fun t169 => (if t169 = 0 then (if bt162.1 = true then (none) else ((wharfagelaw0_Num.f bt162.2).bind fun t170 => (if t170 = 0 then ((wharfagelaw0_Num.f bt164.2).bind fun t171 => (if t171 = 700 then ((report_May.f 2 258 3 8).bind fun t172 => (some t172)) else (none))) else (none)))) else (none))) else (none)) else (none))) else (none))) else (none)) else (none))) else (none)) else (none)) else (none)) else (none)))))) = some r := H
  have A2 := Aside0.mk A20
  clear A20
  replace H := Option.bind_eq_some_iff.mp H
  obtain ⟨⟨t158, t159⟩, A30, H⟩ := H
  replace H : ((report_Newer.f 0 65535).bind fun bt160 => ((report_Newer.f 5 5).bind fun bt162 => ((report_Newer.f (-1) 0).bind fun bt164 => (if (t150.size : Int) = 6 then (if 0 ≤ 5 then (if 5 ≤ (t150.size : Int) then (if (t150.extract 0 5).toList = ([2, 1, 2, 3, 8] : List UInt8) then ((wharfagelaw0_Num.f t151).bind fun t166 => (if t166 = 0 then (if (t152 == 2 && (t153 == 258 && (t154 == 3 && (t155 == 8)))) = true then ((wharfagelaw0_Num.f t156).bind fun t167 => (if t167 = 0 then ((wharfagelaw0_Num.f t159).bind fun t168 => (if t168 = 700 then (if bt160.1 = true then ((wharfagelaw0_Num.f bt160.2).bind fun t169 => (if t169 = 0 then (if bt162.1 = true then (none) else ((wharfagelaw0_Num.f bt162.2).bind fun t170 => (if t170 = 0 then ((wharfagelaw0_Num.f bt164.2).bind fun t171 => (if t171 = 700 then ((report_May.f 2 258 3 8).bind fun t172 => (some t172)) else (none))) else (none)))) else (none))) else (none)) else (none))) else (none))) else (none)) else (none))) else (none)) else (none)) else (none)) else (none))))) = some r := H
  have A3 := Aside0.mk A30
  clear A30
  replace H := Option.bind_eq_some_iff.mp H
  obtain ⟨⟨t160, t161⟩, A40, H⟩ := H
  replace H : ((report_Newer.f 5 5).bind fun bt162 => ((report_Newer.f (-1) 0).bind fun bt164 => (if (t150.size : Int) = 6 then (if 0 ≤ 5 then (if 5 ≤ (t150.size : Int) then (if (t150.extract 0 5).toList = ([2, 1, 2, 3, 8] : List UInt8) then ((wharfagelaw0_Num.f t151).bind fun t166 => (if t166 = 0 then (if (t152 == 2 && (t153 == 258 && (t154 == 3 && (t155 == 8)))) = true then ((wharfagelaw0_Num.f t156).bind fun t167 => (if t167 = 0 then ((wharfagelaw0_Num.f t159).bind fun t168 => (if t168 = 700 then (if t160 = true then ((wharfagelaw0_Num.f t161).bind fun t169 => (if t169 = 0 then (if bt162.1 = true then (none) else ((wharfagelaw0_Num.f bt162.2).bind fun t170 => (if t170 = 0 then ((wharfagelaw0_Num.f bt164.2).bind fun t171 => (if t171 = 700 then ((report_May.f 2 258 3 8).bind fun t172 => (some t172)) else (none))) else (none)))) else (none))) else (none)) else (none))) else (none))) else (none)) else (none))) else (none)) else (none)) else (none)) else (none)))) = some r := H
  have A4 := Aside0.mk A40
  clear A40
  replace H := Option.bind_eq_some_iff.mp H
  obtain ⟨⟨t162, t163⟩, A50, H⟩ := H
  replace H : ((report_Newer.f (-1) 0).bind fun bt164 => (if (t150.size : Int) = 6 then (if 0 ≤ 5 then (if 5 ≤ (t150.size : Int) then (if (t150.extract 0 5).toList = ([2, 1, 2, 3, 8] : List UInt8) then ((wharfagelaw0_Num.f t151).bind fun t166 => (if t166 = 0 then (if (t152 == 2 && (t153 == 258 && (t154 == 3 && (t155 == 8)))) = true then ((wharfagelaw0_Num.f t156).bind fun t167 => (if t167 = 0 then ((wharfagelaw0_Num.f t159).bind fun t168 => (if t168 = 700 then (if t160 = true then ((wharfagelaw0_Num.f t161).bind fun t169 => (if t169 = 0 then (if t162 = true then (none) else ((wharfagelaw0_Num.f t163).bind fun t170 => (if t170 = 0 then ((wharfagelaw0_Num.f bt164.2).bind fun t171 => (if t171 = 700 then ((report_May.f 2 258 3 8).bind fun t172 => (some t172)) else (none))) else (none)))) else (none))) else (none)) else (none))) else (none))) else (none)) else (none))) else (none)) else (none)) else (none)) else (none))) = some r := H
  have A5 := Aside0.mk A50
  clear A50
  replace H := Option.bind_eq_some_iff.mp H
  obtain ⟨⟨t164, t165⟩, A60, H⟩ := H
  replace H : (if (t150.size : Int) = 6 then (if 0 ≤ 5 then (if 5 ≤ (t150.size : Int) then (if (t150.extract 0 5).toList = ([2, 1, 2, 3, 8] : List UInt8) then ((wharfagelaw0_Num.f t151).bind fun t166 => (if t166 = 0 then (if (t152 == 2 && (t153 == 258 && (t154 == 3 && (t155 == 8)))) = true then ((wharfagelaw0_Num.f t156).bind fun t167 => (if t167 = 0 then ((wharfagelaw0_Num.f t159).bind fun t168 => (if t168 = 700 then (if t160 = true then ((wharfagelaw0_Num.f t161).bind fun t169 => (if t169 = 0 then (if t162 = true then (none) else ((wharfagelaw0_Num.f t163).bind fun t170 => (if t170 = 0 then ((wharfagelaw0_Num.f t165).bind fun t171 => (if t171 = 700 then ((report_May.f 2 258 3 8).bind fun t172 => (some t172)) else (none))) else (none)))) else (none))) else (none)) else (none))) else (none))) else (none)) else (none))) else (none)) else (none)) else (none)) else (none)) = some r := H
  have A6 := Aside0.mk A60
  clear A60
  by_cases c7 : (t150.size : Int) = 6
  · rw [if_pos c7] at H
    have c7b0 : ((t150.size : Int) == 6) = true := beq_iff_eq.mpr c7
    have c7b1 : ((t150.size : Int) != 6) = false := bne_eq_false_iff_eq.mpr c7
    clear c7
    by_cases c8 : 0 ≤ 5
    · rw [if_pos c8] at H
      have c8b0 := eq_true c8
      have c8b1 : decide (0 ≤ 5) = true := decide_eq_true c8
      clear c8
      by_cases c9 : 5 ≤ (t150.size : Int)
      · rw [if_pos c9] at H
        have c9b0 := eq_true c9
        have c9b1 : decide (5 ≤ (t150.size : Int)) = true := decide_eq_true c9
        clear c9
        by_cases c10 : (t150.extract 0 5).toList = ([2, 1, 2, 3, 8] : List UInt8)
        · rw [if_pos c10] at H
          have c10b0 : ((t150.extract 0 5).toList == ([2, 1, 2, 3, 8] : List UInt8)) = true := beq_iff_eq.mpr c10
          have c10b1 : ((t150.extract 0 5).toList != ([2, 1, 2, 3, 8] : List UInt8)) = false := bne_eq_false_iff_eq.mpr c10
          clear c10
          replace H := Option.bind_eq_some_iff.mp H
          obtain ⟨t166, A110, H⟩ := H
          replace H : (if t166 = 0 then (if (t152 == 2 && (t153 == 258 && (t154 == 3 && (t155 == 8)))) = true then ((wharfagelaw0_Num.f t156).bind fun t167 => (if t167 = 0 then ((wharfagelaw0_Num.f t159).bind fun t168 => (if t168 = 700 then (if t160 = true then ((wharfagelaw0_Num.f t161).bind fun t169 => (if t169 = 0 then (if t162 = true then (none) else ((wharfagelaw0_Num.f t163).bind fun t170 => (if t170 = 0 then ((wharfagelaw0_Num.f t165).bind fun t171 => (if t171 = 700 then ((report_May.f 2 258 3 8).bind fun t172 => (some t172)) else (none))) else (none)))) else (none))) else (none)) else (none))) else (none))) else (none)) else (none)) = some r := H
          have A11 := Aside0.mk A110
          clear A110
          by_cases c12 : t166 = 0
          · rw [if_pos c12] at H
            have c12b0 : (t166 == 0) = true := beq_iff_eq.mpr c12
            have c12b1 : (t166 != 0) = false := bne_eq_false_iff_eq.mpr c12
            clear c12
            by_cases c13 : (t152 == 2 && (t153 == 258 && (t154 == 3 && (t155 == 8)))) = true
            · rw [if_pos c13] at H
              have c13b0 : (t152 == 2 && (t153 == 258 && (t154 == 3 && (t155 == 8)))) = true := c13
              (try (have c13b1 : decide (t152 = 2 && (t153 == 258 && (t154 == 3 && (t155 == 8)))) = true := by simpa using c13))
              (try (have c13b2 : (t152 == 2 && (t153 == 258 && (t154 == 3 && (t155 == 8)))) = true := by simpa using c13))
              clear c13
              replace H := Option.bind_eq_some_iff.mp H
              obtain ⟨t167, A140, H⟩ := H
              replace H : (if t167 = 0 then ((wharfagelaw0_Num.f t159).bind fun t168 => (if t168 = 700 then (if t160 = true then ((wharfagelaw0_Num.f t161).bind fun t169 => (if t169 = 0 then (if t162 = true then (none) else ((wharfagelaw0_Num.f t163).bind fun t170 => (if t170 = 0 then ((wharfagelaw0_Num.f t165).bind fun t171 => (if t171 = 700 then ((report_May.f 2 258 3 8).bind fun t172 => (some t172)) else (none))) else (none)))) else (none))) else (none)) else (none))) else (none)) = some r := H
              have A14 := Aside0.mk A140
              clear A140
              by_cases c15 : t167 = 0
              · rw [if_pos c15] at H
                have c15b0 : (t167 == 0) = true := beq_iff_eq.mpr c15
                have c15b1 : (t167 != 0) = false := bne_eq_false_iff_eq.mpr c15
                clear c15
                replace H := Option.bind_eq_some_iff.mp H
                obtain ⟨t168, A160, H⟩ := H
                replace H : (if t168 = 700 then (if t160 = true then ((wharfagelaw0_Num.f t161).bind fun t169 => (if t169 = 0 then (if t162 = true then (none) else ((wharfagelaw0_Num.f t163).bind fun t170 => (if t170 = 0 then ((wharfagelaw0_Num.f t165).bind fun t171 => (if t171 = 700 then ((report_May.f 2 258 3 8).bind fun t172 => (some t172)) else (none))) else (none)))) else (none))) else (none)) else (none)) = some r := H
                have A16 := Aside0.mk A160
                clear A160
                by_cases c17 : t168 = 700
                · rw [if_pos c17] at H
                  have c17b0 : (t168 == 700) = true := beq_iff_eq.mpr c17
                  have c17b1 : (t168 != 700) = false := bne_eq_false_iff_eq.mpr c17
                  clear c17
                  by_cases c18 : t160 = true
                  · subst c18
                    have H1 : ((wharfagelaw0_Num.f t161).bind fun t169 => (if t169 = 0 then (if t162 = true then (none) else ((wharfagelaw0_Num.f t163).bind fun t170 => (if t170 = 0 then ((wharfagelaw0_Num.f t165).bind fun t171 => (if t171 = 700 then ((report_May.f 2 258 3 8).bind fun t172 => (some t172)) else (none))) else (none)))) else (none))) = some r := by rw [if_pos rfl] at H; exact H
                    clear H
                    have H := H1
                    clear H1
                    replace H := Option.bind_eq_some_iff.mp H
                    obtain ⟨t169, A190, H⟩ := H
                    replace H : (if t169 = 0 then (if t162 = true then (none) else ((wharfagelaw0_Num.f t163).bind fun t170 => (if t170 = 0 then ((wharfagelaw0_Num.f t165).bind fun t171 => (if t171 = 700 then ((report_May.f 2 258 3 8).bind fun t172 => (some t172)) else (none))) else (none)))) else (none)) = some r := H
                    have A19 := Aside0.mk A190
                    clear A190
                    by_cases c20 : t169 = 0
                    · rw [if_pos c20] at H
                      have c20b0 : (t169 == 0) = true := beq_iff_eq.mpr c20
                      have c20b1 : (t169 != 0) = false := bne_eq_false_iff_eq.mpr c20
                      clear c20
                      by_cases c21 : t162 = true
                      · subst c21
                        have H1 : (none) = some r := by rw [if_pos rfl] at H; exact H
                        clear H
                        have H := H1
                        clear H1
                        exact absurd H (by simp)
                      · replace c21 := Bool.eq_false_iff.mpr c21
                        subst c21
                        have H1 : ((wharfagelaw0_Num.f t163).bind fun t170 => (if t170 = 0 then ((wharfagelaw0_Num.f t165).bind fun t171 => (if t171 = 700 then ((report_May.f 2 258 3 8).bind fun t172 => (some t172)) else (none))) else (none))) = some r := by rw [if_neg (show ¬ (false = true) by decide)] at H; exact H
                        clear H
                        have H := H1
                        clear H1
                        replace H := Option.bind_eq_some_iff.mp H
                        obtain ⟨t170, A220, H⟩ := H
                        replace H : (if t170 = 0 then ((wharfagelaw0_Num.f t165).bind fun t171 => (if t171 = 700 then ((report_May.f 2 258 3 8).bind fun t172 => (some t172)) else (none))) else (none)) = some r := H
                        have A22 := Aside0.mk A220
                        clear A220
                        by_cases c23 : t170 = 0
                        · rw [if_pos c23] at H
                          have c23b0 : (t170 == 0) = true := beq_iff_eq.mpr c23
                          have c23b1 : (t170 != 0) = false := bne_eq_false_iff_eq.mpr c23
                          clear c23
                          replace H := Option.bind_eq_some_iff.mp H
                          obtain ⟨t171, A240, H⟩ := H
                          replace H : (if t171 = 700 then ((report_May.f 2 258 3 8).bind fun t172 => (some t172)) else (none)) = some r := H
                          have A24 := Aside0.mk A240
                          clear A240
                          by_cases c25 : t171 = 700
                          · rw [if_pos c25] at H
                            have c25b0 : (t171 == 700) = true := beq_iff_eq.mpr c25
                            have c25b1 : (t171 != 700) = false := bne_eq_false_iff_eq.mpr c25
                            clear c25
                            replace H := Option.bind_eq_some_iff.mp H
                            obtain ⟨t172, A260, H⟩ := H
                            replace H : (some t172) = some r := H
                            have A26 := Aside0.mk A260
                            clear A260
                            obtain rfl := Option.some.inj H
                            go_enter Try.func24, Try.ntmps24
                            go_wp2_with (first | ((with_reducible refine gate_dst (N := 1) rfl ?_); refine box_event ?hg (N := 1) ?hd (cs := #[.int .i64 0, .int .i64 0, .int .i64 0, .int .i64 0]) (t := 23) ?hr ?_; (case hd => rfl); (case hg => rfl); (case hr => first | (go_simp; done) | (go_simp; rfl)); intro gb149 hg w27 hbox hb; have n0_ := Aside0.mk (below_step (by repeat (first | (with_reducible first | exact HB.out | apply below_alloc | apply pw_below_drewN | apply below_drew1) | exact HB.out)) hb); have n1_ := Aside0.mk (hbox); have n2_ := Aside0.mk ((by rw [hg]; exact (below_size (by repeat (first | (with_reducible first | exact HB.out | apply below_alloc | apply pw_below_drewN | apply below_drew1) | exact HB.out))) : w.heap.size ≤ gb149)); have n3_ := Aside0.mk ((by rw [hg]; exact (below_size (by repeat (first | (with_reducible first | exact HB.out | apply below_alloc | apply pw_below_drewN | apply below_drew1) | exact HB.out))) : w.heap.size ≤ gb149)); clear HB; have HB := n0_; have BK149 := n1_; have GW149 := n2_; have GE149 := n3_; clear n0_ n1_ n2_ n3_; clear hb hbox hg; have hcz28_0 : w27.cell? ⟨gb149, 0, none⟩ = some (.int .i64 0) := (blk_cell BK149.out 0).trans rfl; have hcz28_1 : w27.cell? ⟨gb149, 1, none⟩ = some (.int .i64 0) := (blk_cell BK149.out 1).trans rfl; have hcz28_2 : w27.cell? ⟨gb149, 2, none⟩ = some (.int .i64 0) := (blk_cell BK149.out 2).trans rfl; have hcz28_3 : w27.cell? ⟨gb149, 3, none⟩ = some (.int .i64 0) := (blk_cell BK149.out 3).trans rfl; have hfz28_0 := blk_frozen BK149.out 0; have hfz28_1 := blk_frozen BK149.out 1; have hfz28_2 := blk_frozen BK149.out 2; have hfz28_3 := blk_frozen BK149.out 3) | ((with_reducible refine gate_callee (f := 15) rfl ?_); refine goesL_ (some 17) rfl rfl Try.func15 (by kernel_rfl) rfl #[.agg #[.int .i64 2, .int .i64 258, .int .i64 3, .int .i64 8]] rfl (by (try simp only [List.map_toArray, List.map_cons, List.map_nil]); first | done | rfl | (simp only [List.length_drop, List.length_take]; rfl)) ?_; (with_reducible refine (report_Put.calls k 2 258 3 8 t150 t151 _ A1.out).mono ?_); rintro e w29 ⟨rfl, hb⟩; refine ⟨_, rfl, ?_⟩; have n0_ := Aside0.mk (blk_below (g := gb149) (o := .cells #[.int .i64 2, .int .i64 258, .int .i64 3, .int .i64 8] 23 (0, 0)) (by (with_reducible repeat (first | refine blk_drewN ?_ _ | refine blk_drew ?_ | refine blk_alloc ?_ _)); refine blk_put (cs := #[.int .i64 2, .int .i64 258, .int .i64 3, .int .i64 0]) ?_ 3 _ rfl; (with_reducible repeat (first | refine blk_drewN ?_ _ | refine blk_drew ?_ | refine blk_alloc ?_ _)); refine blk_put (cs := #[.int .i64 2, .int .i64 258, .int .i64 0, .int .i64 0]) ?_ 2 _ rfl; (with_reducible repeat (first | refine blk_drewN ?_ _ | refine blk_drew ?_ | refine blk_alloc ?_ _)); refine blk_put (cs := #[.int .i64 2, .int .i64 0, .int .i64 0, .int .i64 0]) ?_ 1 _ rfl; (with_reducible repeat (first | refine blk_drewN ?_ _ | refine blk_drew ?_ | refine blk_alloc ?_ _)); refine blk_put (cs := #[.int .i64 0, .int .i64 0, .int .i64 0, .int .i64 0]) ?_ 0 _ rfl; (with_reducible repeat (first | refine blk_drewN ?_ _ | refine blk_drew ?_ | refine blk_alloc ?_ _)); exact BK149.out) hb); have n1_ := Aside0.mk (below_step (by repeat (first | (with_reducible first | exact HB.out | apply below_alloc | apply pw_below_drewN | apply below_drew1 | refine below_set ?_ GE149.out) | exact HB.out)) hb); clear BK149; clear HB; have BK149 := n0_; have HB := n1_; clear n0_ n1_; (try clear hb); (try clear hb2); (try clear hk); (try clear hi)) | ((with_reducible refine gate_callee (f := 17) rfl ?_); refine goesL_ (some 22) rfl rfl Try.func17 (by kernel_rfl) rfl #[.string t150] rfl (by (try simp only [List.map_toArray, List.map_cons, List.map_nil]); first | done | rfl | (simp only [List.length_drop, List.length_take]; rfl)) ?_; (with_reducible refine (report_Get.calls k t150 t152 t153 t154 t155 t156 _ A2.out).mono ?_); rintro e w30 ⟨rfl, hb⟩; refine ⟨_, rfl, ?_⟩; have n0_ := Aside0.mk (blk_below (g := gb149) (o := .cells #[.int .i64 2, .int .i64 258, .int .i64 3, .int .i64 8] 23 (0, 0)) (by (with_reducible repeat (first | refine blk_drewN ?_ _ | refine blk_drew ?_ | refine blk_alloc ?_ _)); exact BK149.out) hb); have n1_ := Aside0.mk (below_step (by repeat (first | (with_reducible first | exact HB.out | apply below_alloc | apply pw_below_drewN | apply below_drew1 | refine below_set ?_ GE149.out) | exact HB.out)) hb); clear BK149; clear HB; have BK149 := n0_; have HB := n1_; clear n0_ n1_; (try clear hb); (try clear hb2); (try clear hk); (try clear hi)) | ((with_reducible refine gate_dst (N := 4) rfl ?_); refine box_event ?hg (N := 4) ?hd (cs := #[.int .i64 0, .int .i64 0, .int .i64 0, .int .i64 0]) (t := 23) ?hr ?_; (case hd => rfl); (case hg => rfl); (case hr => first | (go_simp; done) | (go_simp; rfl)); intro gb157 hg w31 hbox hb; have n0_ := Aside0.mk (blk_below (g := gb149) (o := .cells #[.int .i64 2, .int .i64 258, .int .i64 3, .int .i64 8] 23 (0, 0)) (by (with_reducible repeat (first | refine blk_drewN ?_ _ | refine blk_drew ?_ | refine blk_alloc ?_ _)); exact BK149.out) hb); have n1_ := Aside0.mk (below_step (by repeat (first | (with_reducible first | exact HB.out | apply below_alloc | apply pw_below_drewN | apply below_drew1 | refine below_set ?_ GE149.out) | exact HB.out)) hb); have n2_ := Aside0.mk (hbox); have n3_ := Aside0.mk ((by rw [hg]; exact (below_size (by repeat (first | (with_reducible first | exact HB.out | apply below_alloc | apply pw_below_drewN | apply below_drew1 | refine below_set ?_ GE149.out) | exact HB.out))) : w.heap.size ≤ gb157)); have n4_ := Aside0.mk ((by rw [hg]; exact (below_size (by repeat (first | (with_reducible first | exact HB.out | apply below_alloc | apply pw_below_drewN | apply below_drew1 | refine below_set ?_ GE149.out) | exact HB.out))) : w.heap.size ≤ gb157)); have n5_ := Aside0.mk ((by rw [hg]; exact Nat.ne_of_lt (blk_lt (g := gb149) (o := .cells #[.int .i64 2, .int .i64 258, .int .i64 3, .int .i64 8] 23 (0, 0)) (by (with_reducible repeat (first | refine blk_drewN ?_ _ | refine blk_drew ?_ | refine blk_alloc ?_ _)); exact BK149.out)) : gb149 ≠ gb157)); have n6_ := Aside0.mk ((by rw [hg]; exact Nat.ne_of_gt (blk_lt (g := gb149) (o := .cells #[.int .i64 2, .int .i64 258, .int .i64 3, .int .i64 8] 23 (0, 0)) (by (with_reducible repeat (first | refine blk_drewN ?_ _ | refine blk_drew ?_ | refine blk_alloc ?_ _)); exact BK149.out)) : gb157 ≠ gb149)); clear BK149; clear HB; have BK149 := n0_; have HB := n1_; have BK157 := n2_; have GW157 := n3_; have GE157 := n4_; have NB149_157 := n5_; have NB157_149 := n6_; clear n0_ n1_ n2_ n3_ n4_ n5_ n6_; clear hb hbox hg; have hnb32 := NB157_149.out; have hnc32 := NB149_157.out; have hcz33_0 : w31.cell? ⟨gb157, 0, none⟩ = some (.int .i64 0) := (blk_cell BK157.out 0).trans rfl; have hcz33_1 : w31.cell? ⟨gb157, 1, none⟩ = some (.int .i64 0) := (blk_cell BK157.out 1).trans rfl; have hcz33_2 : w31.cell? ⟨gb157, 2, none⟩ = some (.int .i64 0) := (blk_cell BK157.out 2).trans rfl; have hcz33_3 : w31.cell? ⟨gb157, 3, none⟩ = some (.int .i64 0) := (blk_cell BK157.out 3).trans rfl; have hfz33_0 := blk_frozen BK157.out 0; have hfz33_1 := blk_frozen BK157.out 1; have hfz33_2 := blk_frozen BK157.out 2; have hfz33_3 := blk_frozen BK157.out 3) | ((with_reducible refine gate_callee (f := 15) rfl ?_); refine goesL_ (some 27) rfl rfl Try.func15 (by kernel_rfl) rfl #[.agg #[.int .i64 3, .int .i64 0, .int .i64 0, .int .i64 0]] rfl (by (try simp only [List.map_toArray, List.map_cons, List.map_nil]); first | done | rfl | (simp only [List.length_drop, List.length_take]; rfl)) ?_; (with_reducible refine (report_Put.calls k 3 0 0 0 t158 t159 _ A3.out).mono ?_); rintro e w34 ⟨rfl, hb⟩; refine ⟨_, rfl, ?_⟩; have n0_ := Aside0.mk (blk_below (g := gb149) (o := .cells #[.int .i64 2, .int .i64 258, .int .i64 3, .int .i64 8] 23 (0, 0)) (by (with_reducible repeat (first | refine blk_drewN ?_ _ | refine blk_drew ?_ | refine blk_alloc ?_ _)); refine blk_far ?_ NB149_157.out _; (with_reducible repeat (first | refine blk_drewN ?_ _ | refine blk_drew ?_ | refine blk_alloc ?_ _)); refine blk_far ?_ NB149_157.out _; (with_reducible repeat (first | refine blk_drewN ?_ _ | refine blk_drew ?_ | refine blk_alloc ?_ _)); refine blk_far ?_ NB149_157.out _; (with_reducible repeat (first | refine blk_drewN ?_ _ | refine blk_drew ?_ | refine blk_alloc ?_ _)); refine blk_far ?_ NB149_157.out _; (with_reducible repeat (first | refine blk_drewN ?_ _ | refine blk_drew ?_ | refine blk_alloc ?_ _)); exact BK149.out) hb); have n1_ := Aside0.mk (blk_below (g := gb157) (o := .cells #[.int .i64 t152, .int .i64 t153, .int .i64 t154, .int .i64 t155] 23 (0, 0)) (by (with_reducible repeat (first | refine blk_drewN ?_ _ | refine blk_drew ?_ | refine blk_alloc ?_ _)); refine blk_put (cs := #[.int .i64 t152, .int .i64 t153, .int .i64 t154, .int .i64 0]) ?_ 3 _ rfl; (with_reducible repeat (first | refine blk_drewN ?_ _ | refine blk_drew ?_ | refine blk_alloc ?_ _)); refine blk_put (cs := #[.int .i64 t152, .int .i64 t153, .int .i64 0, .int .i64 0]) ?_ 2 _ rfl; (with_reducible repeat (first | refine blk_drewN ?_ _ | refine blk_drew ?_ | refine blk_alloc ?_ _)); refine blk_put (cs := #[.int .i64 t152, .int .i64 0, .int .i64 0, .int .i64 0]) ?_ 1 _ rfl; (with_reducible repeat (first | refine blk_drewN ?_ _ | refine blk_drew ?_ | refine blk_alloc ?_ _)); refine blk_put (cs := #[.int .i64 0, .int .i64 0, .int .i64 0, .int .i64 0]) ?_ 0 _ rfl; (with_reducible repeat (first | refine blk_drewN ?_ _ | refine blk_drew ?_ | refine blk_alloc ?_ _)); exact BK157.out) hb); have n2_ := Aside0.mk (below_step (by repeat (first | (with_reducible first | exact HB.out | apply below_alloc | apply pw_below_drewN | apply below_drew1 | refine below_set ?_ GE149.out | refine below_set ?_ GE157.out) | exact HB.out)) hb); clear BK149; clear BK157; clear HB; have BK149 := n0_; have BK157 := n1_; have HB := n2_; clear n0_ n1_ n2_; (try clear hb); (try clear hb2); (try clear hk); (try clear hi)) | ((with_reducible refine gate_callee (f := 19) rfl ?_); refine goesL_ (some 31) rfl rfl Try.func19 (by kernel_rfl) rfl #[.int .i64 0, .int .i64 65535] rfl (by (try simp only [List.map_toArray, List.map_cons, List.map_nil]); first | done | rfl | (simp only [List.length_drop, List.length_take]; rfl)) ?_; (with_reducible refine (report_Newer.calls 0 65535 true t161 _ A4.out).mono ?_); rintro e w' ⟨rfl, ⟨nd, rfl⟩⟩; refine ⟨_, rfl, ?_⟩) | ((with_reducible refine gate_callee (f := 19) rfl ?_); refine goesL_ (some 35) rfl rfl Try.func19 (by kernel_rfl) rfl #[.int .i64 5, .int .i64 5] rfl (by (try simp only [List.map_toArray, List.map_cons, List.map_nil]); first | done | rfl | (simp only [List.length_drop, List.length_take]; rfl)) ?_; (with_reducible refine (report_Newer.calls 5 5 false t163 _ A5.out).mono ?_); rintro e w' ⟨rfl, ⟨nd, rfl⟩⟩; refine ⟨_, rfl, ?_⟩) | ((with_reducible refine gate_callee (f := 19) rfl ?_); refine goesL_ (some 39) rfl rfl Try.func19 (by kernel_rfl) rfl #[.int .i64 (-1), .int .i64 0] rfl (by (try simp only [List.map_toArray, List.map_cons, List.map_nil]); first | done | rfl | (simp only [List.length_drop, List.length_take]; rfl)) ?_; (with_reducible refine (report_Newer.calls (-1) 0 t164 t165 _ A6.out).mono ?_); rintro e w' ⟨rfl, ⟨nd, rfl⟩⟩; refine ⟨_, rfl, ?_⟩) | (go_at_call 21; (with_reducible refine (wharfagelaw0_Num.calls t151 t166 _ A11.out).mono ?_); rintro e w' ⟨rfl, ⟨nd, rfl⟩⟩; have hcz35_0 : w34.cell? ⟨gb157, 0, none⟩ = some (.int .i64 t152) := (blk_cell BK157.out 0).trans rfl; have hcz35_1 : w34.cell? ⟨gb157, 1, none⟩ = some (.int .i64 t153) := (blk_cell BK157.out 1).trans rfl; have hcz35_2 : w34.cell? ⟨gb157, 2, none⟩ = some (.int .i64 t154) := (blk_cell BK157.out 2).trans rfl; have hcz35_3 : w34.cell? ⟨gb157, 3, none⟩ = some (.int .i64 t155) := (blk_cell BK157.out 3).trans rfl; have hfz35_0 := blk_frozen BK157.out 0; have hfz35_1 := blk_frozen BK157.out 1; have hfz35_2 := blk_frozen BK157.out 2; have hfz35_3 := blk_frozen BK157.out 3; have hcz36_0 : w34.cell? ⟨gb149, 0, none⟩ = some (.int .i64 2) := (blk_cell BK149.out 0).trans rfl; have hcz36_1 : w34.cell? ⟨gb149, 1, none⟩ = some (.int .i64 258) := (blk_cell BK149.out 1).trans rfl; have hcz36_2 : w34.cell? ⟨gb149, 2, none⟩ = some (.int .i64 3) := (blk_cell BK149.out 2).trans rfl; have hcz36_3 : w34.cell? ⟨gb149, 3, none⟩ = some (.int .i64 8) := (blk_cell BK149.out 3).trans rfl; have hfz36_0 := blk_frozen BK149.out 0; have hfz36_1 := blk_frozen BK149.out 1; have hfz36_2 := blk_frozen BK149.out 2; have hfz36_3 := blk_frozen BK149.out 3) | (go_at_call 21; (with_reducible refine (wharfagelaw0_Num.calls t156 t167 _ A14.out).mono ?_); rintro e w' ⟨rfl, ⟨nd, rfl⟩⟩) | (go_at_call 21; (with_reducible refine (wharfagelaw0_Num.calls t159 t168 _ A16.out).mono ?_); rintro e w' ⟨rfl, ⟨nd, rfl⟩⟩) | (go_at_call 21; (with_reducible refine (wharfagelaw0_Num.calls t161 t169 _ A19.out).mono ?_); rintro e w' ⟨rfl, ⟨nd, rfl⟩⟩) | (go_at_call 21; (with_reducible refine (wharfagelaw0_Num.calls t163 t170 _ A22.out).mono ?_); rintro e w' ⟨rfl, ⟨nd, rfl⟩⟩) | (go_at_call 21; (with_reducible refine (wharfagelaw0_Num.calls t165 t171 _ A24.out).mono ?_); rintro e w' ⟨rfl, ⟨nd, rfl⟩⟩) | (go_at_call 22; (with_reducible refine (report_May.calls 2 258 3 8 t172 _ A26.out).mono ?_); rintro e w37 ⟨rfl, hb⟩; have n0_ := Aside0.mk (blk_below (g := gb149) (o := .cells #[.int .i64 2, .int .i64 258, .int .i64 3, .int .i64 8] 23 (0, 0)) (by (with_reducible repeat (first | refine blk_drewN ?_ _ | refine blk_drew ?_ | refine blk_alloc ?_ _)); exact BK149.out) hb); have n1_ := Aside0.mk (blk_below (g := gb157) (o := .cells #[.int .i64 t152, .int .i64 t153, .int .i64 t154, .int .i64 t155] 23 (0, 0)) (by (with_reducible repeat (first | refine blk_drewN ?_ _ | refine blk_drew ?_ | refine blk_alloc ?_ _)); exact BK157.out) hb); have n2_ := Aside0.mk (below_step (by repeat (first | (with_reducible first | exact HB.out | apply below_alloc | apply pw_below_drewN | apply below_drew1 | refine below_set ?_ GE149.out | refine below_set ?_ GE157.out) | exact HB.out)) hb); clear BK149; clear BK157; clear HB; have BK149 := n0_; have BK157 := n1_; have HB := n2_; clear n0_ n1_ n2_; (try clear hb); (try clear hb2); (try clear hk); (try clear hi)))
                            go_ret
                            exact ⟨by first | rfl | (simp [errW_none, errW_some] <;> rfl) | (simp [*, errW_none, errW_some] <;> rfl), by repeat (first | (with_reducible first | exact HB.out | apply below_alloc | apply pw_below_drewN | apply below_drew1 | refine below_set ?_ GE149.out | refine below_set ?_ GE157.out) | exact HB.out)⟩
                          · rw [if_neg c25] at H
                            exact absurd H (by simp)
                        · rw [if_neg c23] at H
                          exact absurd H (by simp)
                    · rw [if_neg c20] at H
                      exact absurd H (by simp)
                  · replace c18 := Bool.eq_false_iff.mpr c18
                    subst c18
                    have H1 : (none) = some r := by rw [if_neg (show ¬ (false = true) by decide)] at H; exact H
                    clear H
                    have H := H1
                    clear H1
                    exact absurd H (by simp)
                · rw [if_neg c17] at H
                  exact absurd H (by simp)
              · rw [if_neg c15] at H
                exact absurd H (by simp)
            · rw [if_neg c13] at H
              exact absurd H (by simp)
          · rw [if_neg c12] at H
            exact absurd H (by simp)
        · rw [if_neg c10] at H
          exact absurd H (by simp)
      · rw [if_neg c9] at H
        exact absurd H (by simp)
    · rw [if_neg c8] at H
      exact absurd H (by simp)
  · rw [if_neg c7] at H
    exact absurd H (by simp)

end Go.Proofs.Ytnocfhnandedoaa.PReport
