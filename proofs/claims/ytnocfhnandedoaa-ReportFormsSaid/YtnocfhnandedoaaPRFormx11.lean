/- Contracts: what calls of these functions of the program do, each as a plain function; written by a program of this session. -/
import Derived.Test.YtnocfhnandedoaaPRFormx0
import Derived.Test.YtnocfhnandedoaaPRFormx1
import Derived.Test.YtnocfhnandedoaaPRFormx3
import Derived.Test.YtnocfhnandedoaaPRFormx7
import Derived.Test.YtnocfhnandedoaaPRFormx9
import Derived.Test.YtnocfhnandedoaaPRFormx10
namespace Go.Proofs.Ytnocfhnandedoaa.PRForm
open Go.RowKit Go.Proofs.YtnocfhnandedoaaW.PrintWords Go.Proofs.YtnocfhnandedoaaW.PrintLast Go.Proofs.YtnocfhnandedoaaW.PrintMore
attribute [local go_sem] max2_int min2_int max_two min_two max_three min_three max_four min_four   -- for this text's walks alone
set_option linter.unusedVariables false
set_option linter.unusedSimpArgs false

attribute [local go_sem high] eqA23
/-! ### wharfagelaw7_awake: function 24 -/
def wharfagelaw7_awake.f (k : Nat)  : Option (Bool) := (report_Put.f k 2 258 3 8).bind fun bt129 => ((report_Get.f k bt129.1).bind fun bt131 => ((report_Put.f k 3 0 0 0).bind fun bt137 => ((report_Newer.f 0 65535).bind fun bt139 => ((report_Newer.f 5 5).bind fun bt141 => ((report_Newer.f (-1) 0).bind fun bt143 => (if (bt129.1.size : Int) = 6 then (if 0 ≤ 5 then (if 5 ≤ (bt129.1.size : Int) then (if (bt129.1.extract 0 5).toList = ([2, 1, 2, 3, 8] : List UInt8) then ((wharfagelaw0_Num.f bt129.2).bind fun t145 => (if t145 = 0 then (if (bt131.1 == 2 && (bt131.2.1 == 258 && (bt131.2.2.1 == 3 && (bt131.2.2.2.1 == 8)))) = true then ((wharfagelaw0_Num.f bt131.2.2.2.2).bind fun t146 => (if t146 = 0 then ((wharfagelaw0_Num.f bt137.2).bind fun t147 => (if t147 = 700 then (if bt139.1 = true then ((wharfagelaw0_Num.f bt139.2).bind fun t148 => (if t148 = 0 then (if bt141.1 = true then (none) else ((wharfagelaw0_Num.f bt141.2).bind fun t149 => (if t149 = 0 then ((wharfagelaw0_Num.f bt143.2).bind fun t150 => (if t150 = 700 then ((report_May.f 2 258 3 8).bind fun t151 => (some t151)) else (none))) else (none)))) else (none))) else (none)) else (none))) else (none))) else (none)) else (none))) else (none)) else (none)) else (none)) else (none)))))))
theorem wharfagelaw7_awake.mono : ∀ k, LeO (wharfagelaw7_awake.f k ) (wharfagelaw7_awake.f (k + 1) ) := by
  intro  k
  unfold wharfagelaw7_awake.f
  repeat' first
      | (with_reducible exact report_Get.mono _ _)
      | (with_reducible exact report_Put.mono _ _ _ _ _)
      | (with_reducible exact LeO.refl _)
      | (with_reducible exact LeO.none _)
      | (with_reducible refine LeO.ite ?_ ?_)
      | (with_reducible refine LeO.bind ?_ (fun _ => ?_))
      | exact report_Get.mono _ _
      | exact report_Put.mono _ _ _ _ _
      | exact LeO.none _
      | refine LeO.ite ?_ ?_
      | refine LeO.bind ?_ (fun _ => ?_)
set_option maxHeartbeats 8000000 in
set_option maxRecDepth 100000 in
theorem wharfagelaw7_awake.calls (k : Nat)  (r : Bool) (w : World) (h : wharfagelaw7_awake.f k  = some r) :
    Calls Try.prog 24 #[] w fun e w' => e = .returned (.bool r) ∧ Below w.heap.size w w' := by
  have hu23 := Try.underlying23
  have HB := Aside0.mk (Below.refl w.heap.size w)
  have H : ((report_Put.f k 2 258 3 8).bind fun bt129 => ((report_Get.f k bt129.1).bind fun bt131 => ((report_Put.f k 3 0 0 0).bind fun bt137 => ((report_Newer.f 0 65535).bind fun bt139 => ((report_Newer.f 5 5).bind fun bt141 => ((report_Newer.f (-1) 0).bind fun bt143 => (if (bt129.1.size : Int) = 6 then (if 0 ≤ 5 then (if 5 ≤ (bt129.1.size : Int) then (if (bt129.1.extract 0 5).toList = ([2, 1, 2, 3, 8] : List UInt8) then ((wharfagelaw0_Num.f bt129.2).bind fun t145 => (if t145 = 0 then (if (bt131.1 == 2 && (bt131.2.1 == 258 && (bt131.2.2.1 == 3 && (bt131.2.2.2.1 == 8)))) = true then ((wharfagelaw0_Num.f bt131.2.2.2.2).bind fun t146 => (if t146 = 0 then ((wharfagelaw0_Num.f bt137.2).bind fun t147 => (if t147 = 700 then (if bt139.1 = true then ((wharfagelaw0_Num.f bt139.2).bind fun t148 => (if t148 = 0 then (if bt141.1 = true then (none) else ((wharfagelaw0_Num.f bt141.2).bind fun t149 => (if t149 = 0 then ((wharfagelaw0_Num.f bt143.2).bind fun t150 => (if t150 = 700 then ((report_May.f 2 258 3 8).bind fun t151 => (some t151)) else (none))) else (none)))) else (none))) else (none)) else (none))) else (none))) else (none)) else (none))) else (none)) else (none)) else (none)) else (none)))))))) = some r := h
  clear h
  replace H := Option.bind_eq_some_iff.mp H
  obtain ⟨⟨t129, t130⟩, A10, H⟩ := H
  replace H : ((report_Get.f k t129).bind fun bt131 => ((report_Put.f k 3 0 0 0).bind fun bt137 => ((report_Newer.f 0 65535).bind fun bt139 => ((report_Newer.f 5 5).bind fun bt141 => ((report_Newer.f (-1) 0).bind fun bt143 => (if (t129.size : Int) = 6 then (if 0 ≤ 5 then (if 5 ≤ (t129.size : Int) then (if (t129.extract 0 5).toList = ([2, 1, 2, 3, 8] : List UInt8) then ((wharfagelaw0_Num.f t130).bind fun t145 => (if t145 = 0 then (if (bt131.1 == 2 && (bt131.2.1 == 258 && (bt131.2.2.1 == 3 && (bt131.2.2.2.1 == 8)))) = true then ((wharfagelaw0_Num.f bt131.2.2.2.2).bind fun t146 => (if t146 = 0 then ((wharfagelaw0_Num.f bt137.2).bind fun t147 => (if t147 = 700 then (if bt139.1 = true then ((wharfagelaw0_Num.f bt139.2).bind fun t148 => (if t148 = 0 then (if bt141.1 = true then (none) else ((wharfagelaw0_Num.f bt141.2).bind fun t149 => (if t149 = 0 then ((wharfagelaw0_Num.f bt143.2).bind fun t150 => (if t150 = 700 then ((report_May.f 2 258 3 8).bind fun t151 => (some t151)) else (none))) else (none)))) else (none))) else (none)) else (none))) else (none))) else (none)) else (none))) else (none)) else (none)) else (none)) else (none))))))) = some r := H
  have A1 := Aside0.mk A10
  clear A10
  replace H := Option.bind_eq_some_iff.mp H
  obtain ⟨⟨t131, t132, t133, t134, t135⟩, A20, H⟩ := H
  replace H : ((report_Put.f k 3 0 0 0).bind fun bt137 => ((report_Newer.f 0 65535).bind fun bt139 => ((report_Newer.f 5 5).bind fun bt141 => ((report_Newer.f (-1) 0).bind fun bt143 => (if (t129.size : Int) = 6 then (if 0 ≤ 5 then (if 5 ≤ (t129.size : Int) then (if (t129.extract 0 5).toList = ([2, 1, 2, 3, 8] : List UInt8) then ((wharfagelaw0_Num.f t130).bind fun t145 => (if t145 = 0 then (if (t131 == 2 && (t132 == 258 && (t133 == 3 && (t134 == 8)))) = true then ((wharfagelaw0_Num.f t135).bind fun t146 => (if t146 = 0 then ((wharfagelaw0_Num.f bt137.2).bind fun t147 => (if t147 = 700 then (if bt139.1 = true then ((wharfagelaw0_Num.f bt139.2).bind fun t148 => (if t148 = 0 then (if bt141.1 = true then (none) else ((wharfagelaw0_Num.f bt141.2).bind fun t149 => (if t149 = 0 then ((wharfagelaw0_Num.f bt143.2).bind fun t150 => (if t150 = 700 then ((report_May.f 2 258 3 8).bind fun t151 => (some t151)) else (none))) else (none)))) else (none))) else (none)) else (none))) else (none))) else (none)) else (none))) else (none)) else (none)) else (none)) else (none)))))) = some r := H
  have A2 := Aside0.mk A20
  clear A20
  replace H := Option.bind_eq_some_iff.mp H
  obtain ⟨⟨t137, t138⟩, A30, H⟩ := H
  replace H : ((report_Newer.f 0 65535).bind fun bt139 => ((report_Newer.f 5 5).bind fun bt141 => ((report_Newer.f (-1) 0).bind fun bt143 => (if (t129.size : Int) = 6 then (if 0 ≤ 5 then (if 5 ≤ (t129.size : Int) then (if (t129.extract 0 5).toList = ([2, 1, 2, 3, 8] : List UInt8) then ((wharfagelaw0_Num.f t130).bind fun t145 => (if t145 = 0 then (if (t131 == 2 && (t132 == 258 && (t133 == 3 && (t134 == 8)))) = true then ((wharfagelaw0_Num.f t135).bind fun t146 => (if t146 = 0 then ((wharfagelaw0_Num.f t138).bind fun t147 => (if t147 = 700 then (if bt139.1 = true then ((wharfagelaw0_Num.f bt139.2).bind fun t148 => (if t148 = 0 then (if bt141.1 = true then (none) else ((wharfagelaw0_Num.f bt141.2).bind fun t149 => (if t149 = 0 then ((wharfagelaw0_Num.f bt143.2).bind fun t150 => (if t150 = 700 then ((report_May.f 2 258 3 8).bind fun t151 => (some t151)) else (none))) else (none)))) else (none))) else (none)) else (none))) else (none))) else (none)) else (none))) else (none)) else (none)) else (none)) else (none))))) = some r := H
  have A3 := Aside0.mk A30
  clear A30
  replace H := Option.bind_eq_some_iff.mp H
  obtain ⟨⟨t139, t140⟩, A40, H⟩ := H
  replace H : ((report_Newer.f 5 5).bind fun bt141 => ((report_Newer.f (-1) 0).bind fun bt143 => (if (t129.size : Int) = 6 then (if 0 ≤ 5 then (if 5 ≤ (t129.size : Int) then (if (t129.extract 0 5).toList = ([2, 1, 2, 3, 8] : List UInt8) then ((wharfagelaw0_Num.f t130).bind fun t145 => (if t145 = 0 then (if (t131 == 2 && (t132 == 258 && (t133 == 3 && (t134 == 8)))) = true then ((wharfagelaw0_Num.f t135).bind fun t146 => (if t146 = 0 then ((wharfagelaw0_Num.f t138).bind fun t147 => (if t147 = 700 then (if t139 = true then ((wharfagelaw0_Num.f t140).bind fun t148 => (if t148 = 0 then (if bt141.1 = true then (none) else ((wharfagelaw0_Num.f bt141.2).bind fun t149 => (if t149 = 0 then ((wharfagelaw0_Num.f bt143.2).bind fun t150 => (if t150 = 700 then ((report_May.f 2 258 3 8).bind fun t151 => (some t151)) else (none))) else (none)))) else (none))) else (none)) else (none))) else (none))) else (none)) else (none))) else (none)) else (none)) else (none)) else (none)))) = some r := H
  have A4 := Aside0.mk A40
  clear A40
  replace H := Option.bind_eq_some_iff.mp H
  obtain ⟨⟨t141, t142⟩, A50, H⟩ := H
  replace H : ((report_Newer.f (-1) 0).bind fun bt143 => (if (t129.size : Int) = 6 then (if 0 ≤ 5 then (if 5 ≤ (t129.size : Int) then (if (t129.extract 0 5).toList = ([2, 1, 2, 3, 8] : List UInt8) then ((wharfagelaw0_Num.f t130).bind fun t145 => (if t145 = 0 then (if (t131 == 2 && (t132 == 258 && (t133 == 3 && (t134 == 8)))) = true then ((wharfagelaw0_Num.f t135).bind fun t146 => (if t146 = 0 then ((wharfagelaw0_Num.f t138).bind fun t147 => (if t147 = 700 then (if t139 = true then ((wharfagelaw0_Num.f t140).bind fun t148 => (if t148 = 0 then (if t141 = true then (none) else ((wharfagelaw0_Num.f t142).bind fun t149 => (if t149 = 0 then ((wharfagelaw0_Num.f bt143.2).bind fun t150 => (if t150 = 700 then ((report_May.f 2 258 3 8).bind fun t151 => (some t151)) else (none))) else (none)))) else (none))) else (none)) else (none))) else (none))) else (none)) else (none))) else (none)) else (none)) else (none)) else (none))) = some r := H
  have A5 := Aside0.mk A50
  clear A50
  replace H := Option.bind_eq_some_iff.mp H
  obtain ⟨⟨t143, t144⟩, A60, H⟩ := H
  replace H : (if (t129.size : Int) = 6 then (if 0 ≤ 5 then (if 5 ≤ (t129.size : Int) then (if (t129.extract 0 5).toList = ([2, 1, 2, 3, 8] : List UInt8) then ((wharfagelaw0_Num.f t130).bind fun t145 => (if t145 = 0 then (if (t131 == 2 && (t132 == 258 && (t133 == 3 && (t134 == 8)))) = true then ((wharfagelaw0_Num.f t135).bind fun t146 => (if t146 = 0 then ((wharfagelaw0_Num.f t138).bind fun t147 => (if t147 = 700 then (if t139 = true then ((wharfagelaw0_Num.f t140).bind fun t148 => (if t148 = 0 then (if t141 = true then (none) else ((wharfagelaw0_Num.f t142).bind fun t149 => (if t149 = 0 then ((wharfagelaw0_Num.f t144).bind fun t150 => (if t150 = 700 then ((report_May.f 2 258 3 8).bind fun t151 => (some t151)) else (none))) else (none)))) else (none))) else (none)) else (none))) else (none))) else (none)) else (none))) else (none)) else (none)) else (none)) else (none)) = some r := H
  have A6 := Aside0.mk A60
  clear A60
  by_cases c7 : (t129.size : Int) = 6
  · rw [if_pos c7] at H
    have c7b0 : ((t129.size : Int) == 6) = true := beq_iff_eq.mpr c7
    have c7b1 : ((t129.size : Int) != 6) = false := bne_eq_false_iff_eq.mpr c7
    clear c7
    by_cases c8 : 0 ≤ 5
    · rw [if_pos c8] at H
      have c8b0 := eq_true c8
      have c8b1 : decide (0 ≤ 5) = true := decide_eq_true c8
      clear c8
      by_cases c9 : 5 ≤ (t129.size : Int)
      · rw [if_pos c9] at H
        have c9b0 := eq_true c9
        have c9b1 : decide (5 ≤ (t129.size : Int)) = true := decide_eq_true c9
        clear c9
        by_cases c10 : (t129.extract 0 5).toList = ([2, 1, 2, 3, 8] : List UInt8)
        · rw [if_pos c10] at H
          have c10b0 : ((t129.extract 0 5).toList == ([2, 1, 2, 3, 8] : List UInt8)) = true := beq_iff_eq.mpr c10
          have c10b1 : ((t129.extract 0 5).toList != ([2, 1, 2, 3, 8] : List UInt8)) = false := bne_eq_false_iff_eq.mpr c10
          clear c10
          replace H := Option.bind_eq_some_iff.mp H
          obtain ⟨t145, A110, H⟩ := H
          replace H : (if t145 = 0 then (if (t131 == 2 && (t132 == 258 && (t133 == 3 && (t134 == 8)))) = true then ((wharfagelaw0_Num.f t135).bind fun t146 => (if t146 = 0 then ((wharfagelaw0_Num.f t138).bind fun t147 => (if t147 = 700 then (if t139 = true then ((wharfagelaw0_Num.f t140).bind fun t148 => (if t148 = 0 then (if t141 = true then (none) else ((wharfagelaw0_Num.f t142).bind fun t149 => (if t149 = 0 then ((wharfagelaw0_Num.f t144).bind fun t150 => (if t150 = 700 then ((report_May.f 2 258 3 8).bind fun t151 => (some t151)) else (none))) else (none)))) else (none))) else (none)) else (none))) else (none))) else (none)) else (none)) = some r := H
          have A11 := Aside0.mk A110
          clear A110
          by_cases c12 : t145 = 0
          · rw [if_pos c12] at H
            have c12b0 : (t145 == 0) = true := beq_iff_eq.mpr c12
            have c12b1 : (t145 != 0) = false := bne_eq_false_iff_eq.mpr c12
            clear c12
            by_cases c13 : (t131 == 2 && (t132 == 258 && (t133 == 3 && (t134 == 8)))) = true
            · rw [if_pos c13] at H
              have c13b0 : (t131 == 2 && (t132 == 258 && (t133 == 3 && (t134 == 8)))) = true := c13
              (try (have c13b1 : decide (t131 = 2 && (t132 == 258 && (t133 == 3 && (t134 == 8)))) = true := by simpa using c13))
              (try (have c13b2 : (t131 == 2 && (t132 == 258 && (t133 == 3 && (t134 == 8)))) = true := by simpa using c13))
              clear c13
              replace H := Option.bind_eq_some_iff.mp H
              obtain ⟨t146, A140, H⟩ := H
              replace H : (if t146 = 0 then ((wharfagelaw0_Num.f t138).bind fun t147 => (if t147 = 700 then (if t139 = true then ((wharfagelaw0_Num.f t140).bind fun t148 => (if t148 = 0 then (if t141 = true then (none) else ((wharfagelaw0_Num.f t142).bind fun t149 => (if t149 = 0 then ((wharfagelaw0_Num.f t144).bind fun t150 => (if t150 = 700 then ((report_May.f 2 258 3 8).bind fun t151 => (some t151)) else (none))) else (none)))) else (none))) else (none)) else (none))) else (none)) = some r := H
              have A14 := Aside0.mk A140
              clear A140
              by_cases c15 : t146 = 0
              · rw [if_pos c15] at H
                have c15b0 : (t146 == 0) = true := beq_iff_eq.mpr c15
                have c15b1 : (t146 != 0) = false := bne_eq_false_iff_eq.mpr c15
                clear c15
                replace H := Option.bind_eq_some_iff.mp H
                obtain ⟨t147, A160, H⟩ := H
                replace H : (if t147 = 700 then (if t139 = true then ((wharfagelaw0_Num.f t140).bind fun t148 => (if t148 = 0 then (if t141 = true then (none) else ((wharfagelaw0_Num.f t142).bind fun t149 => (if t149 = 0 then ((wharfagelaw0_Num.f t144).bind fun t150 => (if t150 = 700 then ((report_May.f 2 258 3 8).bind fun t151 => (some t151)) else (none))) else (none)))) else (none))) else (none)) else (none)) = some r := H
                have A16 := Aside0.mk A160
                clear A160
                by_cases c17 : t147 = 700
                · rw [if_pos c17] at H
                  have c17b0 : (t147 == 700) = true := beq_iff_eq.mpr c17
                  have c17b1 : (t147 != 700) = false := bne_eq_false_iff_eq.mpr c17
                  clear c17
                  by_cases c18 : t139 = true
                  · subst c18
                    have H1 : ((wharfagelaw0_Num.f t140).bind fun t148 => (if t148 = 0 then (if t141 = true then (none) else ((wharfagelaw0_Num.f t142).bind fun t149 => (if t149 = 0 then ((wharfagelaw0_Num.f t144).bind fun t150 => (if t150 = 700 then ((report_May.f 2 258 3 8).bind fun t151 => (some t151)) else (none))) else (none)))) else (none))) = some r := by rw [if_pos rfl] at H; exact H
                    clear H
                    have H := H1
                    clear H1
                    replace H := Option.bind_eq_some_iff.mp H
                    obtain ⟨t148, A190, H⟩ := H
                    replace H : (if t148 = 0 then (if t141 = true then (none) else ((wharfagelaw0_Num.f t142).bind fun t149 => (if t149 = 0 then ((wharfagelaw0_Num.f t144).bind fun t150 => (if t150 = 700 then ((report_May.f 2 258 3 8).bind fun t151 => (some t151)) else (none))) else (none)))) else (none)) = some r := H
                    have A19 := Aside0.mk A190
                    clear A190
                    by_cases c20 : t148 = 0
                    · rw [if_pos c20] at H
                      have c20b0 : (t148 == 0) = true := beq_iff_eq.mpr c20
                      have c20b1 : (t148 != 0) = false := bne_eq_false_iff_eq.mpr c20
                      clear c20
                      by_cases c21 : t141 = true
                      · subst c21
                        have H1 : (none) = some r := by rw [if_pos rfl] at H; exact H
                        clear H
                        have H := H1
                        clear H1
                        exact absurd H (by simp)
                      · replace c21 := Bool.eq_false_iff.mpr c21
                        subst c21
                        have H1 : ((wharfagelaw0_Num.f t142).bind fun t149 => (if t149 = 0 then ((wharfagelaw0_Num.f t144).bind fun t150 => (if t150 = 700 then ((report_May.f 2 258 3 8).bind fun t151 => (some t151)) else (none))) else (none))) = some r := by rw [if_neg (show ¬ (false = true) by decide)] at H; exact H
                        clear H
                        have H := H1
                        clear H1
                        replace H := Option.bind_eq_some_iff.mp H
                        obtain ⟨t149, A220, H⟩ := H
                        replace H : (if t149 = 0 then ((wharfagelaw0_Num.f t144).bind fun t150 => (if t150 = 700 then ((report_May.f 2 258 3 8).bind fun t151 => (some t151)) else (none))) else (none)) = some r := H
                        have A22 := Aside0.mk A220
                        clear A220
                        by_cases c23 : t149 = 0
                        · rw [if_pos c23] at H
                          have c23b0 : (t149 == 0) = true := beq_iff_eq.mpr c23
                          have c23b1 : (t149 != 0) = false := bne_eq_false_iff_eq.mpr c23
                          clear c23
                          replace H := Option.bind_eq_some_iff.mp H
                          obtain ⟨t150, A240, H⟩ := H
                          replace H : (if t150 = 700 then ((report_May.f 2 258 3 8).bind fun t151 => (some t151)) else (none)) = some r := H
                          have A24 := Aside0.mk A240
                          clear A240
                          by_cases c25 : t150 = 700
                          · rw [if_pos c25] at H
                            have c25b0 : (t150 == 700) = true := beq_iff_eq.mpr c25
                            have c25b1 : (t150 != 700) = false := bne_eq_false_iff_eq.mpr c25
                            clear c25
                            replace H := Option.bind_eq_some_iff.mp H
                            obtain ⟨t151, A260, H⟩ := H
                            replace H : (some t151) = some r := H
                            have A26 := Aside0.mk A260
                            clear A260
                            obtain rfl := Option.some.inj H
                            go_enter Try.func24, Try.ntmps24
                            go_wp2_with (first | ((with_reducible refine gate_dst (N := 1) rfl ?_); refine box_event ?hg (N := 1) ?hd (cs := #[.int .i64 0, .int .i64 0, .int .i64 0, .int .i64 0]) (t := 23) ?hr ?_; (case hd => rfl); (case hg => rfl); (case hr => first | (go_simp; done) | (go_simp; rfl)); intro gb128 hg w27 hbox hb; have n0_ := Aside0.mk (below_step (by repeat (first | (with_reducible first | exact HB.out | apply below_alloc | apply pw_below_drewN | apply below_drew1) | exact HB.out)) hb); have n1_ := Aside0.mk (hbox); have n2_ := Aside0.mk ((by rw [hg]; exact (below_size (by repeat (first | (with_reducible first | exact HB.out | apply below_alloc | apply pw_below_drewN | apply below_drew1) | exact HB.out))) : w.heap.size ≤ gb128)); have n3_ := Aside0.mk ((by rw [hg]; exact (below_size (by repeat (first | (with_reducible first | exact HB.out | apply below_alloc | apply pw_below_drewN | apply below_drew1) | exact HB.out))) : w.heap.size ≤ gb128)); clear HB; have HB := n0_; have BK128 := n1_; have GW128 := n2_; have GE128 := n3_; clear n0_ n1_ n2_ n3_; clear hb hbox hg; have hcz28_0 : w27.cell? ⟨gb128, 0, none⟩ = some (.int .i64 0) := (blk_cell BK128.out 0).trans rfl; have hcz28_1 : w27.cell? ⟨gb128, 1, none⟩ = some (.int .i64 0) := (blk_cell BK128.out 1).trans rfl; have hcz28_2 : w27.cell? ⟨gb128, 2, none⟩ = some (.int .i64 0) := (blk_cell BK128.out 2).trans rfl; have hcz28_3 : w27.cell? ⟨gb128, 3, none⟩ = some (.int .i64 0) := (blk_cell BK128.out 3).trans rfl; have hfz28_0 := blk_frozen BK128.out 0; have hfz28_1 := blk_frozen BK128.out 1; have hfz28_2 := blk_frozen BK128.out 2; have hfz28_3 := blk_frozen BK128.out 3) | ((with_reducible refine gate_callee (f := 15) rfl ?_); refine goesL_ (some 17) rfl rfl Try.func15 (by kernel_rfl) rfl #[.agg #[.int .i64 2, .int .i64 258, .int .i64 3, .int .i64 8]] rfl (by (try simp only [List.map_toArray, List.map_cons, List.map_nil]); first | done | rfl | (simp only [List.length_drop, List.length_take]; rfl)) ?_; (with_reducible refine (report_Put.calls k 2 258 3 8 t129 t130 _ A1.out).mono ?_); rintro e w29 ⟨rfl, hb⟩; refine ⟨_, rfl, ?_⟩; have n0_ := Aside0.mk (blk_below (g := gb128) (o := .cells #[.int .i64 2, .int .i64 258, .int .i64 3, .int .i64 8] 23 (0, 0)) (by (with_reducible repeat (first | refine blk_drewN ?_ _ | refine blk_drew ?_ | refine blk_alloc ?_ _)); refine blk_put (cs := #[.int .i64 2, .int .i64 258, .int .i64 3, .int .i64 0]) ?_ 3 _ rfl; (with_reducible repeat (first | refine blk_drewN ?_ _ | refine blk_drew ?_ | refine blk_alloc ?_ _)); refine blk_put (cs := #[.int .i64 2, .int .i64 258, .int .i64 0, .int .i64 0]) ?_ 2 _ rfl; (with_reducible repeat (first | refine blk_drewN ?_ _ | refine blk_drew ?_ | refine blk_alloc ?_ _)); refine blk_put (cs := #[.int .i64 2, .int .i64 0, .int .i64 0, .int .i64 0]) ?_ 1 _ rfl; (with_reducible repeat (first | refine blk_drewN ?_ _ | refine blk_drew ?_ | refine blk_alloc ?_ _)); refine blk_put (cs := #[.int .i64 0, .int .i64 0, .int .i64 0, .int .i64 0]) ?_ 0 _ rfl; (with_reducible repeat (first | refine blk_drewN ?_ _ | refine blk_drew ?_ | refine blk_alloc ?_ _)); exact BK128.out) hb); have n1_ := Aside0.mk (below_step (by repeat (first | (with_reducible first | exact HB.out | apply below_alloc | apply pw_below_drewN | apply below_drew1 | refine below_set ?_ GE128.out) | exact HB.out)) hb); clear BK128; clear HB; have BK128 := n0_; have HB := n1_; clear n0_ n1_; (try clear hb); (try clear hb2); (try clear hk); (try clear hi)) | ((with_reducible refine gate_callee (f := 17) rfl ?_); refine goesL_ (some 22) rfl rfl Try.func17 (by kernel_rfl) rfl #[.string t129] rfl (by (try simp only [List.map_toArray, List.map_cons, List.map_nil]); first | done | rfl | (simp only [List.length_drop, List.length_take]; rfl)) ?_; (with_reducible refine (report_Get.calls k t129 t131 t132 t133 t134 t135 _ A2.out).mono ?_); rintro e w30 ⟨rfl, hb⟩; refine ⟨_, rfl, ?_⟩; have n0_ := Aside0.mk (blk_below (g := gb128) (o := .cells #[.int .i64 2, .int .i64 258, .int .i64 3, .int .i64 8] 23 (0, 0)) (by (with_reducible repeat (first | refine blk_drewN ?_ _ | refine blk_drew ?_ | refine blk_alloc ?_ _)); exact BK128.out) hb); have n1_ := Aside0.mk (below_step (by repeat (first | (with_reducible first | exact HB.out | apply below_alloc | apply pw_below_drewN | apply below_drew1 | refine below_set ?_ GE128.out) | exact HB.out)) hb); clear BK128; clear HB; have BK128 := n0_; have HB := n1_; clear n0_ n1_; (try clear hb); (try clear hb2); (try clear hk); (try clear hi)) | ((with_reducible refine gate_dst (N := 4) rfl ?_); refine box_event ?hg (N := 4) ?hd (cs := #[.int .i64 0, .int .i64 0, .int .i64 0, .int .i64 0]) (t := 23) ?hr ?_; (case hd => rfl); (case hg => rfl); (case hr => first | (go_simp; done) | (go_simp; rfl)); intro gb136 hg w31 hbox hb; have n0_ := Aside0.mk (blk_below (g := gb128) (o := .cells #[.int .i64 2, .int .i64 258, .int .i64 3, .int .i64 8] 23 (0, 0)) (by (with_reducible repeat (first | refine blk_drewN ?_ _ | refine blk_drew ?_ | refine blk_alloc ?_ _)); exact BK128.out) hb); have n1_ := Aside0.mk (below_step (by repeat (first | (with_reducible first | exact HB.out | apply below_alloc | apply pw_below_drewN | apply below_drew1 | refine below_set ?_ GE128.out) | exact HB.out)) hb); have n2_ := Aside0.mk (hbox); have n3_ := Aside0.mk ((by rw [hg]; exact (below_size (by repeat (first | (with_reducible first | exact HB.out | apply below_alloc | apply pw_below_drewN | apply below_drew1 | refine below_set ?_ GE128.out) | exact HB.out))) : w.heap.size ≤ gb136)); have n4_ := Aside0.mk ((by rw [hg]; exact (below_size (by repeat (first | (with_reducible first | exact HB.out | apply below_alloc | apply pw_below_drewN | apply below_drew1 | refine below_set ?_ GE128.out) | exact HB.out))) : w.heap.size ≤ gb136)); have n5_ := Aside0.mk ((by rw [hg]; exact Nat.ne_of_lt (blk_lt (g := gb128) (o := .cells #[.int .i64 2, .int .i64 258, .int .i64 3, .int .i64 8] 23 (0, 0)) (by (with_reducible repeat (first | refine blk_drewN ?_ _ | refine blk_drew ?_ | refine blk_alloc ?_ _)); exact BK128.out)) : gb128 ≠ gb136)); have n6_ := Aside0.mk ((by rw [hg]; exact Nat.ne_of_gt (blk_lt (g := gb128) (o := .cells #[.int .i64 2, .int .i64 258, .int .i64 3, .int .i64 8] 23 (0, 0)) (by (with_reducible repeat (first | refine blk_drewN ?_ _ | refine blk_drew ?_ | refine blk_alloc ?_ _)); exact BK128.out)) : gb136 ≠ gb128)); clear BK128; clear HB; have BK128 := n0_; have HB := n1_; have BK136 := n2_; have GW136 := n3_; have GE136 := n4_; have NB128_136 := n5_; have NB136_128 := n6_; clear n0_ n1_ n2_ n3_ n4_ n5_ n6_; clear hb hbox hg; have hnb32 := NB136_128.out; have hnc32 := NB128_136.out; have hcz33_0 : w31.cell? ⟨gb136, 0, none⟩ = some (.int .i64 0) := (blk_cell BK136.out 0).trans rfl; have hcz33_1 : w31.cell? ⟨gb136, 1, none⟩ = some (.int .i64 0) := (blk_cell BK136.out 1).trans rfl; have hcz33_2 : w31.cell? ⟨gb136, 2, none⟩ = some (.int .i64 0) := (blk_cell BK136.out 2).trans rfl; have hcz33_3 : w31.cell? ⟨gb136, 3, none⟩ = some (.int .i64 0) := (blk_cell BK136.out 3).trans rfl; have hfz33_0 := blk_frozen BK136.out 0; have hfz33_1 := blk_frozen BK136.out 1; have hfz33_2 := blk_frozen BK136.out 2; have hfz33_3 := blk_frozen BK136.out 3) | ((with_reducible refine gate_callee (f := 15) rfl ?_); refine goesL_ (some 27) rfl rfl Try.func15 (by kernel_rfl) rfl #[.agg #[.int .i64 3, .int .i64 0, .int .i64 0, .int .i64 0]] rfl (by (try simp only [List.map_toArray, List.map_cons, List.map_nil]); first | done | rfl | (simp only [List.length_drop, List.length_take]; rfl)) ?_; (with_reducible refine (report_Put.calls k 3 0 0 0 t137 t138 _ A3.out).mono ?_); rintro e w34 ⟨rfl, hb⟩; refine ⟨_, rfl, ?_⟩; have n0_ := Aside0.mk (blk_below (g := gb128) (o := .cells #[.int .i64 2, .int .i64 258, .int .i64 3, .int .i64 8] 23 (0, 0)) (by (with_reducible repeat (first | refine blk_drewN ?_ _ | refine blk_drew ?_ | refine blk_alloc ?_ _)); refine blk_far ?_ NB128_136.out _; (with_reducible repeat (first | refine blk_drewN ?_ _ | refine blk_drew ?_ | refine blk_alloc ?_ _)); refine blk_far ?_ NB128_136.out _; (with_reducible repeat (first | refine blk_drewN ?_ _ | refine blk_drew ?_ | refine blk_alloc ?_ _)); refine blk_far ?_ NB128_136.out _; (with_reducible repeat (first | refine blk_drewN ?_ _ | refine blk_drew ?_ | refine blk_alloc ?_ _)); refine blk_far ?_ NB128_136.out _; (with_reducible repeat (first | refine blk_drewN ?_ _ | refine blk_drew ?_ | refine blk_alloc ?_ _)); exact BK128.out) hb); have n1_ := Aside0.mk (blk_below (g := gb136) (o := .cells #[.int .i64 t131, .int .i64 t132, .int .i64 t133, .int .i64 t134] 23 (0, 0)) (by (with_reducible repeat (first | refine blk_drewN ?_ _ | refine blk_drew ?_ | refine blk_alloc ?_ _)); refine blk_put (cs := #[.int .i64 t131, .int .i64 t132, .int .i64 t133, .int .i64 0]) ?_ 3 _ rfl; (with_reducible repeat (first | refine blk_drewN ?_ _ | refine blk_drew ?_ | refine blk_alloc ?_ _)); refine blk_put (cs := #[.int .i64 t131, .int .i64 t132, .int .i64 0, .int .i64 0]) ?_ 2 _ rfl; (with_reducible repeat (first | refine blk_drewN ?_ _ | refine blk_drew ?_ | refine blk_alloc ?_ _)); refine blk_put (cs := #[.int .i64 t131, .int .i64 0, .int .i64 0, .int .i64 0]) ?_ 1 _ rfl; (with_reducible repeat (first | refine blk_drewN ?_ _ | refine blk_drew ?_ | refine blk_alloc ?_ _)); refine blk_put (cs := #[.int .i64 0, .int .i64 0, .int .i64 0, .int .i64 0]) ?_ 0 _ rfl; (with_reducible repeat (first | refine blk_drewN ?_ _ | refine blk_drew ?_ | refine blk_alloc ?_ _)); exact BK136.out) hb); have n2_ := Aside0.mk (below_step (by repeat (first | (with_reducible first | exact HB.out | apply below_alloc | apply pw_below_drewN | apply below_drew1 | refine below_set ?_ GE128.out | refine below_set ?_ GE136.out) | exact HB.out)) hb); clear BK128; clear BK136; clear HB; have BK128 := n0_; have BK136 := n1_; have HB := n2_; clear n0_ n1_ n2_; (try clear hb); (try clear hb2); (try clear hk); (try clear hi)) | ((with_reducible refine gate_callee (f := 19) rfl ?_); refine goesL_ (some 31) rfl rfl Try.func19 (by kernel_rfl) rfl #[.int .i64 0, .int .i64 65535] rfl (by (try simp only [List.map_toArray, List.map_cons, List.map_nil]); first | done | rfl | (simp only [List.length_drop, List.length_take]; rfl)) ?_; (with_reducible refine (report_Newer.calls 0 65535 true t140 _ A4.out).mono ?_); rintro e w' ⟨rfl, ⟨nd, rfl⟩⟩; refine ⟨_, rfl, ?_⟩) | ((with_reducible refine gate_callee (f := 19) rfl ?_); refine goesL_ (some 35) rfl rfl Try.func19 (by kernel_rfl) rfl #[.int .i64 5, .int .i64 5] rfl (by (try simp only [List.map_toArray, List.map_cons, List.map_nil]); first | done | rfl | (simp only [List.length_drop, List.length_take]; rfl)) ?_; (with_reducible refine (report_Newer.calls 5 5 false t142 _ A5.out).mono ?_); rintro e w' ⟨rfl, ⟨nd, rfl⟩⟩; refine ⟨_, rfl, ?_⟩) | ((with_reducible refine gate_callee (f := 19) rfl ?_); refine goesL_ (some 39) rfl rfl Try.func19 (by kernel_rfl) rfl #[.int .i64 (-1), .int .i64 0] rfl (by (try simp only [List.map_toArray, List.map_cons, List.map_nil]); first | done | rfl | (simp only [List.length_drop, List.length_take]; rfl)) ?_; (with_reducible refine (report_Newer.calls (-1) 0 t143 t144 _ A6.out).mono ?_); rintro e w' ⟨rfl, ⟨nd, rfl⟩⟩; refine ⟨_, rfl, ?_⟩) | (go_at_call 21; (with_reducible refine (wharfagelaw0_Num.calls t130 t145 _ A11.out).mono ?_); rintro e w' ⟨rfl, ⟨nd, rfl⟩⟩; have hcz35_0 : w34.cell? ⟨gb136, 0, none⟩ = some (.int .i64 t131) := (blk_cell BK136.out 0).trans rfl; have hcz35_1 : w34.cell? ⟨gb136, 1, none⟩ = some (.int .i64 t132) := (blk_cell BK136.out 1).trans rfl; have hcz35_2 : w34.cell? ⟨gb136, 2, none⟩ = some (.int .i64 t133) := (blk_cell BK136.out 2).trans rfl; have hcz35_3 : w34.cell? ⟨gb136, 3, none⟩ = some (.int .i64 t134) := (blk_cell BK136.out 3).trans rfl; have hfz35_0 := blk_frozen BK136.out 0; have hfz35_1 := blk_frozen BK136.out 1; have hfz35_2 := blk_frozen BK136.out 2; have hfz35_3 := blk_frozen BK136.out 3; have hcz36_0 : w34.cell? ⟨gb128, 0, none⟩ = some (.int .i64 2) := (blk_cell BK128.out 0).trans rfl; have hcz36_1 : w34.cell? ⟨gb128, 1, none⟩ = some (.int .i64 258) := (blk_cell BK128.out 1).trans rfl; have hcz36_2 : w34.cell? ⟨gb128, 2, none⟩ = some (.int .i64 3) := (blk_cell BK128.out 2).trans rfl; have hcz36_3 : w34.cell? ⟨gb128, 3, none⟩ = some (.int .i64 8) := (blk_cell BK128.out 3).trans rfl; have hfz36_0 := blk_frozen BK128.out 0; have hfz36_1 := blk_frozen BK128.out 1; have hfz36_2 := blk_frozen BK128.out 2; have hfz36_3 := blk_frozen BK128.out 3) | (go_at_call 21; (with_reducible refine (wharfagelaw0_Num.calls t135 t146 _ A14.out).mono ?_); rintro e w' ⟨rfl, ⟨nd, rfl⟩⟩) | (go_at_call 21; (with_reducible refine (wharfagelaw0_Num.calls t138 t147 _ A16.out).mono ?_); rintro e w' ⟨rfl, ⟨nd, rfl⟩⟩) | (go_at_call 21; (with_reducible refine (wharfagelaw0_Num.calls t140 t148 _ A19.out).mono ?_); rintro e w' ⟨rfl, ⟨nd, rfl⟩⟩) | (go_at_call 21; (with_reducible refine (wharfagelaw0_Num.calls t142 t149 _ A22.out).mono ?_); rintro e w' ⟨rfl, ⟨nd, rfl⟩⟩) | (go_at_call 21; (with_reducible refine (wharfagelaw0_Num.calls t144 t150 _ A24.out).mono ?_); rintro e w' ⟨rfl, ⟨nd, rfl⟩⟩) | (go_at_call 22; (with_reducible refine (report_May.calls 2 258 3 8 t151 _ A26.out).mono ?_); rintro e w37 ⟨rfl, hb⟩; have n0_ := Aside0.mk (blk_below (g := gb128) (o := .cells #[.int .i64 2, .int .i64 258, .int .i64 3, .int .i64 8] 23 (0, 0)) (by (with_reducible repeat (first | refine blk_drewN ?_ _ | refine blk_drew ?_ | refine blk_alloc ?_ _)); exact BK128.out) hb); have n1_ := Aside0.mk (blk_below (g := gb136) (o := .cells #[.int .i64 t131, .int .i64 t132, .int .i64 t133, .int .i64 t134] 23 (0, 0)) (by (with_reducible repeat (first | refine blk_drewN ?_ _ | refine blk_drew ?_ | refine blk_alloc ?_ _)); exact BK136.out) hb); have n2_ := Aside0.mk (below_step (by repeat (first | (with_reducible first | exact HB.out | apply below_alloc | apply pw_below_drewN | apply below_drew1 | refine below_set ?_ GE128.out | refine below_set ?_ GE136.out) | exact HB.out)) hb); clear BK128; clear BK136; clear HB; have BK128 := n0_; have BK136 := n1_; have HB := n2_; clear n0_ n1_ n2_; (try clear hb); (try clear hb2); (try clear hk); (try clear hi)))
                            go_ret
                            exact ⟨by first | rfl | (simp [errW_none, errW_some] <;> rfl) | (simp [*, errW_none, errW_some] <;> rfl), by repeat (first | (with_reducible first | exact HB.out | apply below_alloc | apply pw_below_drewN | apply below_drew1 | refine below_set ?_ GE128.out | refine below_set ?_ GE136.out) | exact HB.out)⟩
                          · rw [if_neg c25] at H
                            exact absurd H (by simp)
                        · rw [if_neg c23] at H
                          exact absurd H (by simp)
                    · rw [if_neg c20] at H
                      exact absurd H (by simp)
                  · replace c18 := Bool.eq_false_iff.mpr c18
                    subst c18
                    have H1 : (none) = some r := by rw [if_neg (show ¬ (false = true) by decide)] at H; exact H
                    clear H
                    have H := H1
                    clear H1
                    exact absurd H (by simp)
                · rw [if_neg c17] at H
                  exact absurd H (by simp)
              · rw [if_neg c15] at H
                exact absurd H (by simp)
            · rw [if_neg c13] at H
              exact absurd H (by simp)
          · rw [if_neg c12] at H
            exact absurd H (by simp)
        · rw [if_neg c10] at H
          exact absurd H (by simp)
      · rw [if_neg c9] at H
        exact absurd H (by simp)
    · rw [if_neg c8] at H
      exact absurd H (by simp)
  · rw [if_neg c7] at H
    exact absurd H (by simp)

end Go.Proofs.Ytnocfhnandedoaa.PRForm
