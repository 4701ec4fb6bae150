/- Contracts: what calls of these functions of the program do, each as a plain function; written by a program of this session. -/
import Derived.Test.YtnocfhnandedoabPVRowx0
import Derived.Test.YtnocfhnandedoabPVRowx3
import Derived.Test.YtnocfhnandedoabPVRowx5
import Derived.Test.YtnocfhnandedoabPVRowx7
import Derived.Test.YtnocfhnandedoabPVRowx8
import Derived.Test.YtnocfhnandedoabPVRowx9
import Derived.Test.YtnocfhnandedoabPVRowx10
namespace Go.Proofs.Ytnocfhnandedoab.PVRow
open Go.RowKit Go.Proofs.YtnocfhnandedoabW.PrintWords Go.Proofs.YtnocfhnandedoabW.PrintLast Go.Proofs.YtnocfhnandedoabW.PrintMore
attribute [local go_sem] max2_int min2_int max_two min_two max_three min_three max_four min_four   -- for this text's walks alone
set_option linter.unusedVariables false
set_option linter.unusedSimpArgs false

/-! ### wharfagelaw12_awake: function 50 -/
def wharfagelaw12_awake.f (k : Nat)  : Option (Bool) := (view_New.f).bind fun t122 => ((view_Take.f t122 1 5 2 5 7).bind fun bt125 => ((view_Take.f bt125.1 1 5 0 0 8).bind fun bt130 => ((view_Spare.f k bt125.1 1 16).bind fun bt135 => ((view_Spare.f k bt125.1 1 17).bind fun bt138 => ((view_Take.f ([] : List (S85)) 0 0 0 0 0).bind fun bt141 => (if (t122.length : Int) = 3 then (if bt125.2.1 = true then ((wharfagelaw0_Num.f bt125.2.2).bind fun t146 => (if t146 = 0 then (if bt130.2.1 = true then (none) else ((wharfagelaw0_SameSeens.f k bt125.1 bt130.1).bind fun t147 => (if t147 = true then ((wharfagelaw0_Num.f bt130.2.2).bind fun t148 => (if t148 = 0 then (if bt135.1 = 3 then (if bt135.2.1 = true then ((wharfagelaw0_Num.f bt135.2.2).bind fun t149 => (if t149 = 0 then (if bt138.2.1 = true then (none) else ((wharfagelaw0_Num.f bt138.2.2).bind fun t150 => (if t150 = 0 then ((wharfagelaw0_Num.f bt141.2.2).bind fun t151 => (if t151 = 1200 then ((view_May.f k bt125.1).bind fun t152 => (if t152 = true then ((view_May.f k ([] : List (S85))).bind fun t153 => (some (!t153))) else (none))) else (none))) else (none)))) else (none))) else (none)) else (none)) else (none))) else (none)))) else (none))) else (none)) else (none)))))))
theorem wharfagelaw12_awake.mono : ∀ k, LeO (wharfagelaw12_awake.f k ) (wharfagelaw12_awake.f (k + 1) ) := by
  intro  k
  unfold wharfagelaw12_awake.f
  repeat' first
      | (with_reducible exact view_May.mono _ _)
      | (with_reducible exact view_Spare.mono _ _ _ _)
      | (with_reducible exact wharfagelaw0_SameSeens.mono _ _ _)
      | (with_reducible exact LeO.refl _)
      | (with_reducible exact LeO.none _)
      | (with_reducible refine LeO.ite ?_ ?_)
      | (with_reducible refine LeO.bind ?_ (fun _ => ?_))
      | exact view_May.mono _ _
      | exact view_Spare.mono _ _ _ _
      | exact wharfagelaw0_SameSeens.mono _ _ _
      | exact LeO.none _
      | refine LeO.ite ?_ ?_
      | refine LeO.bind ?_ (fun _ => ?_)
set_option maxHeartbeats 8000000 in
set_option maxRecDepth 100000 in
theorem wharfagelaw12_awake.calls (k : Nat)  (r : Bool) (w : World) (h : wharfagelaw12_awake.f k  = some r) :
    Calls Try.prog 50 #[] w fun e w' => e = .returned (.bool r) ∧ Below w.heap.size w w' := by
  have hu68 := Try.underlying68
  have HB := Aside0.mk (Below.refl w.heap.size w)
  have H : ((view_New.f).bind fun t122 => ((view_Take.f t122 1 5 2 5 7).bind fun bt125 => ((view_Take.f bt125.1 1 5 0 0 8).bind fun bt130 => ((view_Spare.f k bt125.1 1 16).bind fun bt135 => ((view_Spare.f k bt125.1 1 17).bind fun bt138 => ((view_Take.f ([] : List (S85)) 0 0 0 0 0).bind fun bt141 => (if (t122.length : Int) = 3 then (if bt125.2.1 = true then ((wharfagelaw0_Num.f bt125.2.2).bind fun t146 => (if t146 = 0 then (if bt130.2.1 = true then (none) else ((wharfagelaw0_SameSeens.f k bt125.1 bt130.1).bind fun t147 => (if t147 = true then ((wharfagelaw0_Num.f bt130.2.2).bind fun t148 => (if t148 = 0 then (if bt135.1 = 3 then (if bt135.2.1 = true then ((wharfagelaw0_Num.f bt135.2.2).bind fun t149 => (if t149 = 0 then (if bt138.2.1 = true then (none) else ((wharfagelaw0_Num.f bt138.2.2).bind fun t150 => (if t150 = 0 then ((wharfagelaw0_Num.f bt141.2.2).bind fun t151 => (if t151 = 1200 then ((view_May.f k bt125.1).bind fun t152 => (if t152 = true then ((view_May.f k ([] : List (S85))).bind fun t153 => (some (!t153))) else (none))) else (none))) else (none)))) else (none))) else (none)) else (none)) else (none))) else (none)))) else (none))) else (none)) else (none)))))))) = some r := h
  clear h
  replace H := Option.bind_eq_some_iff.mp H
  obtain ⟨t122, A10, H⟩ := H
  replace H : ((view_Take.f t122 1 5 2 5 7).bind fun bt125 => ((view_Take.f bt125.1 1 5 0 0 8).bind fun bt130 => ((view_Spare.f k bt125.1 1 16).bind fun bt135 => ((view_Spare.f k bt125.1 1 17).bind fun bt138 => ((view_Take.f ([] : List (S85)) 0 0 0 0 0).bind fun bt141 => (if (t122.length : Int) = 3 then (if bt125.2.1 = true then ((wharfagelaw0_Num.f bt125.2.2).bind fun t146 => (if t146 = 0 then (if bt130.2.1 = true then (none) else ((wharfagelaw0_SameSeens.f k bt125.1 bt130.1).bind fun t147 => (if t147 = true then ((wharfagelaw0_Num.f bt130.2.2).bind fun t148 => (if t148 = 0 then (if bt135.1 = 3 then (if bt135.2.1 = true then ((wharfagelaw0_Num.f bt135.2.2).bind fun t149 => (if t149 = 0 then (if bt138.2.1 = true then (none) else ((wharfagelaw0_Num.f bt138.2.2).bind fun t150 => (if t150 = 0 then ((wharfagelaw0_Num.f bt141.2.2).bind fun t151 => (if t151 = 1200 then ((view_May.f k bt125.1).bind fun t152 => (if t152 = true then ((view_May.f k ([] : List (S85))).bind fun t153 => (some (!t153))) else (none))) else (none))) else (none)))) else (none))) else (none)) else (none)) else (none))) else (none)))) else (none))) else (none)) else (none))))))) = some r := H
  have A1 := Aside0.mk A10
  clear A10
  replace H := Option.bind_eq_some_iff.mp H
  obtain ⟨⟨t125, t128, t129⟩, A20, H⟩ := H
  replace H : ((view_Take.f t125 1 5 0 0 8).bind fun bt130 => ((view_Spare.f k t125 1 16).bind fun bt135 => ((view_Spare.f k t125 1 17).bind fun bt138 => ((view_Take.f ([] : List (S85)) 0 0 0 0 0).bind fun bt141 => (if (t122.length : Int) = 3 then (if t128 = true then ((wharfagelaw0_Num.f t129).bind fun t146 => (if t146 = 0 then (if bt130.2.1 = true then (none) else ((wharfagelaw0_SameSeens.f k t125 bt130.1).bind fun t147 => (if t147 = true then ((wharfagelaw0_Num.f bt130.2.2).bind fun t148 => (if t148 = 0 then (if bt135.1 = 3 then (if bt135.2.1 = true then ((wharfagelaw0_Num.f bt135.2.2).bind fun t149 => (if t149 = 0 then (if bt138.2.1 = true then (none) else ((wharfagelaw0_Num.f bt138.2.2).bind fun t150 => (if t150 = 0 then ((wharfagelaw0_Num.f bt141.2.2).bind fun t151 => (if t151 = 1200 then ((view_May.f k t125).bind fun t152 => (if t152 = true then ((view_May.f k ([] : List (S85))).bind fun t153 => (some (!t153))) else (none))) else (none))) else (none)))) else (none))) else (none)) else (none)) else (none))) else (none)))) else (none))) else (none)) else (none)))))) = some r := H
  have A2 := Aside0.mk A20
  clear A20
  replace H := Option.bind_eq_some_iff.mp H
  obtain ⟨⟨t130, t133, t134⟩, A30, H⟩ := H
  replace H : ((view_Spare.f k t125 1 16).bind fun bt135 => ((view_Spare.f k t125 1 17).bind fun bt138 => ((view_Take.f ([] : List (S85)) 0 0 0 0 0).bind fun bt141 => (if (t122.length : Int) = 3 then (if t128 = true then ((wharfagelaw0_Num.f t129).bind fun t146 => (if t146 = 0 then (if t133 = true then (none) else ((wharfagelaw0_SameSeens.f k t125 t130).bind fun t147 => (if t147 = true then ((wharfagelaw0_Num.f t134).bind fun t148 => (if t148 = 0 then (if bt135.1 = 3 then (if bt135.2.1 = true then ((wharfagelaw0_Num.f bt135.2.2).bind fun t149 => (if t149 = 0 then (if bt138.2.1 = true then (none) else ((wharfagelaw0_Num.f bt138.2.2).bind fun t150 => (if t150 = 0 then ((wharfagelaw0_Num.f bt141.2.2).bind fun t151 => (if t151 = 1200 then ((view_May.f k t125).bind fun t152 => (if t152 = true then ((view_May.f k ([] : List (S85))).bind fun t153 => (some (!t153))) else (none))) else (none))) else (none)))) else (none))) else (none)) else (none)) else (none))) else (none)))) else (none))) else (none)) else (none))))) = some r := H
  have A3 := Aside0.mk A30
  clear A30
  replace H := Option.bind_eq_some_iff.mp H
  obtain ⟨⟨t135, t136, t137⟩, A40, H⟩ := H
  replace H : ((view_Spare.f k t125 1 17).bind fun bt138 => ((view_Take.f ([] : List (S85)) 0 0 0 0 0).bind fun bt141 => (if (t122.length : Int) = 3 then (if t128 = true then ((wharfagelaw0_Num.f t129).bind fun t146 => (if t146 = 0 then (if t133 = true then (none) else ((wharfagelaw0_SameSeens.f k t125 t130).bind fun t147 => (if t147 = true then ((wharfagelaw0_Num.f t134).bind fun t148 => (if t148 = 0 then (if t135 = 3 then (if t136 = true then ((wharfagelaw0_Num.f t137).bind fun t149 => (if t149 = 0 then (if bt138.2.1 = true then (none) else ((wharfagelaw0_Num.f bt138.2.2).bind fun t150 => (if t150 = 0 then ((wharfagelaw0_Num.f bt141.2.2).bind fun t151 => (if t151 = 1200 then ((view_May.f k t125).bind fun t152 => (if t152 = true then ((view_May.f k ([] : List (S85))).bind fun t153 => (some (!t153))) else (none))) else (none))) else (none)))) else (none))) else (none)) else (none)) else (none))) else (none)))) else (none))) else (none)) else (none)))) = some r := H
  have A4 := Aside0.mk A40
  clear A40
  replace H := Option.bind_eq_some_iff.mp H
  obtain ⟨⟨t138, t139, t140⟩, A50, H⟩ := H
  replace H : ((view_Take.f ([] : List (S85)) 0 0 0 0 0).bind fun bt141 => (if (t122.length : Int) = 3 then (if t128 = true then ((wharfagelaw0_Num.f t129).bind fun t146 => (if t146 = 0 then (if t133 = true then (none) else ((wharfagelaw0_SameSeens.f k t125 t130).bind fun t147 => (if t147 = true then ((wharfagelaw0_Num.f t134).bind fun t148 => (if t148 = 0 then (if t135 = 3 then (if t136 = true then ((wharfagelaw0_Num.f t137).bind fun t149 => (if t149 = 0 then (if t139 = true then (none) else ((wharfagelaw0_Num.f t140).bind fun t150 => (if t150 = 0 then ((wharfagelaw0_Num.f bt141.2.2).bind fun t151 => (if t151 = 1200 then ((view_May.f k t125).bind fun t152 => (if t152 = true then ((view_May.f k ([] : List (S85))).bind fun t153 => (some (!t153))) else (none))) else (none))) else (none)))) else (none))) else (none)) else (none)) else (none))) else (none)))) else (none))) else (none)) else (none))) = some r := H
  have A5 := Aside0.mk A50
  clear A50
  replace H := Option.bind_eq_some_iff.mp H
  obtain ⟨⟨t141, t144, t145⟩, A60, H⟩ := H
  replace H : (if (t122.length : Int) = 3 then (if t128 = true then ((wharfagelaw0_Num.f t129).bind fun t146 => (if t146 = 0 then (if t133 = true then (none) else ((wharfagelaw0_SameSeens.f k t125 t130).bind fun t147 => (if t147 = true then ((wharfagelaw0_Num.f t134).bind fun t148 => (if t148 = 0 then (if t135 = 3 then (if t136 = true then ((wharfagelaw0_Num.f t137).bind fun t149 => (if t149 = 0 then (if t139 = true then (none) else ((wharfagelaw0_Num.f t140).bind fun t150 => (if t150 = 0 then ((wharfagelaw0_Num.f t145).bind fun t151 => (if t151 = 1200 then ((view_May.f k t125).bind fun t152 => (if t152 = true then ((view_May.f k ([] : List (S85))).bind fun t153 => (some (!t153))) else (none))) else (none))) else (none)))) else (none))) else (none)) else (none)) else (none))) else (none)))) else (none))) else (none)) else (none)) = some r := H
  have A6 := Aside0.mk A60
  clear A60
  by_cases c7 : (t122.length : Int) = 3
  · rw [if_pos c7] at H
    have c7b0 : ((t122.length : Int) == 3) = true := beq_iff_eq.mpr c7
    have c7b1 : ((t122.length : Int) != 3) = false := bne_eq_false_iff_eq.mpr c7
    clear c7
    by_cases c8 : t128 = true
    · subst c8
      have H1 : ((wharfagelaw0_Num.f t129).bind fun t146 => (if t146 = 0 then (if t133 = true then (none) else ((wharfagelaw0_SameSeens.f k t125 t130).bind fun t147 => (if t147 = true then ((wharfagelaw0_Num.f t134).bind fun t148 => (if t148 = 0 then (if t135 = 3 then (if t136 = true then ((wharfagelaw0_Num.f t137).bind fun t149 => (if t149 = 0 then (if t139 = true then (none) else ((wharfagelaw0_Num.f t140).bind fun t150 => (if t150 = 0 then ((wharfagelaw0_Num.f t145).bind fun t151 => (if t151 = 1200 then ((view_May.f k t125).bind fun t152 => (if t152 = true then ((view_May.f k ([] : List (S85))).bind fun t153 => (some (!t153))) else (none))) else (none))) else (none)))) else (none))) else (none)) else (none)) else (none))) else (none)))) else (none))) = some r := by rw [if_pos rfl] at H; exact H
      clear H
      have H := H1
      clear H1
      replace H := Option.bind_eq_some_iff.mp H
      obtain ⟨t146, A90, H⟩ := H
      replace H : (if t146 = 0 then (if t133 = true then (none) else ((wharfagelaw0_SameSeens.f k t125 t130).bind fun t147 => (if t147 = true then ((wharfagelaw0_Num.f t134).bind fun t148 => (if t148 = 0 then (if t135 = 3 then (if t136 = true then ((wharfagelaw0_Num.f t137).bind fun t149 => (if t149 = 0 then (if t139 = true then (none) else ((wharfagelaw0_Num.f t140).bind fun t150 => (if t150 = 0 then ((wharfagelaw0_Num.f t145).bind fun t151 => (if t151 = 1200 then ((view_May.f k t125).bind fun t152 => (if t152 = true then ((view_May.f k ([] : List (S85))).bind fun t153 => (some (!t153))) else (none))) else (none))) else (none)))) else (none))) else (none)) else (none)) else (none))) else (none)))) else (none)) = some r := H
      have A9 := Aside0.mk A90
      clear A90
      by_cases c10 : t146 = 0
      · rw [if_pos c10] at H
        have c10b0 : (t146 == 0) = true := beq_iff_eq.mpr c10
        have c10b1 : (t146 != 0) = false := bne_eq_false_iff_eq.mpr c10
        clear c10
        by_cases c11 : t133 = true
        · subst c11
          have H1 : (none) = some r := by rw [if_pos rfl] at H; exact H
          clear H
          have H := H1
          clear H1
          exact absurd H (by simp)
        · replace c11 := Bool.eq_false_iff.mpr c11
          subst c11
          have H1 : ((wharfagelaw0_SameSeens.f k t125 t130).bind fun t147 => (if t147 = true then ((wharfagelaw0_Num.f t134).bind fun t148 => (if t148 = 0 then (if t135 = 3 then (if t136 = true then ((wharfagelaw0_Num.f t137).bind fun t149 => (if t149 = 0 then (if t139 = true then (none) else ((wharfagelaw0_Num.f t140).bind fun t150 => (if t150 = 0 then ((wharfagelaw0_Num.f t145).bind fun t151 => (if t151 = 1200 then ((view_May.f k t125).bind fun t152 => (if t152 = true then ((view_May.f k ([] : List (S85))).bind fun t153 => (some (!t153))) else (none))) else (none))) else (none)))) else (none))) else (none)) else (none)) else (none))) else (none))) = some r := by rw [if_neg (show ¬ (false = true) by decide)] at H; exact H
          clear H
          have H := H1
          clear H1
          replace H := Option.bind_eq_some_iff.mp H
          obtain ⟨t147, A120, H⟩ := H
          replace H : (if t147 = true then ((wharfagelaw0_Num.f t134).bind fun t148 => (if t148 = 0 then (if t135 = 3 then (if t136 = true then ((wharfagelaw0_Num.f t137).bind fun t149 => (if t149 = 0 then (if t139 = true then (none) else ((wharfagelaw0_Num.f t140).bind fun t150 => (if t150 = 0 then ((wharfagelaw0_Num.f t145).bind fun t151 => (if t151 = 1200 then ((view_May.f k t125).bind fun t152 => (if t152 = true then ((view_May.f k ([] : List (S85))).bind fun t153 => (some (!t153))) else (none))) else (none))) else (none)))) else (none))) else (none)) else (none)) else (none))) else (none)) = some r := H
          have A12 := Aside0.mk A120
          clear A120
          by_cases c13 : t147 = true
          · subst c13
            have H1 : ((wharfagelaw0_Num.f t134).bind fun t148 => (if t148 = 0 then (if t135 = 3 then (if t136 = true then ((wharfagelaw0_Num.f t137).bind fun t149 => (if t149 = 0 then (if t139 = true then (none) else ((wharfagelaw0_Num.f t140).bind fun t150 => (if t150 = 0 then ((wharfagelaw0_Num.f t145).bind fun t151 => (if t151 = 1200 then ((view_May.f k t125).bind fun t152 => (if t152 = true then ((view_May.f k ([] : List (S85))).bind fun t153 => (some (!t153))) else (none))) else (none))) else (none)))) else (none))) else (none)) else (none)) else (none))) = some r := by rw [if_pos rfl] at H; exact H
            clear H
            have H := H1
            clear H1
            replace H := Option.bind_eq_some_iff.mp H
            obtain ⟨t148, A140, H⟩ := H
            replace H : (if t148 = 0 then (if t135 = 3 then (if t136 = true then ((wharfagelaw0_Num.f t137).bind fun t149 => (if t149 = 0 then (if t139 = true then (none) else ((wharfagelaw0_Num.f t140).bind fun t150 => (if t150 = 0 then ((wharfagelaw0_Num.f t145).bind fun t151 => (if t151 = 1200 then ((view_May.f k t125).bind fun t152 => (if t152 = true then ((view_May.f k ([] : List (S85))).bind fun t153 => (some (!t153))) else (none))) else (none))) else (none)))) else (none))) else (none)) else (none)) else (none)) = some r := H
            have A14 := Aside0.mk A140
            clear A140
            by_cases c15 : t148 = 0
            · rw [if_pos c15] at H
              have c15b0 : (t148 == 0) = true := beq_iff_eq.mpr c15
              have c15b1 : (t148 != 0) = false := bne_eq_false_iff_eq.mpr c15
              clear c15
              by_cases c16 : t135 = 3
              · rw [if_pos c16] at H
                have c16b0 : (t135 == 3) = true := beq_iff_eq.mpr c16
                have c16b1 : (t135 != 3) = false := bne_eq_false_iff_eq.mpr c16
                clear c16
                by_cases c17 : t136 = true
                · subst c17
                  have H1 : ((wharfagelaw0_Num.f t137).bind fun t149 => (if t149 = 0 then (if t139 = true then (none) else ((wharfagelaw0_Num.f t140).bind fun t150 => (if t150 = 0 then ((wharfagelaw0_Num.f t145).bind fun t151 => (if t151 = 1200 then ((view_May.f k t125).bind fun t152 => (if t152 = true then ((view_May.f k ([] : List (S85))).bind fun t153 => (some (!t153))) else (none))) else (none))) else (none)))) else (none))) = some r := by rw [if_pos rfl] at H; exact H
                  clear H
                  have H := H1
                  clear H1
                  replace H := Option.bind_eq_some_iff.mp H
                  obtain ⟨t149, A180, H⟩ := H
                  replace H : (if t149 = 0 then (if t139 = true then (none) else ((wharfagelaw0_Num.f t140).bind fun t150 => (if t150 = 0 then ((wharfagelaw0_Num.f t145).bind fun t151 => (if t151 = 1200 then ((view_May.f k t125).bind fun t152 => (if t152 = true then ((view_May.f k ([] : List (S85))).bind fun t153 => (some (!t153))) else (none))) else (none))) else (none)))) else (none)) = some r := H
                  have A18 := Aside0.mk A180
                  clear A180
                  by_cases c19 : t149 = 0
                  · rw [if_pos c19] at H
                    have c19b0 : (t149 == 0) = true := beq_iff_eq.mpr c19
                    have c19b1 : (t149 != 0) = false := bne_eq_false_iff_eq.mpr c19
                    clear c19
                    by_cases c20 : t139 = true
                    · subst c20
                      have H1 : (none) = some r := by rw [if_pos rfl] at H; exact H
                      clear H
                      have H := H1
                      clear H1
                      exact absurd H (by simp)
                    · replace c20 := Bool.eq_false_iff.mpr c20
                      subst c20
                      have H1 : ((wharfagelaw0_Num.f t140).bind fun t150 => (if t150 = 0 then ((wharfagelaw0_Num.f t145).bind fun t151 => (if t151 = 1200 then ((view_May.f k t125).bind fun t152 => (if t152 = true then ((view_May.f k ([] : List (S85))).bind fun t153 => (some (!t153))) else (none))) else (none))) else (none))) = some r := by rw [if_neg (show ¬ (false = true) by decide)] at H; exact H
                      clear H
                      have H := H1
                      clear H1
                      replace H := Option.bind_eq_some_iff.mp H
                      obtain ⟨t150, A210, H⟩ := H
                      replace H : (if t150 = 0 then ((wharfagelaw0_Num.f t145).bind fun t151 => (if t151 = 1200 then ((view_May.f k t125).bind fun t152 => (if t152 = true then ((view_May.f k ([] : List (S85))).bind fun t153 => (some (!t153))) else (none))) else (none))) else (none)) = some r := H
                      have A21 := Aside0.mk A210
                      clear A210
                      by_cases c22 : t150 = 0
                      · rw [if_pos c22] at H
                        have c22b0 : (t150 == 0) = true := beq_iff_eq.mpr c22
                        have c22b1 : (t150 != 0) = false := bne_eq_false_iff_eq.mpr c22
                        clear c22
                        replace H := Option.bind_eq_some_iff.mp H
                        obtain ⟨t151, A230, H⟩ := H
                        replace H : (if t151 = 1200 then ((view_May.f k t125).bind fun t152 => (if t152 = true then ((view_May.f k ([] : List (S85))).bind fun t153 => (some (!t153))) else (none))) else (none)) = some r := H
                        have A23 := Aside0.mk A230
                        clear A230
                        by_cases c24 : t151 = 1200
                        · rw [if_pos c24] at H
                          have c24b0 : (t151 == 1200) = true := beq_iff_eq.mpr c24
                          have c24b1 : (t151 != 1200) = false := bne_eq_false_iff_eq.mpr c24
                          clear c24
                          replace H := Option.bind_eq_some_iff.mp H
                          obtain ⟨t152, A250, H⟩ := H
                          replace H : (if t152 = true then ((view_May.f k ([] : List (S85))).bind fun t153 => (some (!t153))) else (none)) = some r := H
                          have A25 := Aside0.mk A250
                          clear A250
                          by_cases c26 : t152 = true
                          · subst c26
                            have H1 : ((view_May.f k ([] : List (S85))).bind fun t153 => (some (!t153))) = some r := by rw [if_pos rfl] at H; exact H
                            clear H
                            have H := H1
                            clear H1
                            replace H := Option.bind_eq_some_iff.mp H
                            obtain ⟨t153, A270, H⟩ := H
                            replace H : (some (!t153)) = some r := H
                            have A27 := Aside0.mk A270
                            clear A270
                            obtain rfl := Option.some.inj H
                            go_enter Try.func50, Try.ntmps50
                            go_wp2_with (first | ((with_reducible refine gate_callee (f := 46) rfl ?_); refine goesL_ (some 17) rfl rfl Try.func46 (by kernel_rfl) rfl #[] rfl (by (try simp only [List.map_toArray, List.map_cons, List.map_nil]); first | done | rfl | (simp only [List.length_drop, List.length_take]; rfl)) ?_; (with_reducible refine (view_New.calls  t122 _ A1.out).mono ?_); rintro e w28 ⟨v123, rfl, ho0, hb⟩; refine ⟨_, rfl, ?_⟩; have n0_ := Aside0.mk (Kd.R_lower ho0 (below_size (by repeat (first | (with_reducible first | exact HB.out | apply below_alloc | apply pw_below_drewN | apply below_drew1) | exact HB.out)))); have n1_ := Aside0.mk (below_step (by repeat (first | (with_reducible first | exact HB.out | apply below_alloc | apply pw_below_drewN | apply below_drew1) | exact HB.out)) hb); clear HB; have HO124 := n0_; have HB := n1_; clear n0_ n1_; (try clear hb); (try clear hb2); (try clear hk); (try clear hi); (try clear ho0); obtain ⟨Ao29, co29, eo29⟩ := Kd.R_slice HO124.out; subst eo29) | ((with_reducible refine gate_callee (f := 39) rfl ?_); refine goesL_ (some 21) rfl rfl Try.func39 (by kernel_rfl) rfl #[.slice Ao29 t122.length co29, .agg #[.int .i64 1, .int .i64 5, .int .i64 2, .int .i64 5], .int .i64 7] rfl (by (try simp only [List.map_toArray, List.map_cons, List.map_nil]); first | done | rfl | (simp only [List.length_drop, List.length_take]; rfl)) ?_; (with_reducible refine (view_Take.calls _ _ t122 1 5 2 5 7 t125 true t129 _ ?side1 ?side2 A2.out).mono ?_); (case side1 => repeat (first | exact (Kd.R_reads' HO124.out).2.2 | (with_reducible refine Kd.C_alloc ?_ _) | (with_reducible refine Kd.C_drewN ?_ _) | (with_reducible refine Kd.C_drew ?_))); (case side2 => exact (Kd.R_reads' HO124.out).2.1); rintro e w30 ⟨v126, rfl, ho0, hb⟩; refine ⟨_, rfl, ?_⟩; have n0_ := Aside0.mk (Kd.R_elder' (by (with_reducible repeat (first | apply Kd.R_alloc | apply Kd.R_drewN | apply Kd.R_drew)); exact HO124.out) (Kd.R_base ho0) hb); have n1_ := Aside0.mk (Kd.R_lower (Kd.R_new' ho0 (Kd.R_lt (by (with_reducible repeat (first | apply Kd.R_alloc | apply Kd.R_drewN | apply Kd.R_drew)); exact HO124.out))) (below_size (by repeat (first | (with_reducible first | exact HB.out | apply below_alloc | apply pw_below_drewN | apply below_drew1) | exact HB.out)))); have n2_ := Aside0.mk (below_step (by repeat (first | (with_reducible first | exact HB.out | apply below_alloc | apply pw_below_drewN | apply below_drew1) | exact HB.out)) hb); clear HO124; clear HB; have HO124 := n0_; have HO127 := n1_; have HB := n2_; clear n0_ n1_ n2_; (try clear hb); (try clear hb2); (try clear hk); (try clear hi); (try clear ho0); obtain ⟨Ao31, co31, eo31⟩ := Kd.R_slice HO127.out; subst eo31) | ((with_reducible refine gate_callee (f := 39) rfl ?_); refine goesL_ (some 28) rfl rfl Try.func39 (by kernel_rfl) rfl #[.slice Ao31 t125.length co31, .agg #[.int .i64 1, .int .i64 5, .int .i64 0, .int .i64 0], .int .i64 8] rfl (by (try simp only [List.map_toArray, List.map_cons, List.map_nil]); first | done | rfl | (simp only [List.length_drop, List.length_take]; rfl)) ?_; (with_reducible refine (view_Take.calls _ _ t125 1 5 0 0 8 t130 false t134 _ ?side1 ?side2 A3.out).mono ?_); (case side1 => repeat (first | exact (Kd.R_reads' HO127.out).2.2 | (with_reducible refine Kd.C_alloc ?_ _) | (with_reducible refine Kd.C_drewN ?_ _) | (with_reducible refine Kd.C_drew ?_))); (case side2 => exact (Kd.R_reads' HO127.out).2.1); rintro e w32 ⟨v131, rfl, ho0, hb⟩; refine ⟨_, rfl, ?_⟩; have n0_ := Aside0.mk (Kd.R_elder' (by (with_reducible repeat (first | apply Kd.R_alloc | apply Kd.R_drewN | apply Kd.R_drew)); exact HO124.out) (Kd.R_base ho0) hb); have n1_ := Aside0.mk (Kd.R_elder' (by (with_reducible repeat (first | apply Kd.R_alloc | apply Kd.R_drewN | apply Kd.R_drew)); exact HO127.out) (Kd.R_base ho0) hb); have n2_ := Aside0.mk (Kd.R_lower (Kd.R_new' (Kd.R_new' ho0 (Kd.R_lt (by (with_reducible repeat (first | apply Kd.R_alloc | apply Kd.R_drewN | apply Kd.R_drew)); exact HO124.out))) (Kd.R_lt (by (with_reducible repeat (first | apply Kd.R_alloc | apply Kd.R_drewN | apply Kd.R_drew)); exact HO127.out))) (below_size (by repeat (first | (with_reducible first | exact HB.out | apply below_alloc | apply pw_below_drewN | apply below_drew1) | exact HB.out)))); have n3_ := Aside0.mk (below_step (by repeat (first | (with_reducible first | exact HB.out | apply below_alloc | apply pw_below_drewN | apply below_drew1) | exact HB.out)) hb); clear HO124; clear HO127; clear HB; have HO124 := n0_; have HO127 := n1_; have HO132 := n2_; have HB := n3_; clear n0_ n1_ n2_ n3_; (try clear hb); (try clear hb2); (try clear hk); (try clear hi); (try clear ho0)) | ((with_reducible refine gate_callee (f := 41) rfl ?_); refine goesL_ (some 34) rfl rfl Try.func41 (by kernel_rfl) rfl #[.slice Ao31 t125.length co31, .int .i64 1, .int .i64 16] rfl (by (try simp only [List.map_toArray, List.map_cons, List.map_nil]); first | done | rfl | (simp only [List.length_drop, List.length_take]; rfl)) ?_; (with_reducible refine (view_Spare.calls k _ _ t125 1 16 t135 true t137 _ ?side1 ?side2 A4.out).mono ?_); (case side1 => repeat (first | exact (Kd.R_reads' HO127.out).2.2 | (with_reducible refine Kd.C_alloc ?_ _) | (with_reducible refine Kd.C_drewN ?_ _) | (with_reducible refine Kd.C_drew ?_))); (case side2 => exact (Kd.R_reads' HO127.out).2.1); rintro e w33 ⟨rfl, hb⟩; refine ⟨_, rfl, ?_⟩; have n0_ := Aside0.mk (Kd.R_below (by (with_reducible repeat (first | apply Kd.R_alloc | apply Kd.R_drewN | apply Kd.R_drew)); exact HO124.out) hb); have n1_ := Aside0.mk (Kd.R_below (by (with_reducible repeat (first | apply Kd.R_alloc | apply Kd.R_drewN | apply Kd.R_drew)); exact HO127.out) hb); have n2_ := Aside0.mk (Kd.R_below (by (with_reducible repeat (first | apply Kd.R_alloc | apply Kd.R_drewN | apply Kd.R_drew)); exact HO132.out) hb); have n3_ := Aside0.mk (below_step (by repeat (first | (with_reducible first | exact HB.out | apply below_alloc | apply pw_below_drewN | apply below_drew1) | exact HB.out)) hb); clear HO124; clear HO127; clear HO132; clear HB; have HO124 := n0_; have HO127 := n1_; have HO132 := n2_; have HB := n3_; clear n0_ n1_ n2_ n3_; (try clear hb); (try clear hb2); (try clear hk); (try clear hi)) | ((with_reducible refine gate_callee (f := 41) rfl ?_); refine goesL_ (some 40) rfl rfl Try.func41 (by kernel_rfl) rfl #[.slice Ao31 t125.length co31, .int .i64 1, .int .i64 17] rfl (by (try simp only [List.map_toArray, List.map_cons, List.map_nil]); first | done | rfl | (simp only [List.length_drop, List.length_take]; rfl)) ?_; (with_reducible refine (view_Spare.calls k _ _ t125 1 17 t138 false t140 _ ?side1 ?side2 A5.out).mono ?_); (case side1 => repeat (first | exact (Kd.R_reads' HO127.out).2.2 | (with_reducible refine Kd.C_alloc ?_ _) | (with_reducible refine Kd.C_drewN ?_ _) | (with_reducible refine Kd.C_drew ?_))); (case side2 => exact (Kd.R_reads' HO127.out).2.1); rintro e w34 ⟨rfl, hb⟩; refine ⟨_, rfl, ?_⟩; have n0_ := Aside0.mk (Kd.R_below (by (with_reducible repeat (first | apply Kd.R_alloc | apply Kd.R_drewN | apply Kd.R_drew)); exact HO124.out) hb); have n1_ := Aside0.mk (Kd.R_below (by (with_reducible repeat (first | apply Kd.R_alloc | apply Kd.R_drewN | apply Kd.R_drew)); exact HO127.out) hb); have n2_ := Aside0.mk (Kd.R_below (by (with_reducible repeat (first | apply Kd.R_alloc | apply Kd.R_drewN | apply Kd.R_drew)); exact HO132.out) hb); have n3_ := Aside0.mk (below_step (by repeat (first | (with_reducible first | exact HB.out | apply below_alloc | apply pw_below_drewN | apply below_drew1) | exact HB.out)) hb); clear HO124; clear HO127; clear HO132; clear HB; have HO124 := n0_; have HO127 := n1_; have HO132 := n2_; have HB := n3_; clear n0_ n1_ n2_ n3_; (try clear hb); (try clear hb2); (try clear hk); (try clear hi)) | ((with_reducible refine gate_callee (f := 39) rfl ?_); refine goesL_ (some 46) rfl rfl Try.func39 (by kernel_rfl) rfl #[.slice none 0 0, .agg #[.int .i64 0, .int .i64 0, .int .i64 0, .int .i64 0], .int .i64 0] rfl (by (try simp only [List.map_toArray, List.map_cons, List.map_nil]); first | done | rfl | (simp only [List.length_drop, List.length_take]; rfl)) ?_; (refine (view_Take.calls _ _ ([] : List (S85)) 0 0 0 0 0 t141 t144 t145 _ ?side1 ?side2 A6.out).mono ?_); (case side1 => exact Kd.C_nil _ _); (case side2 => exact Nat.le_refl _); rintro e w35 ⟨v142, rfl, ho0, hb⟩; refine ⟨_, rfl, ?_⟩; have n0_ := Aside0.mk (Kd.R_elder' (by (with_reducible repeat (first | apply Kd.R_alloc | apply Kd.R_drewN | apply Kd.R_drew)); exact HO124.out) (Kd.R_base ho0) hb); have n1_ := Aside0.mk (Kd.R_elder' (by (with_reducible repeat (first | apply Kd.R_alloc | apply Kd.R_drewN | apply Kd.R_drew)); exact HO127.out) (Kd.R_base ho0) hb); have n2_ := Aside0.mk (Kd.R_elder' (by (with_reducible repeat (first | apply Kd.R_alloc | apply Kd.R_drewN | apply Kd.R_drew)); exact HO132.out) (Kd.R_base ho0) hb); have n3_ := Aside0.mk (Kd.R_lower (Kd.R_new' (Kd.R_new' (Kd.R_new' ho0 (Kd.R_lt (by (with_reducible repeat (first | apply Kd.R_alloc | apply Kd.R_drewN | apply Kd.R_drew)); exact HO124.out))) (Kd.R_lt (by (with_reducible repeat (first | apply Kd.R_alloc | apply Kd.R_drewN | apply Kd.R_drew)); exact HO127.out))) (Kd.R_lt (by (with_reducible repeat (first | apply Kd.R_alloc | apply Kd.R_drewN | apply Kd.R_drew)); exact HO132.out))) (below_size (by repeat (first | (with_reducible first | exact HB.out | apply below_alloc | apply pw_below_drewN | apply below_drew1) | exact HB.out)))); have n4_ := Aside0.mk (below_step (by repeat (first | (with_reducible first | exact HB.out | apply below_alloc | apply pw_below_drewN | apply below_drew1) | exact HB.out)) hb); clear HO124; clear HO127; clear HO132; clear HB; have HO124 := n0_; have HO127 := n1_; have HO132 := n2_; have HO143 := n3_; have HB := n4_; clear n0_ n1_ n2_ n3_ n4_; (try clear hb); (try clear hb2); (try clear hk); (try clear hi); (try clear ho0)) | (go_at_call 17; (with_reducible refine (wharfagelaw0_Num.calls t129 t146 _ A9.out).mono ?_); rintro e w' ⟨rfl, ⟨nd, rfl⟩⟩; obtain ⟨Ao36, co36, eo36⟩ := Kd.R_slice HO132.out; subst eo36) | (go_at_call 43; (with_reducible refine (wharfagelaw0_SameSeens.calls k _ _ t125 _ _ t130 true _ ?side1 ?side2 ?side3 ?side4 A12.out).mono ?_); (case side1 => repeat (first | exact (Kd.R_reads' HO127.out).2.2 | (with_reducible refine Kd.C_alloc ?_ _) | (with_reducible refine Kd.C_drewN ?_ _) | (with_reducible refine Kd.C_drew ?_))); (case side2 => exact (Kd.R_reads' HO127.out).2.1); (case side3 => repeat (first | exact (Kd.R_reads' HO132.out).2.2 | (with_reducible refine Kd.C_alloc ?_ _) | (with_reducible refine Kd.C_drewN ?_ _) | (with_reducible refine Kd.C_drew ?_))); (case side4 => exact (Kd.R_reads' HO132.out).2.1); rintro e w' ⟨rfl, ⟨nd, rfl⟩⟩) | (go_at_call 17; (with_reducible refine (wharfagelaw0_Num.calls t134 t148 _ A14.out).mono ?_); rintro e w' ⟨rfl, ⟨nd, rfl⟩⟩) | (go_at_call 17; (with_reducible refine (wharfagelaw0_Num.calls t137 t149 _ A18.out).mono ?_); rintro e w' ⟨rfl, ⟨nd, rfl⟩⟩) | (go_at_call 17; (with_reducible refine (wharfagelaw0_Num.calls t140 t150 _ A21.out).mono ?_); rintro e w' ⟨rfl, ⟨nd, rfl⟩⟩) | (go_at_call 17; (with_reducible refine (wharfagelaw0_Num.calls t145 t151 _ A23.out).mono ?_); rintro e w' ⟨rfl, ⟨nd, rfl⟩⟩) | (go_at_call 44; (with_reducible refine (view_May.calls k _ _ t125 true _ ?side1 ?side2 A25.out).mono ?_); (case side1 => repeat (first | exact (Kd.R_reads' HO127.out).2.2 | (with_reducible refine Kd.C_alloc ?_ _) | (with_reducible refine Kd.C_drewN ?_ _) | (with_reducible refine Kd.C_drew ?_))); (case side2 => exact (Kd.R_reads' HO127.out).2.1); rintro e w37 ⟨rfl, hb⟩; have n0_ := Aside0.mk (Kd.R_below (by (with_reducible repeat (first | apply Kd.R_alloc | apply Kd.R_drewN | apply Kd.R_drew)); exact HO124.out) hb); have n1_ := Aside0.mk (Kd.R_below (by (with_reducible repeat (first | apply Kd.R_alloc | apply Kd.R_drewN | apply Kd.R_drew)); exact HO127.out) hb); have n2_ := Aside0.mk (Kd.R_below (by (with_reducible repeat (first | apply Kd.R_alloc | apply Kd.R_drewN | apply Kd.R_drew)); exact HO132.out) hb); have n3_ := Aside0.mk (Kd.R_below (by (with_reducible repeat (first | apply Kd.R_alloc | apply Kd.R_drewN | apply Kd.R_drew)); exact HO143.out) hb); have n4_ := Aside0.mk (below_step (by repeat (first | (with_reducible first | exact HB.out | apply below_alloc | apply pw_below_drewN | apply below_drew1) | exact HB.out)) hb); clear HO124; clear HO127; clear HO132; clear HO143; clear HB; have HO124 := n0_; have HO127 := n1_; have HO132 := n2_; have HO143 := n3_; have HB := n4_; clear n0_ n1_ n2_ n3_ n4_; (try clear hb); (try clear hb2); (try clear hk); (try clear hi)) | (go_at_call 44; (refine (view_May.calls k _ _ ([] : List (S85)) t153 _ ?side1 ?side2 A27.out).mono ?_); (case side1 => exact Kd.C_nil _ _); (case side2 => exact Nat.le_refl _); rintro e w38 ⟨rfl, hb⟩; have n0_ := Aside0.mk (Kd.R_below (by (with_reducible repeat (first | apply Kd.R_alloc | apply Kd.R_drewN | apply Kd.R_drew)); exact HO124.out) hb); have n1_ := Aside0.mk (Kd.R_below (by (with_reducible repeat (first | apply Kd.R_alloc | apply Kd.R_drewN | apply Kd.R_drew)); exact HO127.out) hb); have n2_ := Aside0.mk (Kd.R_below (by (with_reducible repeat (first | apply Kd.R_alloc | apply Kd.R_drewN | apply Kd.R_drew)); exact HO132.out) hb); have n3_ := Aside0.mk (Kd.R_below (by (with_reducible repeat (first | apply Kd.R_alloc | apply Kd.R_drewN | apply Kd.R_drew)); exact HO143.out) hb); have n4_ := Aside0.mk (below_step (by repeat (first | (with_reducible first | exact HB.out | apply below_alloc | apply pw_below_drewN | apply below_drew1) | exact HB.out)) hb); clear HO124; clear HO127; clear HO132; clear HO143; clear HB; have HO124 := n0_; have HO127 := n1_; have HO132 := n2_; have HO143 := n3_; have HB := n4_; clear n0_ n1_ n2_ n3_ n4_; (try clear hb); (try clear hb2); (try clear hk); (try clear hi)))
                            go_ret
                            exact ⟨by first | rfl | (simp [errW_none, errW_some] <;> rfl) | (simp [*, errW_none, errW_some] <;> rfl), by repeat (first | (with_reducible first | exact HB.out | apply below_alloc | apply pw_below_drewN | apply below_drew1) | exact HB.out)⟩
                          · replace c26 := Bool.eq_false_iff.mpr c26
                            subst c26
                            have H1 : (none) = some r := by rw [if_neg (show ¬ (false = true) by decide)] at H; exact H
                            clear H
                            have H := H1
                            clear H1
                            exact absurd H (by simp)
                        · rw [if_neg c24] at H
                          exact absurd H (by simp)
                      · rw [if_neg c22] at H
                        exact absurd H (by simp)
                  · rw [if_neg c19] at H
                    exact absurd H (by simp)
                · replace c17 := Bool.eq_false_iff.mpr c17
                  subst c17
                  have H1 : (none) = some r := by rw [if_neg (show ¬ (false = true) by decide)] at H; exact H
                  clear H
                  have H := H1
                  clear H1
                  exact absurd H (by simp)
              · rw [if_neg c16] at H
                exact absurd H (by simp)
            · rw [if_neg c15] at H
              exact absurd H (by simp)
          · replace c13 := Bool.eq_false_iff.mpr c13
            subst c13
            have H1 : (none) = some r := by rw [if_neg (show ¬ (false = true) by decide)] at H; exact H
            clear H
            have H := H1
            clear H1
            exact absurd H (by simp)
      · rw [if_neg c10] at H
        exact absurd H (by simp)
    · replace c8 := Bool.eq_false_iff.mpr c8
      subst c8
      have H1 : (none) = some r := by rw [if_neg (show ¬ (false = true) by decide)] at H; exact H
      clear H
      have H := H1
      clear H1
      exact absurd H (by simp)
  · rw [if_neg c7] at H
    exact absurd H (by simp)

end Go.Proofs.Ytnocfhnandedoab.PVRow
