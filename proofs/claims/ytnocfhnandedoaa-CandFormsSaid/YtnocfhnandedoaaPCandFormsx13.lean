/- Contracts: what calls of these functions of the program do, each as a plain function; written by a program of this session. -/
import Derived.Test.YtnocfhnandedoaaPCandFormsx0
import Derived.Test.YtnocfhnandedoaaPCandFormsx2
import Derived.Test.YtnocfhnandedoaaPCandFormsx8
import Derived.Test.YtnocfhnandedoaaPCandFormsx10
import Derived.Test.YtnocfhnandedoaaPCandFormsx11
import Derived.Test.YtnocfhnandedoaaPCandFormsx12
namespace Go.Proofs.Ytnocfhnandedoaa.PCandForms
open Go.RowKit Go.Proofs.YtnocfhnandedoaaW.PrintWords Go.Proofs.YtnocfhnandedoaaW.PrintLast Go.Proofs.YtnocfhnandedoaaW.PrintMore
attribute [local go_sem] max2_int min2_int max_two min_two max_three min_three max_four min_four   -- for this text's walks alone
set_option linter.unusedVariables false
set_option linter.unusedSimpArgs false

/-! ### wharfagelaw13_awake: function 35 -/
def wharfagelaw13_awake.f (k : Nat)  : Option (Bool) := (wharfagelaw13_given.f).bind fun bt131 => ((cand_Sites.f k bt131.1 bt131.2 (([(⟨true, 0⟩ : S67), (⟨false, 0⟩ : S67), (⟨true, 0⟩ : S67)] : List (S67)))).bind fun bt138 => ((wharfagelaw13_given.f).bind fun bt142 => ((cand_Backs.f bt142.1 bt142.2 0 (([(⟨true, 0⟩ : S67), (⟨true, 0⟩ : S67), (⟨true, 0⟩ : S67), (⟨true, 0⟩ : S67)] : List (S67)))).bind fun bt149 => ((wharfagelaw13_given.f).bind fun bt153 => ((cand_Backs.f bt153.1 bt153.2 2 (([(⟨true, 0⟩ : S67), (⟨true, 0⟩ : S67), (⟨true, 0⟩ : S67), (⟨true, 0⟩ : S67)] : List (S67)))).bind fun bt160 => ((wharfagelaw13_given.f).bind fun bt164 => ((cand_Sites.f k bt164.1 bt164.2 ([] : List (S67))).bind fun bt168 => ((wharfagelaw0_SameCandidates.f k bt138.1 (([(⟨0, 2⟩ : S72)] : List (S72)))).bind fun t175 => (if t175 = true then ((wharfagelaw0_Num.f bt138.2).bind fun t176 => (if t176 = 0 then ((wharfagelaw0_SameCandidates.f k bt149.1 (([(⟨0, 1⟩ : S72), (⟨1, 3⟩ : S72)] : List (S72)))).bind fun t180 => (if t180 = true then ((wharfagelaw0_Num.f bt149.2).bind fun t181 => (if t181 = 0 then ((wharfagelaw0_Num.f bt160.2).bind fun t182 => (if t182 = 1300 then ((wharfagelaw0_Num.f bt168.2).bind fun t183 => (some (t183 == 1300))) else (none))) else (none))) else (none))) else (none))) else (none))))))))))
theorem wharfagelaw13_awake.mono : ∀ k, LeO (wharfagelaw13_awake.f k ) (wharfagelaw13_awake.f (k + 1) ) := by
  intro  k
  unfold wharfagelaw13_awake.f
  repeat' first
      | (with_reducible exact cand_Sites.mono _ _ _ _)
      | (with_reducible exact wharfagelaw0_SameCandidates.mono _ _ _)
      | (with_reducible exact LeO.refl _)
      | (with_reducible exact LeO.none _)
      | (with_reducible refine LeO.ite ?_ ?_)
      | (with_reducible refine LeO.bind ?_ (fun _ => ?_))
      | exact cand_Sites.mono _ _ _ _
      | exact wharfagelaw0_SameCandidates.mono _ _ _
      | exact LeO.none _
      | refine LeO.ite ?_ ?_
      | refine LeO.bind ?_ (fun _ => ?_)
def wharfagelaw13_awake.T2 : Bool × List (List Nat × List Nat) := (true, [([], []), ([], []), ([], []), ([], []), ([1, 2, 3], [1, 2, 3]), ([0, 4, 0], [0, 4]), ([5], [5]), ([6], [6]), ([6], [6]), ([7, 5, 0, 1, 2, 3, 4, 5, 6, 7], [7]), ([8, 9, 0, 1, 2, 3, 4, 5, 6, 7, 8, 9], [8])])
def wharfagelaw13_awake.B2 : List Nat := [0, 0, 0, 0, 14, 31, 63, 127, 127, 255, 1023]
theorem wharfagelaw13_awake.tab2 : rtab .any (opsOf Try.f35 2) = wharfagelaw13_awake.T2 := by kernel_rfl
theorem wharfagelaw13_awake.bits2 : waitsOk wharfagelaw13_awake.T2.2 wharfagelaw13_awake.B2 = true := by kernel_rfl
def wharfagelaw13_awake.T3 : Bool × List (List Nat × List Nat) := (true, [([], []), ([], []), ([], []), ([], []), ([], []), ([1, 2, 3, 4], [1, 2, 3, 4]), ([0, 5, 0], [0, 5]), ([6], [6]), ([7], [7]), ([7], [7]), ([8, 6, 0, 1, 2, 3, 4, 5, 6, 7, 8], [8]), ([9, 10, 0, 1, 2, 3, 4, 5, 6, 7, 8, 9, 10], [9])])
def wharfagelaw13_awake.B3 : List Nat := [0, 0, 0, 0, 0, 30, 63, 127, 255, 255, 511, 2047]
theorem wharfagelaw13_awake.tab3 : rtab .any (opsOf Try.f35 3) = wharfagelaw13_awake.T3 := by kernel_rfl
theorem wharfagelaw13_awake.bits3 : waitsOk wharfagelaw13_awake.T3.2 wharfagelaw13_awake.B3 = true := by kernel_rfl
def wharfagelaw13_awake.T4 : Bool × List (List Nat × List Nat) := (true, [([], []), ([], []), ([], []), ([], []), ([], []), ([1, 2, 3, 4], [1, 2, 3, 4]), ([0, 5, 0], [0, 5]), ([6], [6]), ([7], [7]), ([7], [7]), ([8, 6, 0, 1, 2, 3, 4, 5, 6, 7, 8], [8]), ([9, 10, 0, 1, 2, 3, 4, 5, 6, 7, 8, 9, 10], [9])])
def wharfagelaw13_awake.B4 : List Nat := [0, 0, 0, 0, 0, 30, 63, 127, 255, 255, 511, 2047]
theorem wharfagelaw13_awake.tab4 : rtab .any (opsOf Try.f35 4) = wharfagelaw13_awake.T4 := by kernel_rfl
theorem wharfagelaw13_awake.bits4 : waitsOk wharfagelaw13_awake.T4.2 wharfagelaw13_awake.B4 = true := by kernel_rfl
set_option maxHeartbeats 8000000 in
set_option maxRecDepth 100000 in
theorem wharfagelaw13_awake.calls (k : Nat)  (r : Bool) (w : World) (h : wharfagelaw13_awake.f k  = some r) :
    Calls Try.prog 35 #[] w fun e w' => e = .returned (.bool r) ∧ Below w.heap.size w w' := by
  have hu67 := Try.underlying67
  have hu72 := Try.underlying72
  have HB := Aside0.mk (Below.refl w.heap.size w)
  have H : ((wharfagelaw13_given.f).bind fun bt131 => ((cand_Sites.f k bt131.1 bt131.2 (([(⟨true, 0⟩ : S67), (⟨false, 0⟩ : S67), (⟨true, 0⟩ : S67)] : List (S67)))).bind fun bt138 => ((wharfagelaw13_given.f).bind fun bt142 => ((cand_Backs.f bt142.1 bt142.2 0 (([(⟨true, 0⟩ : S67), (⟨true, 0⟩ : S67), (⟨true, 0⟩ : S67), (⟨true, 0⟩ : S67)] : List (S67)))).bind fun bt149 => ((wharfagelaw13_given.f).bind fun bt153 => ((cand_Backs.f bt153.1 bt153.2 2 (([(⟨true, 0⟩ : S67), (⟨true, 0⟩ : S67), (⟨true, 0⟩ : S67), (⟨true, 0⟩ : S67)] : List (S67)))).bind fun bt160 => ((wharfagelaw13_given.f).bind fun bt164 => ((cand_Sites.f k bt164.1 bt164.2 ([] : List (S67))).bind fun bt168 => ((wharfagelaw0_SameCandidates.f k bt138.1 (([(⟨0, 2⟩ : S72)] : List (S72)))).bind fun t175 => (if t175 = true then ((wharfagelaw0_Num.f bt138.2).bind fun t176 => (if t176 = 0 then ((wharfagelaw0_SameCandidates.f k bt149.1 (([(⟨0, 1⟩ : S72), (⟨1, 3⟩ : S72)] : List (S72)))).bind fun t180 => (if t180 = true then ((wharfagelaw0_Num.f bt149.2).bind fun t181 => (if t181 = 0 then ((wharfagelaw0_Num.f bt160.2).bind fun t182 => (if t182 = 1300 then ((wharfagelaw0_Num.f bt168.2).bind fun t183 => (some (t183 == 1300))) else (none))) else (none))) else (none))) else (none))) else (none))))))))))) = some r := h
  clear h
  replace H := Option.bind_eq_some_iff.mp H
  obtain ⟨⟨t131, t132⟩, A10, H⟩ := H
  replace H : ((cand_Sites.f k t131 t132 (([(⟨true, 0⟩ : S67), (⟨false, 0⟩ : S67), (⟨true, 0⟩ : S67)] : List (S67)))).bind fun bt138 => ((wharfagelaw13_given.f).bind fun bt142 => ((cand_Backs.f bt142.1 bt142.2 0 (([(⟨true, 0⟩ : S67), (⟨true, 0⟩ : S67), (⟨true, 0⟩ : S67), (⟨true, 0⟩ : S67)] : List (S67)))).bind fun bt149 => ((wharfagelaw13_given.f).bind fun bt153 => ((cand_Backs.f bt153.1 bt153.2 2 (([(⟨true, 0⟩ : S67), (⟨true, 0⟩ : S67), (⟨true, 0⟩ : S67), (⟨true, 0⟩ : S67)] : List (S67)))).bind fun bt160 => ((wharfagelaw13_given.f).bind fun bt164 => ((cand_Sites.f k bt164.1 bt164.2 ([] : List (S67))).bind fun bt168 => ((wharfagelaw0_SameCandidates.f k bt138.1 (([(⟨0, 2⟩ : S72)] : List (S72)))).bind fun t175 => (if t175 = true then ((wharfagelaw0_Num.f bt138.2).bind fun t176 => (if t176 = 0 then ((wharfagelaw0_SameCandidates.f k bt149.1 (([(⟨0, 1⟩ : S72), (⟨1, 3⟩ : S72)] : List (S72)))).bind fun t180 => (if t180 = true then ((wharfagelaw0_Num.f bt149.2).bind fun t181 => (if t181 = 0 then ((wharfagelaw0_Num.f bt160.2).bind fun t182 => (if t182 = 1300 then ((wharfagelaw0_Num.f bt168.2).bind fun t183 => (some (t183 == 1300))) else (none))) else (none))) else (none))) else (none))) else (none)))))))))) = some r := H
  have A1 := Aside0.mk A10
  clear A10
  obtain ⟨y135, hy135⟩ : ∃ y_ : List (S67), y_ = (([(⟨true, 0⟩ : S67), (⟨false, 0⟩ : S67), (⟨true, 0⟩ : S67)] : List (S67))) := ⟨_, rfl⟩
  replace H : ((cand_Sites.f k t131 t132 y135).bind fun bt138 => ((wharfagelaw13_given.f).bind fun bt142 => ((cand_Backs.f bt142.1 bt142.2 0 (([(⟨true, 0⟩ : S67), (⟨true, 0⟩ : S67), (⟨true, 0⟩ : S67), (⟨true, 0⟩ : S67)] : List (S67)))).bind fun bt149 => ((wharfagelaw13_given.f).bind fun bt153 => ((cand_Backs.f bt153.1 bt153.2 2 (([(⟨true, 0⟩ : S67), (⟨true, 0⟩ : S67), (⟨true, 0⟩ : S67), (⟨true, 0⟩ : S67)] : List (S67)))).bind fun bt160 => ((wharfagelaw13_given.f).bind fun bt164 => ((cand_Sites.f k bt164.1 bt164.2 ([] : List (S67))).bind fun bt168 => ((wharfagelaw0_SameCandidates.f k bt138.1 (([(⟨0, 2⟩ : S72)] : List (S72)))).bind fun t175 => (if t175 = true then ((wharfagelaw0_Num.f bt138.2).bind fun t176 => (if t176 = 0 then ((wharfagelaw0_SameCandidates.f k bt149.1 (([(⟨0, 1⟩ : S72), (⟨1, 3⟩ : S72)] : List (S72)))).bind fun t180 => (if t180 = true then ((wharfagelaw0_Num.f bt149.2).bind fun t181 => (if t181 = 0 then ((wharfagelaw0_Num.f bt160.2).bind fun t182 => (if t182 = 1300 then ((wharfagelaw0_Num.f bt168.2).bind fun t183 => (some (t183 == 1300))) else (none))) else (none))) else (none))) else (none))) else (none)))))))))) = some r := by first | (rw [hy135]; with_reducible exact H) | (have H2_ := (Option.bind_some _ _).symm.trans H; rw [hy135]; with_reducible exact H2_) | (have H2_ := (Option.bind_some _ _).symm.trans H; with_reducible exact H2_) | with_reducible exact H | (rw [hy135]; exact H) | exact H
  have Ny135 := Aside0.mk hy135
  clear hy135
  replace H := Option.bind_eq_some_iff.mp H
  obtain ⟨⟨t138, t141⟩, A20, H⟩ := H
  replace H : ((wharfagelaw13_given.f).bind fun bt142 => ((cand_Backs.f bt142.1 bt142.2 0 (([(⟨true, 0⟩ : S67), (⟨true, 0⟩ : S67), (⟨true, 0⟩ : S67), (⟨true, 0⟩ : S67)] : List (S67)))).bind fun bt149 => ((wharfagelaw13_given.f).bind fun bt153 => ((cand_Backs.f bt153.1 bt153.2 2 (([(⟨true, 0⟩ : S67), (⟨true, 0⟩ : S67), (⟨true, 0⟩ : S67), (⟨true, 0⟩ : S67)] : List (S67)))).bind fun bt160 => ((wharfagelaw13_given.f).bind fun bt164 => ((cand_Sites.f k bt164.1 bt164.2 ([] : List (S67))).bind fun bt168 => ((wharfagelaw0_SameCandidates.f k t138 (([(⟨0, 2⟩ : S72)] : List (S72)))).bind fun t175 => (if t175 = true then ((wharfagelaw0_Num.f t141).bind fun t176 => (if t176 = 0 then ((wharfagelaw0_SameCandidates.f k bt149.1 (([(⟨0, 1⟩ : S72), (⟨1, 3⟩ : S72)] : List (S72)))).bind fun t180 => (if t180 = true then ((wharfagelaw0_Num.f bt149.2).bind fun t181 => (if t181 = 0 then ((wharfagelaw0_Num.f bt160.2).bind fun t182 => (if t182 = 1300 then ((wharfagelaw0_Num.f bt168.2).bind fun t183 => (some (t183 == 1300))) else (none))) else (none))) else (none))) else (none))) else (none))))))))) = some r := H
  have A2 := Aside0.mk A20
  clear A20
  replace H := Option.bind_eq_some_iff.mp H
  obtain ⟨⟨t142, t143⟩, A30, H⟩ := H
  replace H : ((cand_Backs.f t142 t143 0 (([(⟨true, 0⟩ : S67), (⟨true, 0⟩ : S67), (⟨true, 0⟩ : S67), (⟨true, 0⟩ : S67)] : List (S67)))).bind fun bt149 => ((wharfagelaw13_given.f).bind fun bt153 => ((cand_Backs.f bt153.1 bt153.2 2 (([(⟨true, 0⟩ : S67), (⟨true, 0⟩ : S67), (⟨true, 0⟩ : S67), (⟨true, 0⟩ : S67)] : List (S67)))).bind fun bt160 => ((wharfagelaw13_given.f).bind fun bt164 => ((cand_Sites.f k bt164.1 bt164.2 ([] : List (S67))).bind fun bt168 => ((wharfagelaw0_SameCandidates.f k t138 (([(⟨0, 2⟩ : S72)] : List (S72)))).bind fun t175 => (if t175 = true then ((wharfagelaw0_Num.f t141).bind fun t176 => (if t176 = 0 then ((wharfagelaw0_SameCandidates.f k bt149.1 (([(⟨0, 1⟩ : S72), (⟨1, 3⟩ : S72)] : List (S72)))).bind fun t180 => (if t180 = true then ((wharfagelaw0_Num.f bt149.2).bind fun t181 => (if t181 = 0 then ((wharfagelaw0_Num.f bt160.2).bind fun t182 => (if t182 = 1300 then ((wharfagelaw0_Num.f bt168.2).bind fun t183 => (some (t183 == 1300))) else (none))) else (none))) else (none))) else (none))) else (none)))))))) = some r := H
  have A3 := Aside0.mk A30
  clear A30
  obtain ⟨y146, hy146⟩ : ∃ y_ : List (S67), y_ = (([(⟨true, 0⟩ : S67), (⟨true, 0⟩ : S67), (⟨true, 0⟩ : S67), (⟨true, 0⟩ : S67)] : List (S67))) := ⟨_, rfl⟩
  replace H : ((cand_Backs.f t142 t143 0 y146).bind fun bt149 => ((wharfagelaw13_given.f).bind fun bt153 => ((cand_Backs.f bt153.1 bt153.2 2 (([(⟨true, 0⟩ : S67), (⟨true, 0⟩ : S67), (⟨true, 0⟩ : S67), (⟨true, 0⟩ : S67)] : List (S67)))).bind fun bt160 => ((wharfagelaw13_given.f).bind fun bt164 => ((cand_Sites.f k bt164.1 bt164.2 ([] : List (S67))).bind fun bt168 => ((wharfagelaw0_SameCandidates.f k t138 (([(⟨0, 2⟩ : S72)] : List (S72)))).bind fun t175 => (if t175 = true then ((wharfagelaw0_Num.f t141).bind fun t176 => (if t176 = 0 then ((wharfagelaw0_SameCandidates.f k bt149.1 (([(⟨0, 1⟩ : S72), (⟨1, 3⟩ : S72)] : List (S72)))).bind fun t180 => (if t180 = true then ((wharfagelaw0_Num.f bt149.2).bind fun t181 => (if t181 = 0 then ((wharfagelaw0_Num.f bt160.2).bind fun t182 => (if t182 = 1300 then ((wharfagelaw0_Num.f bt168.2).bind fun t183 => (some (t183 == 1300))) else (none))) else (none))) else (none))) else (none))) else (none)))))))) = some r := by first | (rw [hy146]; with_reducible exact H) | (have H2_ := (Option.bind_some _ _).symm.trans H; rw [hy146]; with_reducible exact H2_) | (have H2_ := (Option.bind_some _ _).symm.trans H; with_reducible exact H2_) | with_reducible exact H | (rw [hy146]; exact H) | exact H
  have Ny146 := Aside0.mk hy146
  clear hy146
  replace H := Option.bind_eq_some_iff.mp H
  obtain ⟨⟨t149, t152⟩, A40, H⟩ := H
  replace H : ((wharfagelaw13_given.f).bind fun bt153 => ((cand_Backs.f bt153.1 bt153.2 2 (([(⟨true, 0⟩ : S67), (⟨true, 0⟩ : S67), (⟨true, 0⟩ : S67), (⟨true, 0⟩ : S67)] : List (S67)))).bind fun bt160 => ((wharfagelaw13_given.f).bind fun bt164 => ((cand_Sites.f k bt164.1 bt164.2 ([] : List (S67))).bind fun bt168 => ((wharfagelaw0_SameCandidates.f k t138 (([(⟨0, 2⟩ : S72)] : List (S72)))).bind fun t175 => (if t175 = true then ((wharfagelaw0_Num.f t141).bind fun t176 => (if t176 = 0 then ((wharfagelaw0_SameCandidates.f k t149 (([(⟨0, 1⟩ : S72), (⟨1, 3⟩ : S72)] : List (S72)))).bind fun t180 => (if t180 = true then ((wharfagelaw0_Num.f t152).bind fun t181 => (if t181 = 0 then ((wharfagelaw0_Num.f bt160.2).bind fun t182 => (if t182 = 1300 then ((wharfagelaw0_Num.f bt168.2).bind fun t183 => (some (t183 == 1300))) else (none))) else (none))) else (none))) else (none))) else (none))))))) = some r := H
  have A4 := Aside0.mk A40
  clear A40
  replace H := Option.bind_eq_some_iff.mp H
  obtain ⟨⟨t153, t154⟩, A50, H⟩ := H
  replace H : ((cand_Backs.f t153 t154 2 (([(⟨true, 0⟩ : S67), (⟨true, 0⟩ : S67), (⟨true, 0⟩ : S67), (⟨true, 0⟩ : S67)] : List (S67)))).bind fun bt160 => ((wharfagelaw13_given.f).bind fun bt164 => ((cand_Sites.f k bt164.1 bt164.2 ([] : List (S67))).bind fun bt168 => ((wharfagelaw0_SameCandidates.f k t138 (([(⟨0, 2⟩ : S72)] : List (S72)))).bind fun t175 => (if t175 = true then ((wharfagelaw0_Num.f t141).bind fun t176 => (if t176 = 0 then ((wharfagelaw0_SameCandidates.f k t149 (([(⟨0, 1⟩ : S72), (⟨1, 3⟩ : S72)] : List (S72)))).bind fun t180 => (if t180 = true then ((wharfagelaw0_Num.f t152).bind fun t181 => (if t181 = 0 then ((wharfagelaw0_Num.f bt160.2).bind fun t182 => (if t182 = 1300 then ((wharfagelaw0_Num.f bt168.2).bind fun t183 => (some (t183 == 1300))) else (none))) else (none))) else (none))) else (none))) else (none)))))) = some r := H
  have A5 := Aside0.mk A50
  clear A50
  obtain ⟨y157, hy157⟩ : ∃ y_ : List (S67), y_ = (([(⟨true, 0⟩ : S67), (⟨true, 0⟩ : S67), (⟨true, 0⟩ : S67), (⟨true, 0⟩ : S67)] : List (S67))) := ⟨_, rfl⟩
  replace H : ((cand_Backs.f t153 t154 2 y157).bind fun bt160 => ((wharfagelaw13_given.f).bind fun bt164 => ((cand_Sites.f k bt164.1 bt164.2 ([] : List (S67))).bind fun bt168 => ((wharfagelaw0_SameCandidates.f k t138 (([(⟨0, 2⟩ : S72)] : List (S72)))).bind fun t175 => (if t175 = true then ((wharfagelaw0_Num.f t141).bind fun t176 => (if t176 = 0 then ((wharfagelaw0_SameCandidates.f k t149 (([(⟨0, 1⟩ : S72), (⟨1, 3⟩ : S72)] : List (S72)))).bind fun t180 => (if t180 = true then ((wharfagelaw0_Num.f t152).bind fun t181 => (if t181 = 0 then ((wharfagelaw0_Num.f bt160.2).bind fun t182 => (if t182 = 1300 then ((wharfagelaw0_Num.f bt168.2).bind fun t183 => (some (t183 == 1300))) else (none))) else (none))) else (none))) else (none))) else (none)))))) = some r := by first | (rw [hy157]; with_reducible exact H) | (have H2_ := (Option.bind_some _ _).symm.trans H; rw [hy157]; with_reducible exact H2_) | (have H2_ := (Option.bind_some _ _).symm.trans H; with_reducible exact H2_) | with_reducible exact H | (rw [hy157]; exact H) | exact H
  have Ny157 := Aside0.mk hy157
  clear hy157
  replace H := Option.bind_eq_some_iff.mp H
  obtain ⟨⟨t160, t163⟩, A60, H⟩ := H
  replace H : ((wharfagelaw13_given.f).bind fun bt164 => ((cand_Sites.f k bt164.1 bt164.2 ([] : List (S67))).bind fun bt168 => ((wharfagelaw0_SameCandidates.f k t138 (([(⟨0, 2⟩ : S72)] : List (S72)))).bind fun t175 => (if t175 = true then ((wharfagelaw0_Num.f t141).bind fun t176 => (if t176 = 0 then ((wharfagelaw0_SameCandidates.f k t149 (([(⟨0, 1⟩ : S72), (⟨1, 3⟩ : S72)] : List (S72)))).bind fun t180 => (if t180 = true then ((wharfagelaw0_Num.f t152).bind fun t181 => (if t181 = 0 then ((wharfagelaw0_Num.f t163).bind fun t182 => (if t182 = 1300 then ((wharfagelaw0_Num.f bt168.2).bind fun t183 => (some (t183 == 1300))) else (none))) else (none))) else (none))) else (none))) else (none))))) = some r := H
  have A6 := Aside0.mk A60
  clear A60
  replace H := Option.bind_eq_some_iff.mp H
  obtain ⟨⟨t164, t165⟩, A70, H⟩ := H
  replace H : ((cand_Sites.f k t164 t165 ([] : List (S67))).bind fun bt168 => ((wharfagelaw0_SameCandidates.f k t138 (([(⟨0, 2⟩ : S72)] : List (S72)))).bind fun t175 => (if t175 = true then ((wharfagelaw0_Num.f t141).bind fun t176 => (if t176 = 0 then ((wharfagelaw0_SameCandidates.f k t149 (([(⟨0, 1⟩ : S72), (⟨1, 3⟩ : S72)] : List (S72)))).bind fun t180 => (if t180 = true then ((wharfagelaw0_Num.f t152).bind fun t181 => (if t181 = 0 then ((wharfagelaw0_Num.f t163).bind fun t182 => (if t182 = 1300 then ((wharfagelaw0_Num.f bt168.2).bind fun t183 => (some (t183 == 1300))) else (none))) else (none))) else (none))) else (none))) else (none)))) = some r := H
  have A7 := Aside0.mk A70
  clear A70
  replace H := Option.bind_eq_some_iff.mp H
  obtain ⟨⟨t168, t171⟩, A80, H⟩ := H
  replace H : ((wharfagelaw0_SameCandidates.f k t138 (([(⟨0, 2⟩ : S72)] : List (S72)))).bind fun t175 => (if t175 = true then ((wharfagelaw0_Num.f t141).bind fun t176 => (if t176 = 0 then ((wharfagelaw0_SameCandidates.f k t149 (([(⟨0, 1⟩ : S72), (⟨1, 3⟩ : S72)] : List (S72)))).bind fun t180 => (if t180 = true then ((wharfagelaw0_Num.f t152).bind fun t181 => (if t181 = 0 then ((wharfagelaw0_Num.f t163).bind fun t182 => (if t182 = 1300 then ((wharfagelaw0_Num.f t171).bind fun t183 => (some (t183 == 1300))) else (none))) else (none))) else (none))) else (none))) else (none))) = some r := H
  have A8 := Aside0.mk A80
  clear A80
  obtain ⟨y172, hy172⟩ : ∃ y_ : List (S72), y_ = (([(⟨0, 2⟩ : S72)] : List (S72))) := ⟨_, rfl⟩
  replace H : ((wharfagelaw0_SameCandidates.f k t138 y172).bind fun t175 => (if t175 = true then ((wharfagelaw0_Num.f t141).bind fun t176 => (if t176 = 0 then ((wharfagelaw0_SameCandidates.f k t149 (([(⟨0, 1⟩ : S72), (⟨1, 3⟩ : S72)] : List (S72)))).bind fun t180 => (if t180 = true then ((wharfagelaw0_Num.f t152).bind fun t181 => (if t181 = 0 then ((wharfagelaw0_Num.f t163).bind fun t182 => (if t182 = 1300 then ((wharfagelaw0_Num.f t171).bind fun t183 => (some (t183 == 1300))) else (none))) else (none))) else (none))) else (none))) else (none))) = some r := by first | (rw [hy172]; with_reducible exact H) | (have H2_ := (Option.bind_some _ _).symm.trans H; rw [hy172]; with_reducible exact H2_) | (have H2_ := (Option.bind_some _ _).symm.trans H; with_reducible exact H2_) | with_reducible exact H | (rw [hy172]; exact H) | exact H
  have Ny172 := Aside0.mk hy172
  clear hy172
  replace H := Option.bind_eq_some_iff.mp H
  obtain ⟨t175, A90, H⟩ := H
  replace H : (if t175 = true then ((wharfagelaw0_Num.f t141).bind fun t176 => (if t176 = 0 then ((wharfagelaw0_SameCandidates.f k t149 (([(⟨0, 1⟩ : S72), (⟨1, 3⟩ : S72)] : List (S72)))).bind fun t180 => (if t180 = true then ((wharfagelaw0_Num.f t152).bind fun t181 => (if t181 = 0 then ((wharfagelaw0_Num.f t163).bind fun t182 => (if t182 = 1300 then ((wharfagelaw0_Num.f t171).bind fun t183 => (some (t183 == 1300))) else (none))) else (none))) else (none))) else (none))) else (none)) = some r := H
  have A9 := Aside0.mk A90
  clear A90
  by_cases c10 : t175 = true
  · subst c10
    have H1 : ((wharfagelaw0_Num.f t141).bind fun t176 => (if t176 = 0 then ((wharfagelaw0_SameCandidates.f k t149 (([(⟨0, 1⟩ : S72), (⟨1, 3⟩ : S72)] : List (S72)))).bind fun t180 => (if t180 = true then ((wharfagelaw0_Num.f t152).bind fun t181 => (if t181 = 0 then ((wharfagelaw0_Num.f t163).bind fun t182 => (if t182 = 1300 then ((wharfagelaw0_Num.f t171).bind fun t183 => (some (t183 == 1300))) else (none))) else (none))) else (none))) else (none))) = some r := by rw [if_pos rfl] at H; exact H
    clear H
    have H := H1
    clear H1
    replace H := Option.bind_eq_some_iff.mp H
    obtain ⟨t176, A110, H⟩ := H
    replace H : (if t176 = 0 then ((wharfagelaw0_SameCandidates.f k t149 (([(⟨0, 1⟩ : S72), (⟨1, 3⟩ : S72)] : List (S72)))).bind fun t180 => (if t180 = true then ((wharfagelaw0_Num.f t152).bind fun t181 => (if t181 = 0 then ((wharfagelaw0_Num.f t163).bind fun t182 => (if t182 = 1300 then ((wharfagelaw0_Num.f t171).bind fun t183 => (some (t183 == 1300))) else (none))) else (none))) else (none))) else (none)) = some r := H
    have A11 := Aside0.mk A110
    clear A110
    by_cases c12 : t176 = 0
    · rw [if_pos c12] at H
      have c12b0 : (t176 == 0) = true := beq_iff_eq.mpr c12
      have c12b1 : (t176 != 0) = false := bne_eq_false_iff_eq.mpr c12
      clear c12
      obtain ⟨y177, hy177⟩ : ∃ y_ : List (S72), y_ = (([(⟨0, 1⟩ : S72), (⟨1, 3⟩ : S72)] : List (S72))) := ⟨_, rfl⟩
      replace H : ((wharfagelaw0_SameCandidates.f k t149 y177).bind fun t180 => (if t180 = true then ((wharfagelaw0_Num.f t152).bind fun t181 => (if t181 = 0 then ((wharfagelaw0_Num.f t163).bind fun t182 => (if t182 = 1300 then ((wharfagelaw0_Num.f t171).bind fun t183 => (some (t183 == 1300))) else (none))) else (none))) else (none))) = some r := by first | (rw [hy177]; with_reducible exact H) | (have H2_ := (Option.bind_some _ _).symm.trans H; rw [hy177]; with_reducible exact H2_) | (have H2_ := (Option.bind_some _ _).symm.trans H; with_reducible exact H2_) | with_reducible exact H | (rw [hy177]; exact H) | exact H
      have Ny177 := Aside0.mk hy177
      clear hy177
      replace H := Option.bind_eq_some_iff.mp H
      obtain ⟨t180, A130, H⟩ := H
      replace H : (if t180 = true then ((wharfagelaw0_Num.f t152).bind fun t181 => (if t181 = 0 then ((wharfagelaw0_Num.f t163).bind fun t182 => (if t182 = 1300 then ((wharfagelaw0_Num.f t171).bind fun t183 => (some (t183 == 1300))) else (none))) else (none))) else (none)) = some r := H
      have A13 := Aside0.mk A130
      clear A130
      by_cases c14 : t180 = true
      · subst c14
        have H1 : ((wharfagelaw0_Num.f t152).bind fun t181 => (if t181 = 0 then ((wharfagelaw0_Num.f t163).bind fun t182 => (if t182 = 1300 then ((wharfagelaw0_Num.f t171).bind fun t183 => (some (t183 == 1300))) else (none))) else (none))) = some r := by rw [if_pos rfl] at H; exact H
        clear H
        have H := H1
        clear H1
        replace H := Option.bind_eq_some_iff.mp H
        obtain ⟨t181, A150, H⟩ := H
        replace H : (if t181 = 0 then ((wharfagelaw0_Num.f t163).bind fun t182 => (if t182 = 1300 then ((wharfagelaw0_Num.f t171).bind fun t183 => (some (t183 == 1300))) else (none))) else (none)) = some r := H
        have A15 := Aside0.mk A150
        clear A150
        by_cases c16 : t181 = 0
        · rw [if_pos c16] at H
          have c16b0 : (t181 == 0) = true := beq_iff_eq.mpr c16
          have c16b1 : (t181 != 0) = false := bne_eq_false_iff_eq.mpr c16
          clear c16
          replace H := Option.bind_eq_some_iff.mp H
          obtain ⟨t182, A170, H⟩ := H
          replace H : (if t182 = 1300 then ((wharfagelaw0_Num.f t171).bind fun t183 => (some (t183 == 1300))) else (none)) = some r := H
          have A17 := Aside0.mk A170
          clear A170
          by_cases c18 : t182 = 1300
          · rw [if_pos c18] at H
            have c18b0 : (t182 == 1300) = true := beq_iff_eq.mpr c18
            have c18b1 : (t182 != 1300) = false := bne_eq_false_iff_eq.mpr c18
            clear c18
            replace H := Option.bind_eq_some_iff.mp H
            obtain ⟨t183, A190, H⟩ := H
            replace H : (some (t183 == 1300)) = some r := H
            have A19 := Aside0.mk A190
            clear A190
            obtain rfl := Option.some.inj H
            go_enter Try.func35, Try.ntmps35
            try go_wp2_with (first | ((with_reducible refine gate_dst (N := 1) rfl ?_); (try (refine gate_guard (by rfl) ?_; dsimp only)); refine box_event ?hg (N := 1) ?hd (cs := #[.bool false, .int .i64 0]) (t := 67) ?hr ?_; (case hd => rfl); (case hg => rfl); (case hr => first | (go_simp; done) | (go_simp; rfl)); intro gb130 hg w20 hbox hb; have n0_ := Aside0.mk (below_step (by repeat (first | (with_reducible first | exact HB.out | apply below_alloc | apply pw_below_drewN | apply below_drew1) | exact HB.out)) hb); have n1_ := Aside0.mk (hbox); have n2_ := Aside0.mk ((by rw [hg]; exact (below_size (by repeat (first | (with_reducible first | exact HB.out | apply below_alloc | apply pw_below_drewN | apply below_drew1) | exact HB.out))) : w.heap.size ≤ gb130)); have n3_ := Aside0.mk ((by rw [hg]; exact (below_size (by repeat (first | (with_reducible first | exact HB.out | apply below_alloc | apply pw_below_drewN | apply below_drew1) | exact HB.out))) : w.heap.size ≤ gb130)); clear HB; have HB := n0_; have BK130 := n1_; have GW130 := n2_; have GE130 := n3_; clear n0_ n1_ n2_ n3_; clear hb hbox hg; have hcz21_0 : w20.cell? ⟨gb130, 0, none⟩ = some (.bool false) := (blk_cell BK130.out 0).trans rfl; have hcz21_1 : w20.cell? ⟨gb130, 1, none⟩ = some (.int .i64 0) := (blk_cell BK130.out 1).trans rfl; have hfz21_0 := blk_frozen BK130.out 0; have hfz21_1 := blk_frozen BK130.out 1))
            have n0_ : Aside0 (((w20.setCell ⟨gb130, 0, none⟩ (.bool true)).setCell ⟨gb130, 1, none⟩ (.int .i64 0)).heap[gb130]? = some (.cells #[.bool true, .int .i64 0] 67 (0, 0))) := ⟨by (with_reducible repeat (first | refine blk_drewN ?_ _ | refine blk_drew ?_ | refine blk_alloc ?_ _)); refine blk_put (cs := #[.bool true, .int .i64 0]) ?_ 1 _ rfl; (with_reducible repeat (first | refine blk_drewN ?_ _ | refine blk_drew ?_ | refine blk_alloc ?_ _)); refine blk_put (cs := #[.bool false, .int .i64 0]) ?_ 0 _ rfl; (with_reducible repeat (first | refine blk_drewN ?_ _ | refine blk_drew ?_ | refine blk_alloc ?_ _)); exact BK130.out⟩
            have n1_ : Aside0 (Below w.heap.size w ((w20.setCell ⟨gb130, 0, none⟩ (.bool true)).setCell ⟨gb130, 1, none⟩ (.int .i64 0))) := ⟨by repeat (first | (with_reducible first | exact HB.out | apply below_alloc | apply pw_below_drewN | apply below_drew1 | refine below_set ?_ GE130.out) | exact HB.out)⟩
            (try clear BK130)
            (try clear HB)
            generalize ((w20.setCell ⟨gb130, 0, none⟩ (.bool true)).setCell ⟨gb130, 1, none⟩ (.int .i64 0)) = w22 at n0_ n1_ ⊢
            have BK130 := n0_
            have HB := n1_
            clear n0_ n1_
            have n0_ := Aside0.mk (blk_drew BK130.out)
            have n1_ := Aside0.mk (below_drew1 HB.out)
            clear BK130
            clear HB
            have BK130 := n0_
            have HB := n1_
            clear n0_ n1_
            refine start_ (n := 11) (S := fun w' => True) (ds := []) #[false, false, false, false, false, false, false, false, false, false, false] (by kernel_rfl) rfl rfl trivial (fun hHeld => ?_); refine with_tabW wharfagelaw13_awake.tab2 wharfagelaw13_awake.bits2 (fun HT_ HW_ => ?_)
            generalize w22.drew = w23 at BK130 HB hHeld ⊢
            refine inv_at [0, 1, 2, 3, 4, 5, 6, 7, 8, 9, 10] (fun a0_ b a w' => ∃ (v133 : Value) (v136 : Value) (v139 : Value) (m0_ : Value) (m5_ : Value) (m6_ : Value) (m7_ : Value) (m9_ : Value), a = putSel a0_ b [(0, 12, m0_), (1, 13, .agg #[.bool true, .int .i64 0]), (2, 14, .agg #[.bool false, .int .i64 0]), (3, 15, .agg #[.bool true, .int .i64 0]), (4, 16, v136), (5, 17, m5_), (6, 11, m6_), (7, 18, m7_), (8, 19, .int .i64 t141), (9, 2, m9_), (10, 3, .int .i64 t141)] ∧ (w'.heap[gb130]? = some (.cells #[.bool true, .int .i64 0] 67 (0, 0))) ∧ (Below w.heap.size w w') ∧ (b 0 = true → Kd.N k70 70 w' w.heap.size (fun _ => True) v133 t132) ∧ (b 4 = true → Kd.R k67 67 w' w.heap.size (fun _ => True) v136 y135) ∧ (b 5 = true → Kd.R k72 72 w' w.heap.size (fun _ => True) v139 t138) ∧ (b 0 = true → (m0_ : Value) = .agg #[.int .i64 t131, v133]) ∧ (b 5 = true → (m5_ : Value) = .tuple #[v139, .int .i64 t141]) ∧ (b 6 = true → (m6_ : Value) = .tuple #[v139, .int .i64 t141]) ∧ (b 7 = true → (m7_ : Value) = v139) ∧ (b 9 = true → (m9_ : Value) = v139)) HT_.out HW_.out (by kernel_rfl) (by kernel_rfl) ?_ ?_ ?_
            · exact ⟨.bool false, .bool false, .bool false, .bool false, .bool false, .bool false, .bool false, .bool false, by simp only [putSel, Bool.false_eq_true, if_false], BK130.out, HB.out, fun h_ => absurd h_ (by decide), fun h_ => absurd h_ (by decide), fun h_ => absurd h_ (by decide), fun h_ => absurd h_ (by decide), fun h_ => absurd h_ (by decide), fun h_ => absurd h_ (by decide), fun h_ => absurd h_ (by decide), fun h_ => absurd h_ (by decide)⟩
            · skip
              clear BK130 HB
              refine steps_cons ?_ ?_
              · rintro b a w' ⟨v133, v136, v139, m0_, m5_, m6_, m7_, m9_, ha, Q_BK130, Q_HB, Q_HO134, Q_HO137, Q_HO140, Q_X0_, Q_X5_, Q_X6_, Q_X7_, Q_X9_⟩ hb_ hon hoff
                refine ⟨_, rfl, fun K hK => ?_⟩
                replace ha := Aside0.mk ha
                have BK130 := Aside0.mk Q_BK130
                have HB := Aside0.mk Q_HB
                refine goes_ Try.func36 (by kernel_rfl) rfl #[] (by rfl) rfl rfl (by first | (simp only [List.map_toArray, List.map_cons, List.map_nil, Act.eval, Array.getD_eq_getD_getElem?, Option.getD_some]; done) | (simp only [List.map_toArray, List.map_cons, List.map_nil, Act.eval, Array.getD_eq_getD_getElem?, Option.getD_some]; rfl)) ?_
                with_reducible refine (wharfagelaw13_given.calls  t131 t132 _ A1.out).mono ?_
                rintro e w24 ⟨v133, rfl, ho0, hb⟩
                refine ⟨_, rfl, ?_⟩
                have n0_ := Aside0.mk (Kd.N_lower (Kd.N_mono (ok' := fun k_ => k_ ≠ gb130) ho0 (fun k_ hk_ => (Kd.freshB (g := gb130) (o := .cells #[.bool true, .int .i64 0] 67 (0, 0)) (by (with_reducible repeat (first | refine blk_drewN ?_ _ | refine blk_drew ?_ | refine blk_alloc ?_ _)); exact BK130.out) k_ hk_))) (below_size (by repeat (first | (with_reducible first | exact HB.out | apply below_alloc | apply pw_below_drewN | apply below_drew1 | refine below_set ?_ GE130.out) | exact HB.out))))
                have n1_ := Aside0.mk (blk_below (g := gb130) (o := .cells #[.bool true, .int .i64 0] 67 (0, 0)) (by (with_reducible repeat (first | refine blk_drewN ?_ _ | refine blk_drew ?_ | refine blk_alloc ?_ _)); exact BK130.out) hb)
                have n2_ := Aside0.mk (below_step (by repeat (first | (with_reducible first | exact HB.out | apply below_alloc | apply pw_below_drewN | apply below_drew1 | refine below_set ?_ GE130.out) | exact HB.out)) hb)
                have z_HO137 := fun (h0_ : b 4 = true) => (show Kd.R k67 67 w24 w.heap.size (fun _ => True) v136 y135 from by first | exact (Kd.R_below (by (with_reducible repeat (first | apply Kd.R_alloc | apply Kd.R_drewN | apply Kd.R_drew)); exact (Q_HO137 h0_)) hb) | exact Kd.R_mono (Kd.R_below (by (with_reducible repeat (first | apply Kd.R_alloc | apply Kd.R_drewN | apply Kd.R_drew)); exact (Q_HO137 h0_)) hb) (fun _ h_ => by first | trivial | exact h_ | exact h_.1))
                clear BK130
                clear HB
                have HO134 := n0_
                have BK130 := n1_
                have HB := n2_
                clear n0_ n1_ n2_
                (try clear hb)
                (try clear hb2)
                (try clear hk)
                (try clear hi)
                (try clear ho0)
                refine hK.out _ _ ⟨v133, v136, v139, (.agg #[.int .i64 t131, v133]), m5_, m6_, m7_, m9_, (by rw [ha.out]; exact putSel_upk 0 hb_ rfl rfl rfl), (by (with_reducible repeat (first | refine blk_drewN ?_ _ | refine blk_drew ?_ | refine blk_alloc ?_ _)); exact BK130.out), (by repeat (first | (with_reducible first | exact HB.out | apply below_alloc | apply pw_below_drewN | apply below_drew1 | refine below_set ?_ GE130.out) | exact HB.out)), fun _ => (by (with_reducible repeat (first | apply Kd.N_alloc | apply Kd.N_drewN | apply Kd.N_drew)); (first | exact HO134.out | exact Kd.N_mono HO134.out (fun _ _ => trivial) | exact Kd.R_mono HO134.out (fun _ _ => trivial))), z_HO137, fun h0_ => absurd ((hoff 5 (by kernel_rfl)).symm.trans h0_) (by decide), fun _ => rfl, fun h0_ => absurd ((hoff 5 (by kernel_rfl)).symm.trans h0_) (by decide), fun h0_ => absurd ((hoff 6 (by kernel_rfl)).symm.trans h0_) (by decide), fun h0_ => absurd ((hoff 7 (by kernel_rfl)).symm.trans h0_) (by decide), fun h0_ => absurd ((hoff 9 (by kernel_rfl)).symm.trans h0_) (by decide)⟩
              refine steps_cons ?_ ?_
              · rintro b a w' ⟨v133, v136, v139, m0_, m5_, m6_, m7_, m9_, ha, Q_BK130, Q_HB, Q_HO134, Q_HO137, Q_HO140, Q_X0_, Q_X5_, Q_X6_, Q_X7_, Q_X9_⟩ hb_ hon hoff
                refine ⟨_, rfl, fun K hK => ?_⟩
                have e1 : a.tmps[1]? = some (.pointer (some ⟨gb130, 0, none⟩)) := by rw [ha]; exact (putSel_off rfl).trans rfl
                replace ha := Aside0.mk ha
                have BK130 := Aside0.mk Q_BK130
                have HB := Aside0.mk Q_HB
                have hc0_ : w'.cell? ⟨gb130, 0, none⟩ = some (.bool true) := (blk_cell BK130.out 0).trans rfl
                have hc1_ : w'.cell? ⟨gb130, 1, none⟩ = some (.int .i64 0) := (blk_cell BK130.out 1).trans rfl
                refine value_ (w1 := w') (v := .agg #[.bool true, .int .i64 0]) (by rfl) rfl ?_ ?_
                · go_simp
                  (try simp only [i64_w])
                  try rfl
                refine hK.out _ _ ⟨v133, v136, v139, m0_, m5_, m6_, m7_, m9_, (by rw [ha.out]; exact putSel_upk 1 hb_ rfl rfl rfl), Q_BK130, Q_HB, Q_HO134, fun h0_ => absurd ((hoff 4 (by kernel_rfl)).symm.trans h0_) (by decide), fun h0_ => absurd ((hoff 5 (by kernel_rfl)).symm.trans h0_) (by decide), Q_X0_, fun h0_ => absurd ((hoff 5 (by kernel_rfl)).symm.trans h0_) (by decide), fun h0_ => absurd ((hoff 6 (by kernel_rfl)).symm.trans h0_) (by decide), fun h0_ => absurd ((hoff 7 (by kernel_rfl)).symm.trans h0_) (by decide), fun h0_ => absurd ((hoff 9 (by kernel_rfl)).symm.trans h0_) (by decide)⟩
              refine steps_cons ?_ ?_
              · rintro b a w' ⟨v133, v136, v139, m0_, m5_, m6_, m7_, m9_, ha, Q_BK130, Q_HB, Q_HO134, Q_HO137, Q_HO140, Q_X0_, Q_X5_, Q_X6_, Q_X7_, Q_X9_⟩ hb_ hon hoff
                refine ⟨_, rfl, fun K hK => ?_⟩
                replace ha := Aside0.mk ha
                have BK130 := Aside0.mk Q_BK130
                have HB := Aside0.mk Q_HB
                refine value_ (w1 := w') (v := .agg #[.bool false, .int .i64 0]) (by rfl) rfl ?_ ?_
                · go_simp
                  (try simp only [i64_w])
                  try rfl
                refine hK.out _ _ ⟨v133, v136, v139, m0_, m5_, m6_, m7_, m9_, (by rw [ha.out]; exact putSel_upk 2 hb_ rfl rfl rfl), Q_BK130, Q_HB, Q_HO134, fun h0_ => absurd ((hoff 4 (by kernel_rfl)).symm.trans h0_) (by decide), fun h0_ => absurd ((hoff 5 (by kernel_rfl)).symm.trans h0_) (by decide), Q_X0_, fun h0_ => absurd ((hoff 5 (by kernel_rfl)).symm.trans h0_) (by decide), fun h0_ => absurd ((hoff 6 (by kernel_rfl)).symm.trans h0_) (by decide), fun h0_ => absurd ((hoff 7 (by kernel_rfl)).symm.trans h0_) (by decide), fun h0_ => absurd ((hoff 9 (by kernel_rfl)).symm.trans h0_) (by decide)⟩
              refine steps_cons ?_ ?_
              · rintro b a w' ⟨v133, v136, v139, m0_, m5_, m6_, m7_, m9_, ha, Q_BK130, Q_HB, Q_HO134, Q_HO137, Q_HO140, Q_X0_, Q_X5_, Q_X6_, Q_X7_, Q_X9_⟩ hb_ hon hoff
                refine ⟨_, rfl, fun K hK => ?_⟩
                have e1 : a.tmps[1]? = some (.pointer (some ⟨gb130, 0, none⟩)) := by rw [ha]; exact (putSel_off rfl).trans rfl
                replace ha := Aside0.mk ha
                have BK130 := Aside0.mk Q_BK130
                have HB := Aside0.mk Q_HB
                have hc0_ : w'.cell? ⟨gb130, 0, none⟩ = some (.bool true) := (blk_cell BK130.out 0).trans rfl
                have hc1_ : w'.cell? ⟨gb130, 1, none⟩ = some (.int .i64 0) := (blk_cell BK130.out 1).trans rfl
                refine value_ (w1 := w') (v := .agg #[.bool true, .int .i64 0]) (by rfl) rfl ?_ ?_
                · go_simp
                  (try simp only [i64_w])
                  try rfl
                refine hK.out _ _ ⟨v133, v136, v139, m0_, m5_, m6_, m7_, m9_, (by rw [ha.out]; exact putSel_upk 3 hb_ rfl rfl rfl), Q_BK130, Q_HB, Q_HO134, fun h0_ => absurd ((hoff 4 (by kernel_rfl)).symm.trans h0_) (by decide), fun h0_ => absurd ((hoff 5 (by kernel_rfl)).symm.trans h0_) (by decide), Q_X0_, fun h0_ => absurd ((hoff 5 (by kernel_rfl)).symm.trans h0_) (by decide), fun h0_ => absurd ((hoff 6 (by kernel_rfl)).symm.trans h0_) (by decide), fun h0_ => absurd ((hoff 7 (by kernel_rfl)).symm.trans h0_) (by decide), fun h0_ => absurd ((hoff 9 (by kernel_rfl)).symm.trans h0_) (by decide)⟩
              refine steps_cons ?_ ?_
              · rintro b a w' ⟨v133, v136, v139, m0_, m5_, m6_, m7_, m9_, ha, Q_BK130, Q_HB, Q_HO134, Q_HO137, Q_HO140, Q_X0_, Q_X5_, Q_X6_, Q_X7_, Q_X9_⟩ hb_ hon hoff
                refine ⟨_, rfl, fun K hK => ?_⟩
                have e13 : a.tmps[13]? = some (.agg #[.bool true, .int .i64 0]) := by rw [ha]; exact putSel_on (e := (1, 13, .agg #[.bool true, .int .i64 0])) 1 rfl rfl (hon 1 (by kernel_rfl)) rfl
                have e14 : a.tmps[14]? = some (.agg #[.bool false, .int .i64 0]) := by rw [ha]; exact putSel_on (e := (2, 14, .agg #[.bool false, .int .i64 0])) 2 rfl rfl (hon 2 (by kernel_rfl)) rfl
                have e15 : a.tmps[15]? = some (.agg #[.bool true, .int .i64 0]) := by rw [ha]; exact putSel_on (e := (3, 15, .agg #[.bool true, .int .i64 0])) 3 rfl rfl (hon 3 (by kernel_rfl)) rfl
                replace ha := Aside0.mk ha
                have BK130 := Aside0.mk Q_BK130
                have HB := Aside0.mk Q_HB
                refine Kd.R_lit_step k67 _ 67 ?hg (N := 16) ?hd (xs := ([(⟨true, 0⟩ : S67), (⟨false, 0⟩ : S67), (⟨true, 0⟩ : S67)] : List (S67))) (inner := [.bool true, .int .i64 0, .bool false, .int .i64 0, .bool true, .int .i64 0]) (ok := fun _ => True) (okp := fun _ => True) ?hr ?hp (fun _ hk => by first | trivial | exact hk | exact hk | exact hk.1 | exact hk.2 | exact ⟨hk.1.1, hk.2⟩ | exact ⟨hk.1.1, hk.1.2⟩ | simp_all) trivial (Below.refl _ _) (Nat.le_refl _) (by simp) ?_; (case hd => rfl); (case hg => rfl); (case hr => first | (go_simp; done) | (go_simp; rfl)); (case hp => exact (Reps.c2 (show Kd.M k67 _ _ _ (⟨true, 0⟩ : S67) [.bool true, .int .i64 0] from (k67_mkM _ _ _ (⟨true, 0⟩ : S67) )) (Reps.c2 (show Kd.M k67 _ _ _ (⟨false, 0⟩ : S67) [.bool false, .int .i64 0] from (k67_mkM _ _ _ (⟨false, 0⟩ : S67) )) (Reps.c2 (show Kd.M k67 _ _ _ (⟨true, 0⟩ : S67) [.bool true, .int .i64 0] from (k67_mkM _ _ _ (⟨true, 0⟩ : S67) )) (Reps.none _ _)))))
                intro v136 w24 ho25 hb hg_ hnew_
                clear hg_ hnew_
                (first | rw [← Ny135.out] at ho25 | (simp only [Int.reduceToNat] at ho25; rw [← Ny135.out] at ho25))
                have n0_ := Aside0.mk (Kd.R_lower (Kd.R_newB ho25 (g := gb130) (o := .cells #[.bool true, .int .i64 0] 67 (0, 0)) (by (with_reducible repeat (first | refine blk_drewN ?_ _ | refine blk_drew ?_ | refine blk_alloc ?_ _)); exact BK130.out)) (below_size (by repeat (first | (with_reducible first | exact HB.out | apply below_alloc | apply pw_below_drewN | apply below_drew1 | refine below_set ?_ GE130.out) | exact HB.out))))
                have n1_ := Aside0.mk (blk_below (g := gb130) (o := .cells #[.bool true, .int .i64 0] 67 (0, 0)) (by (with_reducible repeat (first | refine blk_drewN ?_ _ | refine blk_drew ?_ | refine blk_alloc ?_ _)); exact BK130.out) hb)
                have n2_ := Aside0.mk (below_step (by repeat (first | (with_reducible first | exact HB.out | apply below_alloc | apply pw_below_drewN | apply below_drew1 | refine below_set ?_ GE130.out) | exact HB.out)) hb)
                have z_HO134 := fun (h0_ : b 0 = true) => (show Kd.N k70 70 w24 w.heap.size (fun _ => True) v133 t132 from by first | exact (Kd.N_elder' (by (with_reducible repeat (first | apply Kd.N_alloc | apply Kd.N_drewN | apply Kd.N_drew)); exact (Q_HO134 h0_)) (Kd.R_base ho25) hb) | exact Kd.N_mono (Kd.N_elder' (by (with_reducible repeat (first | apply Kd.N_alloc | apply Kd.N_drewN | apply Kd.N_drew)); exact (Q_HO134 h0_)) (Kd.R_base ho25) hb) (fun _ h_ => by first | trivial | exact h_ | exact h_.1))
                clear BK130
                clear HB
                have HO137 := n0_
                have BK130 := n1_
                have HB := n2_
                clear n0_ n1_ n2_
                clear hb ho25
                refine hK.out _ _ ⟨v133, v136, v139, m0_, m5_, m6_, m7_, m9_, (by rw [ha.out]; exact putSel_upk 4 hb_ rfl rfl rfl), (by (with_reducible repeat (first | refine blk_drewN ?_ _ | refine blk_drew ?_ | refine blk_alloc ?_ _)); exact BK130.out), (by repeat (first | (with_reducible first | exact HB.out | apply below_alloc | apply pw_below_drewN | apply below_drew1 | refine below_set ?_ GE130.out) | exact HB.out)), z_HO134, fun _ => (by (with_reducible repeat (first | apply Kd.R_alloc | apply Kd.R_drewN | apply Kd.R_drew)); exact Kd.R_mono HO137.out (fun _ hk => by first | trivial | exact hk.2 | exact hk | exact hk.1 | exact hk.2 | exact ⟨hk.1.1, hk.2⟩ | exact ⟨hk.1.1, hk.1.2⟩ | simp_all)), fun h0_ => absurd ((hoff 5 (by kernel_rfl)).symm.trans h0_) (by decide), Q_X0_, fun h0_ => absurd ((hoff 5 (by kernel_rfl)).symm.trans h0_) (by decide), fun h0_ => absurd ((hoff 6 (by kernel_rfl)).symm.trans h0_) (by decide), fun h0_ => absurd ((hoff 7 (by kernel_rfl)).symm.trans h0_) (by decide), fun h0_ => absurd ((hoff 9 (by kernel_rfl)).symm.trans h0_) (by decide)⟩
              refine steps_cons ?_ ?_
              · rintro b a w' ⟨v133, v136, v139, m0_, m5_, m6_, m7_, m9_, ha, Q_BK130, Q_HB, Q_HO134, Q_HO137, Q_HO140, Q_X0_, Q_X5_, Q_X6_, Q_X7_, Q_X9_⟩ hb_ hon hoff
                refine ⟨_, rfl, fun K hK => ?_⟩
                have e12 : a.tmps[12]? = some (m0_) := by rw [ha]; exact putSel_on (e := (0, 12, m0_)) 0 rfl rfl (hon 0 (by kernel_rfl)) rfl
                rw [Q_X0_ (hon 0 (by kernel_rfl))] at e12
                have e16 : a.tmps[16]? = some (v136) := by rw [ha]; exact putSel_on (e := (4, 16, v136)) 4 rfl rfl (hon 4 (by kernel_rfl)) rfl
                replace ha := Aside0.mk ha
                have BK130 := Aside0.mk Q_BK130
                have HB := Aside0.mk Q_HB
                have HO134 := Aside0.mk (Q_HO134 (hon 0 (by kernel_rfl)))
                have HO137 := Aside0.mk (Q_HO137 (hon 4 (by kernel_rfl)))
                obtain ⟨Ao28, co28, eo28⟩ := Kd.N_slice HO134.out
                (first | subst eo28 | (injection eo28 with f1_ f2_ f3_; have f4_ := f1_.symm; have f5_ := f3_.symm; clear f1_ f2_ f3_; subst f4_; subst f5_))
                obtain ⟨Ao29, co29, eo29⟩ := Kd.R_slice HO137.out
                (first | subst eo29 | (injection eo29 with f1_ f2_ f3_; have f4_ := f1_.symm; have f5_ := f3_.symm; clear f1_ f2_ f3_; subst f4_; subst f5_))
                refine goes_ Try.func27 (by kernel_rfl) rfl #[.agg #[.int .i64 t131, .slice Ao28 t132.length co28], .slice Ao29 y135.length co29] (by rfl) rfl rfl (by first | (simp only [List.map_toArray, List.map_cons, List.map_nil, Act.eval, Array.getD_eq_getD_getElem?, Option.getD_some, e12, e16]; done) | (simp only [List.map_toArray, List.map_cons, List.map_nil, Act.eval, Array.getD_eq_getD_getElem?, Option.getD_some, e12, e16]; rfl)) ?_
                with_reducible refine (cand_Sites.calls k t131 _ _ t132 _ _ y135 t138 t141 _ ?side1 ?side2 ?side3 ?side4 A2.out).mono ?_
                (case side1 => repeat (first | exact (Kd.N_reads' HO134.out).2.2 | (with_reducible refine Kd.C_alloc ?_ _) | (with_reducible refine Kd.C_drewN ?_ _) | (with_reducible refine Kd.C_drew ?_)))
                (case side2 => exact (Kd.N_reads' HO134.out).2.1)
                (case side3 => repeat (first | exact (Kd.R_reads' HO137.out).2.2 | (with_reducible refine Kd.C_alloc ?_ _) | (with_reducible refine Kd.C_drewN ?_ _) | (with_reducible refine Kd.C_drew ?_)))
                (case side4 => exact (Kd.R_reads' HO137.out).2.1)
                rintro e w30 ⟨v139, rfl, ho0, hb⟩
                refine ⟨_, rfl, ?_⟩
                have n0_ := Aside0.mk (Kd.N_elder' (by (with_reducible repeat (first | apply Kd.N_alloc | apply Kd.N_drewN | apply Kd.N_drew)); (first | exact HO134.out | exact Kd.N_mono HO134.out (fun _ _ => trivial) | exact Kd.R_mono HO134.out (fun _ _ => trivial))) (Kd.R_base ho0) hb)
                have n1_ := Aside0.mk (Kd.R_below (by (with_reducible repeat (first | apply Kd.R_alloc | apply Kd.R_drewN | apply Kd.R_drew)); (first | exact HO137.out | exact Kd.N_mono HO137.out (fun _ _ => trivial) | exact Kd.R_mono HO137.out (fun _ _ => trivial))) hb)
                have n2_ := Aside0.mk (Kd.R_lower ho0 (below_size (by repeat (first | (with_reducible first | exact HB.out | apply below_alloc | apply pw_below_drewN | apply below_drew1 | refine below_set ?_ GE130.out) | exact HB.out))))
                have n3_ := Aside0.mk (blk_below (g := gb130) (o := .cells #[.bool true, .int .i64 0] 67 (0, 0)) (by (with_reducible repeat (first | refine blk_drewN ?_ _ | refine blk_drew ?_ | refine blk_alloc ?_ _)); exact BK130.out) hb)
                have n4_ := Aside0.mk (below_step (by repeat (first | (with_reducible first | exact HB.out | apply below_alloc | apply pw_below_drewN | apply below_drew1 | refine below_set ?_ GE130.out) | exact HB.out)) hb)
                clear HO134
                clear HO137
                clear BK130
                clear HB
                have HO134 := n0_
                have HO137 := n1_
                have HO140 := n2_
                have BK130 := n3_
                have HB := n4_
                clear n0_ n1_ n2_ n3_ n4_
                (try clear hb)
                (try clear hb2)
                (try clear hk)
                (try clear hi)
                (try clear ho0)
                refine hK.out _ _ ⟨.slice Ao28 t132.length co28, .slice Ao29 y135.length co29, v139, m0_, (.tuple #[v139, .int .i64 t141]), m6_, m7_, m9_, (by rw [ha.out]; exact putSel_upk 5 hb_ rfl rfl rfl), (by (with_reducible repeat (first | refine blk_drewN ?_ _ | refine blk_drew ?_ | refine blk_alloc ?_ _)); exact BK130.out), (by repeat (first | (with_reducible first | exact HB.out | apply below_alloc | apply pw_below_drewN | apply below_drew1 | refine below_set ?_ GE130.out) | exact HB.out)), fun _ => (by (with_reducible repeat (first | apply Kd.N_alloc | apply Kd.N_drewN | apply Kd.N_drew)); exact Kd.N_mono HO134.out (fun _ hk => by first | trivial | exact ⟨hk.1.1, ⟨hk.2, hk.1.2⟩⟩ | exact hk | exact hk.1 | exact hk.2 | exact ⟨hk.1.1, hk.2⟩ | exact ⟨hk.1.1, hk.1.2⟩ | simp_all)), fun _ => (by (with_reducible repeat (first | apply Kd.R_alloc | apply Kd.R_drewN | apply Kd.R_drew)); (first | exact HO137.out | exact Kd.N_mono HO137.out (fun _ _ => trivial) | exact Kd.R_mono HO137.out (fun _ _ => trivial))), fun _ => (by (with_reducible repeat (first | apply Kd.R_alloc | apply Kd.R_drewN | apply Kd.R_drew)); (first | exact HO140.out | exact Kd.N_mono HO140.out (fun _ _ => trivial) | exact Kd.R_mono HO140.out (fun _ _ => trivial))), Q_X0_, fun _ => rfl, fun h0_ => absurd ((hoff 6 (by kernel_rfl)).symm.trans h0_) (by decide), fun h0_ => absurd ((hoff 7 (by kernel_rfl)).symm.trans h0_) (by decide), fun h0_ => absurd ((hoff 9 (by kernel_rfl)).symm.trans h0_) (by decide)⟩
              refine steps_cons ?_ ?_
              · rintro b a w' ⟨v133, v136, v139, m0_, m5_, m6_, m7_, m9_, ha, Q_BK130, Q_HB, Q_HO134, Q_HO137, Q_HO140, Q_X0_, Q_X5_, Q_X6_, Q_X7_, Q_X9_⟩ hb_ hon hoff
                refine ⟨_, rfl, fun K hK => ?_⟩
                have e17 : a.tmps[17]? = some (m5_) := by rw [ha]; exact putSel_on (e := (5, 17, m5_)) 5 rfl rfl (hon 5 (by kernel_rfl)) rfl
                rw [Q_X5_ (hon 5 (by kernel_rfl))] at e17
                replace ha := Aside0.mk ha
                have BK130 := Aside0.mk Q_BK130
                have HB := Aside0.mk Q_HB
                have HO134 := Aside0.mk (Q_HO134 (hon 0 (by kernel_rfl)))
                have HO137 := Aside0.mk (Q_HO137 (hon 4 (by kernel_rfl)))
                have HO140 := Aside0.mk (Q_HO140 (hon 5 (by kernel_rfl)))
                refine value_ (w1 := w') (v := .tuple #[v139, .int .i64 t141]) (by rfl) rfl ?_ ?_
                · go_simp
                  (try simp only [i64_w])
                  try rfl
                refine hK.out _ _ ⟨v133, v136, v139, m0_, m5_, (.tuple #[v139, .int .i64 t141]), m7_, m9_, (by rw [ha.out]; exact putSel_upk 6 hb_ rfl rfl rfl), Q_BK130, Q_HB, Q_HO134, Q_HO137, Q_HO140, Q_X0_, Q_X5_, fun _ => rfl, fun h0_ => absurd ((hoff 7 (by kernel_rfl)).symm.trans h0_) (by decide), fun h0_ => absurd ((hoff 9 (by kernel_rfl)).symm.trans h0_) (by decide)⟩
              refine steps_cons ?_ ?_
              · rintro b a w' ⟨v133, v136, v139, m0_, m5_, m6_, m7_, m9_, ha, Q_BK130, Q_HB, Q_HO134, Q_HO137, Q_HO140, Q_X0_, Q_X5_, Q_X6_, Q_X7_, Q_X9_⟩ hb_ hon hoff
                refine ⟨_, rfl, fun K hK => ?_⟩
                have e11 : a.tmps[11]? = some (m6_) := by rw [ha]; exact putSel_on (e := (6, 11, m6_)) 6 rfl rfl (hon 6 (by kernel_rfl)) rfl
                rw [Q_X6_ (hon 6 (by kernel_rfl))] at e11
                replace ha := Aside0.mk ha
                have BK130 := Aside0.mk Q_BK130
                have HB := Aside0.mk Q_HB
                have HO134 := Aside0.mk (Q_HO134 (hon 0 (by kernel_rfl)))
                have HO137 := Aside0.mk (Q_HO137 (hon 4 (by kernel_rfl)))
                have HO140 := Aside0.mk (Q_HO140 (hon 5 (by kernel_rfl)))
                obtain ⟨Ao7_0, co7_0, eo_⟩ := Kd.R_slice HO140.out
                subst eo_
                refine value_ (w1 := w') (v := .slice Ao7_0 t138.length co7_0) (by rfl) rfl ?_ ?_
                · go_simp
                  (try simp only [i64_w])
                  try rfl
                refine hK.out _ _ ⟨v133, v136, .slice Ao7_0 t138.length co7_0, m0_, m5_, m6_, (.slice Ao7_0 t138.length co7_0), m9_, (by rw [ha.out]; exact putSel_upk 7 hb_ rfl rfl rfl), Q_BK130, Q_HB, Q_HO134, Q_HO137, Q_HO140, Q_X0_, Q_X5_, Q_X6_, fun _ => rfl, fun h0_ => absurd ((hoff 9 (by kernel_rfl)).symm.trans h0_) (by decide)⟩
              refine steps_cons ?_ ?_
              · rintro b a w' ⟨v133, v136, v139, m0_, m5_, m6_, m7_, m9_, ha, Q_BK130, Q_HB, Q_HO134, Q_HO137, Q_HO140, Q_X0_, Q_X5_, Q_X6_, Q_X7_, Q_X9_⟩ hb_ hon hoff
                refine ⟨_, rfl, fun K hK => ?_⟩
                have e11 : a.tmps[11]? = some (m6_) := by rw [ha]; exact putSel_on (e := (6, 11, m6_)) 6 rfl rfl (hon 6 (by kernel_rfl)) rfl
                rw [Q_X6_ (hon 6 (by kernel_rfl))] at e11
                replace ha := Aside0.mk ha
                have BK130 := Aside0.mk Q_BK130
                have HB := Aside0.mk Q_HB
                have HO134 := Aside0.mk (Q_HO134 (hon 0 (by kernel_rfl)))
                have HO137 := Aside0.mk (Q_HO137 (hon 4 (by kernel_rfl)))
                have HO140 := Aside0.mk (Q_HO140 (hon 5 (by kernel_rfl)))
                obtain ⟨Ao8_0, co8_0, eo_⟩ := Kd.R_slice HO140.out
                subst eo_
                refine value_ (w1 := w') (v := .int .i64 t141) (by rfl) rfl ?_ ?_
                · go_simp
                  (try simp only [i64_w])
                  try rfl
                refine hK.out _ _ ⟨v133, v136, .slice Ao8_0 t138.length co8_0, m0_, m5_, m6_, m7_, m9_, (by rw [ha.out]; exact putSel_upk 8 hb_ rfl rfl rfl), Q_BK130, Q_HB, Q_HO134, Q_HO137, Q_HO140, Q_X0_, Q_X5_, Q_X6_, Q_X7_, Q_X9_⟩
              refine steps_cons ?_ ?_
              · rintro b a w' ⟨v133, v136, v139, m0_, m5_, m6_, m7_, m9_, ha, Q_BK130, Q_HB, Q_HO134, Q_HO137, Q_HO140, Q_X0_, Q_X5_, Q_X6_, Q_X7_, Q_X9_⟩ hb_ hon hoff
                refine ⟨_, rfl, fun K hK => ?_⟩
                have e18 : a.tmps[18]? = some (m7_) := by rw [ha]; exact putSel_on (e := (7, 18, m7_)) 7 rfl rfl (hon 7 (by kernel_rfl)) rfl
                rw [Q_X7_ (hon 7 (by kernel_rfl))] at e18
                replace ha := Aside0.mk ha
                have BK130 := Aside0.mk Q_BK130
                have HB := Aside0.mk Q_HB
                have HO134 := Aside0.mk (Q_HO134 (hon 0 (by kernel_rfl)))
                have HO137 := Aside0.mk (Q_HO137 (hon 4 (by kernel_rfl)))
                have HO140 := Aside0.mk (Q_HO140 (hon 5 (by kernel_rfl)))
                refine value_ (w1 := w') (v := v139) (by rfl) rfl ?_ ?_
                · go_simp
                  (try simp only [i64_w])
                  try rfl
                refine hK.out _ _ ⟨v133, v136, v139, m0_, m5_, m6_, m7_, (v139), (by rw [ha.out]; exact putSel_upk 9 hb_ rfl rfl rfl), Q_BK130, Q_HB, Q_HO134, Q_HO137, Q_HO140, Q_X0_, Q_X5_, Q_X6_, Q_X7_, fun _ => rfl⟩
              refine steps_cons ?_ ?_
              · rintro b a w' ⟨v133, v136, v139, m0_, m5_, m6_, m7_, m9_, ha, Q_BK130, Q_HB, Q_HO134, Q_HO137, Q_HO140, Q_X0_, Q_X5_, Q_X6_, Q_X7_, Q_X9_⟩ hb_ hon hoff
                refine ⟨_, rfl, fun K hK => ?_⟩
                have e19 : a.tmps[19]? = some (.int .i64 t141) := by rw [ha]; exact putSel_on (e := (8, 19, .int .i64 t141)) 8 rfl rfl (hon 8 (by kernel_rfl)) rfl
                replace ha := Aside0.mk ha
                have BK130 := Aside0.mk Q_BK130
                have HB := Aside0.mk Q_HB
                have HO134 := Aside0.mk (Q_HO134 (hon 0 (by kernel_rfl)))
                have HO137 := Aside0.mk (Q_HO137 (hon 4 (by kernel_rfl)))
                have HO140 := Aside0.mk (Q_HO140 (hon 5 (by kernel_rfl)))
                refine value_ (w1 := w') (v := .int .i64 t141) (by rfl) rfl ?_ ?_
                · go_simp
                  (try simp only [i64_w])
                  try rfl
                refine hK.out _ _ ⟨v133, v136, v139, m0_, m5_, m6_, m7_, m9_, (by rw [ha.out]; exact putSel_upk 10 hb_ rfl rfl rfl), Q_BK130, Q_HB, Q_HO134, Q_HO137, Q_HO140, Q_X0_, Q_X5_, Q_X6_, Q_X7_, Q_X9_⟩
              exact steps_nil
            rintro b a w30 hall ⟨v133, v136, v139, m0_, m5_, m6_, m7_, m9_, ha, Q_BK130, Q_HB, Q_HO134, Q_HO137, Q_HO140, Q_X0_, Q_X5_, Q_X6_, Q_X7_, Q_X9_⟩
            clear BK130 HB
            have hb0_ := hall 0 (by kernel_rfl)
            have hb1_ := hall 1 (by kernel_rfl)
            have hb2_ := hall 2 (by kernel_rfl)
            have hb3_ := hall 3 (by kernel_rfl)
            have hb4_ := hall 4 (by kernel_rfl)
            have hb5_ := hall 5 (by kernel_rfl)
            have hb6_ := hall 6 (by kernel_rfl)
            have hb7_ := hall 7 (by kernel_rfl)
            have hb8_ := hall 8 (by kernel_rfl)
            have hb9_ := hall 9 (by kernel_rfl)
            have hb10_ := hall 10 (by kernel_rfl)
            subst ha
            obtain rfl := (Q_X0_ hb0_).symm
            obtain rfl := (Q_X5_ hb5_).symm
            obtain rfl := (Q_X6_ hb6_).symm
            obtain rfl := (Q_X7_ hb7_).symm
            obtain rfl := (Q_X9_ hb9_).symm
            simp only [putSel, hb0_, hb1_, hb2_, hb3_, hb4_, hb5_, hb6_, hb7_, hb8_, hb9_, hb10_, if_true, Act.put, List.setIfInBounds_toArray, List.set_cons_zero, List.set_cons_succ]
            have BK130 := Aside0.mk Q_BK130
            clear Q_BK130
            have HB := Aside0.mk Q_HB
            clear Q_HB
            have HO134 := Aside0.mk (Q_HO134 hb0_)
            clear Q_HO134
            have HO137 := Aside0.mk (Q_HO137 hb4_)
            clear Q_HO137
            have HO140 := Aside0.mk (Q_HO140 hb5_)
            clear Q_HO140
            clear hall hb0_ hb1_ hb2_ hb3_ hb4_ hb5_ hb6_ hb7_ hb8_ hb9_ hb10_
            try go_wp2
            have n0_ := Aside0.mk (Kd.N_drew HO134.out)
            have n1_ := Aside0.mk (Kd.R_drew HO137.out)
            have n2_ := Aside0.mk (Kd.R_drew HO140.out)
            have n3_ := Aside0.mk (blk_drew BK130.out)
            have n4_ := Aside0.mk (below_drew1 HB.out)
            clear HO134
            clear HO137
            clear HO140
            clear BK130
            clear HB
            have HO134 := n0_
            have HO137 := n1_
            have HO140 := n2_
            have BK130 := n3_
            have HB := n4_
            clear n0_ n1_ n2_ n3_ n4_
            refine start_ (n := 12) (S := fun w' => True) (ds := []) #[false, false, false, false, false, false, false, false, false, false, false, false] (by kernel_rfl) rfl rfl trivial (fun hHeld => ?_); refine with_tabW wharfagelaw13_awake.tab3 wharfagelaw13_awake.bits3 (fun HT_ HW_ => ?_)
            generalize w30.drew = w31 at HO134 HO137 HO140 BK130 HB hHeld ⊢
            refine inv_at [0, 1, 2, 3, 4, 5, 6, 7, 8, 9, 10, 11] (fun a0_ b a w' => ∃ (v144 : Value) (v147 : Value) (v150 : Value) (m0_ : Value) (m6_ : Value) (m7_ : Value) (m8_ : Value) (m10_ : Value), a = putSel a0_ b [(0, 21, m0_), (1, 22, .agg #[.bool true, .int .i64 0]), (2, 23, .agg #[.bool true, .int .i64 0]), (3, 24, .agg #[.bool true, .int .i64 0]), (4, 25, .agg #[.bool true, .int .i64 0]), (5, 26, v147), (6, 27, m6_), (7, 20, m7_), (8, 28, m8_), (9, 29, .int .i64 t152), (10, 4, m10_), (11, 5, .int .i64 t152)] ∧ (Kd.N k70 70 w' w.heap.size (fun _ => True) v133 t132) ∧ (Kd.R k67 67 w' w.heap.size (fun _ => True) v136 y135) ∧ (Kd.R k72 72 w' w.heap.size (fun _ => True) v139 t138) ∧ (w'.heap[gb130]? = some (.cells #[.bool true, .int .i64 0] 67 (0, 0))) ∧ (Below w.heap.size w w') ∧ (b 0 = true → Kd.N k70 70 w' w.heap.size (fun _ => True) v144 t143) ∧ (b 5 = true → Kd.R k67 67 w' w.heap.size (fun _ => True) v147 y146) ∧ (b 6 = true → Kd.R k72 72 w' w.heap.size (fun _ => True) v150 t149) ∧ (b 0 = true → (m0_ : Value) = .agg #[.int .i64 t142, v144]) ∧ (b 6 = true → (m6_ : Value) = .tuple #[v150, .int .i64 t152]) ∧ (b 7 = true → (m7_ : Value) = .tuple #[v150, .int .i64 t152]) ∧ (b 8 = true → (m8_ : Value) = v150) ∧ (b 10 = true → (m10_ : Value) = v150)) HT_.out HW_.out (by kernel_rfl) (by kernel_rfl) ?_ ?_ ?_
            · exact ⟨.bool false, .bool false, .bool false, .bool false, .bool false, .bool false, .bool false, .bool false, by simp only [putSel, Bool.false_eq_true, if_false], (by first | (first | exact HO134.out | exact Kd.N_mono HO134.out (fun _ _ => trivial) | exact Kd.R_mono HO134.out (fun _ _ => trivial)) | exact Kd.N_mono HO134.out (fun _ _ => trivial) | exact Kd.R_mono HO134.out (fun _ _ => trivial)), (by first | (first | exact HO137.out | exact Kd.N_mono HO137.out (fun _ _ => trivial) | exact Kd.R_mono HO137.out (fun _ _ => trivial)) | exact Kd.N_mono HO137.out (fun _ _ => trivial) | exact Kd.R_mono HO137.out (fun _ _ => trivial)), (by first | (first | exact HO140.out | exact Kd.N_mono HO140.out (fun _ _ => trivial) | exact Kd.R_mono HO140.out (fun _ _ => trivial)) | exact Kd.N_mono HO140.out (fun _ _ => trivial) | exact Kd.R_mono HO140.out (fun _ _ => trivial)), BK130.out, HB.out, fun h_ => absurd h_ (by decide), fun h_ => absurd h_ (by decide), fun h_ => absurd h_ (by decide), fun h_ => absurd h_ (by decide), fun h_ => absurd h_ (by decide), fun h_ => absurd h_ (by decide), fun h_ => absurd h_ (by decide), fun h_ => absurd h_ (by decide)⟩
            · skip
              clear BK130 HB HO134 HO137 HO140
              refine steps_cons ?_ ?_
              · rintro b a w' ⟨v144, v147, v150, m0_, m6_, m7_, m8_, m10_, ha, Q_HO134, Q_HO137, Q_HO140, Q_BK130, Q_HB, Q_HO145, Q_HO148, Q_HO151, Q_X0_, Q_X6_, Q_X7_, Q_X8_, Q_X10_⟩ hb_ hon hoff
                refine ⟨_, rfl, fun K hK => ?_⟩
                replace ha := Aside0.mk ha
                have HO134 := Aside0.mk Q_HO134
                have HO137 := Aside0.mk Q_HO137
                have HO140 := Aside0.mk Q_HO140
                have BK130 := Aside0.mk Q_BK130
                have HB := Aside0.mk Q_HB
                refine goes_ Try.func36 (by kernel_rfl) rfl #[] (by rfl) rfl rfl (by first | (simp only [List.map_toArray, List.map_cons, List.map_nil, Act.eval, Array.getD_eq_getD_getElem?, Option.getD_some]; done) | (simp only [List.map_toArray, List.map_cons, List.map_nil, Act.eval, Array.getD_eq_getD_getElem?, Option.getD_some]; rfl)) ?_
                with_reducible refine (wharfagelaw13_given.calls  t142 t143 _ A3.out).mono ?_
                rintro e w32 ⟨v144, rfl, ho0, hb⟩
                refine ⟨_, rfl, ?_⟩
                have n0_ := Aside0.mk (Kd.N_elder' (by (with_reducible repeat (first | apply Kd.N_alloc | apply Kd.N_drewN | apply Kd.N_drew)); (first | exact HO134.out | exact Kd.N_mono HO134.out (fun _ _ => trivial) | exact Kd.R_mono HO134.out (fun _ _ => trivial))) (Kd.N_base ho0) hb)
                have n1_ := Aside0.mk (Kd.R_below (by (with_reducible repeat (first | apply Kd.R_alloc | apply Kd.R_drewN | apply Kd.R_drew)); (first | exact HO137.out | exact Kd.N_mono HO137.out (fun _ _ => trivial) | exact Kd.R_mono HO137.out (fun _ _ => trivial))) hb)
                have n2_ := Aside0.mk (Kd.R_below (by (with_reducible repeat (first | apply Kd.R_alloc | apply Kd.R_drewN | apply Kd.R_drew)); (first | exact HO140.out | exact Kd.N_mono HO140.out (fun _ _ => trivial) | exact Kd.R_mono HO140.out (fun _ _ => trivial))) hb)
                have n3_ := Aside0.mk (Kd.N_lower (Kd.N_mono (ok' := fun k_ => some k_ ≠ (v133 : Value).ownBlock ∧ some k_ ≠ (v136 : Value).ownBlock ∧ some k_ ≠ (v139 : Value).ownBlock ∧ k_ ≠ gb130) ho0 (fun k_ hk_ => ⟨(Kd.fresh' (Kd.N_lt (by (with_reducible repeat (first | apply Kd.N_alloc | apply Kd.N_drewN | apply Kd.N_drew)); (first | exact HO134.out | exact Kd.N_mono HO134.out (fun _ _ => trivial) | exact Kd.R_mono HO134.out (fun _ _ => trivial)))) k_ hk_), (Kd.fresh' (Kd.R_lt (by (with_reducible repeat (first | apply Kd.R_alloc | apply Kd.R_drewN | apply Kd.R_drew)); (first | exact HO137.out | exact Kd.N_mono HO137.out (fun _ _ => trivial) | exact Kd.R_mono HO137.out (fun _ _ => trivial)))) k_ hk_), (Kd.fresh' (Kd.R_lt (by (with_reducible repeat (first | apply Kd.R_alloc | apply Kd.R_drewN | apply Kd.R_drew)); (first | exact HO140.out | exact Kd.N_mono HO140.out (fun _ _ => trivial) | exact Kd.R_mono HO140.out (fun _ _ => trivial)))) k_ hk_), (Kd.freshB (g := gb130) (o := .cells #[.bool true, .int .i64 0] 67 (0, 0)) (by (with_reducible repeat (first | refine blk_drewN ?_ _ | refine blk_drew ?_ | refine blk_alloc ?_ _)); exact BK130.out) k_ hk_)⟩)) (below_size (by repeat (first | (with_reducible first | exact HB.out | apply below_alloc | apply pw_below_drewN | apply below_drew1 | refine below_set ?_ GE130.out) | exact HB.out))))
                have n4_ := Aside0.mk (blk_below (g := gb130) (o := .cells #[.bool true, .int .i64 0] 67 (0, 0)) (by (with_reducible repeat (first | refine blk_drewN ?_ _ | refine blk_drew ?_ | refine blk_alloc ?_ _)); exact BK130.out) hb)
                have n5_ := Aside0.mk (below_step (by repeat (first | (with_reducible first | exact HB.out | apply below_alloc | apply pw_below_drewN | apply below_drew1 | refine below_set ?_ GE130.out) | exact HB.out)) hb)
                have z_HO148 := fun (h0_ : b 5 = true) => (show Kd.R k67 67 w32 w.heap.size (fun _ => True) v147 y146 from by first | exact (Kd.R_below (by (with_reducible repeat (first | apply Kd.R_alloc | apply Kd.R_drewN | apply Kd.R_drew)); exact (Q_HO148 h0_)) hb) | exact Kd.R_mono (Kd.R_below (by (with_reducible repeat (first | apply Kd.R_alloc | apply Kd.R_drewN | apply Kd.R_drew)); exact (Q_HO148 h0_)) hb) (fun _ h_ => by first | trivial | exact h_ | exact h_.1))
                clear HO134
                clear HO137
                clear HO140
                clear BK130
                clear HB
                have HO134 := n0_
                have HO137 := n1_
                have HO140 := n2_
                have HO145 := n3_
                have BK130 := n4_
                have HB := n5_
                clear n0_ n1_ n2_ n3_ n4_ n5_
                (try clear hb)
                (try clear hb2)
                (try clear hk)
                (try clear hi)
                (try clear ho0)
                refine hK.out _ _ ⟨v144, v147, v150, (.agg #[.int .i64 t142, v144]), m6_, m7_, m8_, m10_, (by rw [ha.out]; exact putSel_upk 0 hb_ rfl rfl rfl), (by (with_reducible repeat (first | apply Kd.N_alloc | apply Kd.N_drewN | apply Kd.N_drew)); exact Kd.N_mono HO134.out (fun _ hk => by first | trivial | exact ⟨hk.1.1, ⟨hk.1.2.1, ⟨hk.2, hk.1.2.2⟩⟩⟩ | exact hk | exact hk.1 | exact hk.2 | exact ⟨hk.1.1, hk.2⟩ | exact ⟨hk.1.1, hk.1.2⟩ | simp_all)), (by (with_reducible repeat (first | apply Kd.R_alloc | apply Kd.R_drewN | apply Kd.R_drew)); (first | exact HO137.out | exact Kd.N_mono HO137.out (fun _ _ => trivial) | exact Kd.R_mono HO137.out (fun _ _ => trivial))), (by (with_reducible repeat (first | apply Kd.R_alloc | apply Kd.R_drewN | apply Kd.R_drew)); (first | exact HO140.out | exact Kd.N_mono HO140.out (fun _ _ => trivial) | exact Kd.R_mono HO140.out (fun _ _ => trivial))), (by (with_reducible repeat (first | refine blk_drewN ?_ _ | refine blk_drew ?_ | refine blk_alloc ?_ _)); exact BK130.out), (by repeat (first | (with_reducible first | exact HB.out | apply below_alloc | apply pw_below_drewN | apply below_drew1 | refine below_set ?_ GE130.out) | exact HB.out)), fun _ => (by (with_reducible repeat (first | apply Kd.N_alloc | apply Kd.N_drewN | apply Kd.N_drew)); (first | exact HO145.out | exact Kd.N_mono HO145.out (fun _ _ => trivial) | exact Kd.R_mono HO145.out (fun _ _ => trivial))), z_HO148, fun h0_ => absurd ((hoff 6 (by kernel_rfl)).symm.trans h0_) (by decide), fun _ => rfl, fun h0_ => absurd ((hoff 6 (by kernel_rfl)).symm.trans h0_) (by decide), fun h0_ => absurd ((hoff 7 (by kernel_rfl)).symm.trans h0_) (by decide), fun h0_ => absurd ((hoff 8 (by kernel_rfl)).symm.trans h0_) (by decide), fun h0_ => absurd ((hoff 10 (by kernel_rfl)).symm.trans h0_) (by decide)⟩
              refine steps_cons ?_ ?_
              · rintro b a w' ⟨v144, v147, v150, m0_, m6_, m7_, m8_, m10_, ha, Q_HO134, Q_HO137, Q_HO140, Q_BK130, Q_HB, Q_HO145, Q_HO148, Q_HO151, Q_X0_, Q_X6_, Q_X7_, Q_X8_, Q_X10_⟩ hb_ hon hoff
                refine ⟨_, rfl, fun K hK => ?_⟩
                have e1 : a.tmps[1]? = some (.pointer (some ⟨gb130, 0, none⟩)) := by rw [ha]; exact (putSel_off rfl).trans rfl
                replace ha := Aside0.mk ha
                have HO134 := Aside0.mk Q_HO134
                have HO137 := Aside0.mk Q_HO137
                have HO140 := Aside0.mk Q_HO140
                have BK130 := Aside0.mk Q_BK130
                have HB := Aside0.mk Q_HB
                have hc0_ : w'.cell? ⟨gb130, 0, none⟩ = some (.bool true) := (blk_cell BK130.out 0).trans rfl
                have hc1_ : w'.cell? ⟨gb130, 1, none⟩ = some (.int .i64 0) := (blk_cell BK130.out 1).trans rfl
                refine value_ (w1 := w') (v := .agg #[.bool true, .int .i64 0]) (by rfl) rfl ?_ ?_
                · go_simp
                  (try simp only [i64_w])
                  try rfl
                refine hK.out _ _ ⟨v144, v147, v150, m0_, m6_, m7_, m8_, m10_, (by rw [ha.out]; exact putSel_upk 1 hb_ rfl rfl rfl), Q_HO134, Q_HO137, Q_HO140, Q_BK130, Q_HB, Q_HO145, fun h0_ => absurd ((hoff 5 (by kernel_rfl)).symm.trans h0_) (by decide), fun h0_ => absurd ((hoff 6 (by kernel_rfl)).symm.trans h0_) (by decide), Q_X0_, fun h0_ => absurd ((hoff 6 (by kernel_rfl)).symm.trans h0_) (by decide), fun h0_ => absurd ((hoff 7 (by kernel_rfl)).symm.trans h0_) (by decide), fun h0_ => absurd ((hoff 8 (by kernel_rfl)).symm.trans h0_) (by decide), fun h0_ => absurd ((hoff 10 (by kernel_rfl)).symm.trans h0_) (by decide)⟩
              refine steps_cons ?_ ?_
              · rintro b a w' ⟨v144, v147, v150, m0_, m6_, m7_, m8_, m10_, ha, Q_HO134, Q_HO137, Q_HO140, Q_BK130, Q_HB, Q_HO145, Q_HO148, Q_HO151, Q_X0_, Q_X6_, Q_X7_, Q_X8_, Q_X10_⟩ hb_ hon hoff
                refine ⟨_, rfl, fun K hK => ?_⟩
                have e1 : a.tmps[1]? = some (.pointer (some ⟨gb130, 0, none⟩)) := by rw [ha]; exact (putSel_off rfl).trans rfl
                replace ha := Aside0.mk ha
                have HO134 := Aside0.mk Q_HO134
                have HO137 := Aside0.mk Q_HO137
                have HO140 := Aside0.mk Q_HO140
                have BK130 := Aside0.mk Q_BK130
                have HB := Aside0.mk Q_HB
                have hc0_ : w'.cell? ⟨gb130, 0, none⟩ = some (.bool true) := (blk_cell BK130.out 0).trans rfl
                have hc1_ : w'.cell? ⟨gb130, 1, none⟩ = some (.int .i64 0) := (blk_cell BK130.out 1).trans rfl
                refine value_ (w1 := w') (v := .agg #[.bool true, .int .i64 0]) (by rfl) rfl ?_ ?_
                · go_simp
                  (try simp only [i64_w])
                  try rfl
                refine hK.out _ _ ⟨v144, v147, v150, m0_, m6_, m7_, m8_, m10_, (by rw [ha.out]; exact putSel_upk 2 hb_ rfl rfl rfl), Q_HO134, Q_HO137, Q_HO140, Q_BK130, Q_HB, Q_HO145, fun h0_ => absurd ((hoff 5 (by kernel_rfl)).symm.trans h0_) (by decide), fun h0_ => absurd ((hoff 6 (by kernel_rfl)).symm.trans h0_) (by decide), Q_X0_, fun h0_ => absurd ((hoff 6 (by kernel_rfl)).symm.trans h0_) (by decide), fun h0_ => absurd ((hoff 7 (by kernel_rfl)).symm.trans h0_) (by decide), fun h0_ => absurd ((hoff 8 (by kernel_rfl)).symm.trans h0_) (by decide), fun h0_ => absurd ((hoff 10 (by kernel_rfl)).symm.trans h0_) (by decide)⟩
              refine steps_cons ?_ ?_
              · rintro b a w' ⟨v144, v147, v150, m0_, m6_, m7_, m8_, m10_, ha, Q_HO134, Q_HO137, Q_HO140, Q_BK130, Q_HB, Q_HO145, Q_HO148, Q_HO151, Q_X0_, Q_X6_, Q_X7_, Q_X8_, Q_X10_⟩ hb_ hon hoff
                refine ⟨_, rfl, fun K hK => ?_⟩
                have e1 : a.tmps[1]? = some (.pointer (some ⟨gb130, 0, none⟩)) := by rw [ha]; exact (putSel_off rfl).trans rfl
                replace ha := Aside0.mk ha
                have HO134 := Aside0.mk Q_HO134
                have HO137 := Aside0.mk Q_HO137
                have HO140 := Aside0.mk Q_HO140
                have BK130 := Aside0.mk Q_BK130
                have HB := Aside0.mk Q_HB
                have hc0_ : w'.cell? ⟨gb130, 0, none⟩ = some (.bool true) := (blk_cell BK130.out 0).trans rfl
                have hc1_ : w'.cell? ⟨gb130, 1, none⟩ = some (.int .i64 0) := (blk_cell BK130.out 1).trans rfl
                refine value_ (w1 := w') (v := .agg #[.bool true, .int .i64 0]) (by rfl) rfl ?_ ?_
                · go_simp
                  (try simp only [i64_w])
                  try rfl
                refine hK.out _ _ ⟨v144, v147, v150, m0_, m6_, m7_, m8_, m10_, (by rw [ha.out]; exact putSel_upk 3 hb_ rfl rfl rfl), Q_HO134, Q_HO137, Q_HO140, Q_BK130, Q_HB, Q_HO145, fun h0_ => absurd ((hoff 5 (by kernel_rfl)).symm.trans h0_) (by decide), fun h0_ => absurd ((hoff 6 (by kernel_rfl)).symm.trans h0_) (by decide), Q_X0_, fun h0_ => absurd ((hoff 6 (by kernel_rfl)).symm.trans h0_) (by decide), fun h0_ => absurd ((hoff 7 (by kernel_rfl)).symm.trans h0_) (by decide), fun h0_ => absurd ((hoff 8 (by kernel_rfl)).symm.trans h0_) (by decide), fun h0_ => absurd ((hoff 10 (by kernel_rfl)).symm.trans h0_) (by decide)⟩
              refine steps_cons ?_ ?_
              · rintro b a w' ⟨v144, v147, v150, m0_, m6_, m7_, m8_, m10_, ha, Q_HO134, Q_HO137, Q_HO140, Q_BK130, Q_HB, Q_HO145, Q_HO148, Q_HO151, Q_X0_, Q_X6_, Q_X7_, Q_X8_, Q_X10_⟩ hb_ hon hoff
                refine ⟨_, rfl, fun K hK => ?_⟩
                have e1 : a.tmps[1]? = some (.pointer (some ⟨gb130, 0, none⟩)) := by rw [ha]; exact (putSel_off rfl).trans rfl
                replace ha := Aside0.mk ha
                have HO134 := Aside0.mk Q_HO134
                have HO137 := Aside0.mk Q_HO137
                have HO140 := Aside0.mk Q_HO140
                have BK130 := Aside0.mk Q_BK130
                have HB := Aside0.mk Q_HB
                have hc0_ : w'.cell? ⟨gb130, 0, none⟩ = some (.bool true) := (blk_cell BK130.out 0).trans rfl
                have hc1_ : w'.cell? ⟨gb130, 1, none⟩ = some (.int .i64 0) := (blk_cell BK130.out 1).trans rfl
                refine value_ (w1 := w') (v := .agg #[.bool true, .int .i64 0]) (by rfl) rfl ?_ ?_
                · go_simp
                  (try simp only [i64_w])
                  try rfl
                refine hK.out _ _ ⟨v144, v147, v150, m0_, m6_, m7_, m8_, m10_, (by rw [ha.out]; exact putSel_upk 4 hb_ rfl rfl rfl), Q_HO134, Q_HO137, Q_HO140, Q_BK130, Q_HB, Q_HO145, fun h0_ => absurd ((hoff 5 (by kernel_rfl)).symm.trans h0_) (by decide), fun h0_ => absurd ((hoff 6 (by kernel_rfl)).symm.trans h0_) (by decide), Q_X0_, fun h0_ => absurd ((hoff 6 (by kernel_rfl)).symm.trans h0_) (by decide), fun h0_ => absurd ((hoff 7 (by kernel_rfl)).symm.trans h0_) (by decide), fun h0_ => absurd ((hoff 8 (by kernel_rfl)).symm.trans h0_) (by decide), fun h0_ => absurd ((hoff 10 (by kernel_rfl)).symm.trans h0_) (by decide)⟩
              refine steps_cons ?_ ?_
              · rintro b a w' ⟨v144, v147, v150, m0_, m6_, m7_, m8_, m10_, ha, Q_HO134, Q_HO137, Q_HO140, Q_BK130, Q_HB, Q_HO145, Q_HO148, Q_HO151, Q_X0_, Q_X6_, Q_X7_, Q_X8_, Q_X10_⟩ hb_ hon hoff
                refine ⟨_, rfl, fun K hK => ?_⟩
                have e22 : a.tmps[22]? = some (.agg #[.bool true, .int .i64 0]) := by rw [ha]; exact putSel_on (e := (1, 22, .agg #[.bool true, .int .i64 0])) 1 rfl rfl (hon 1 (by kernel_rfl)) rfl
                have e23 : a.tmps[23]? = some (.agg #[.bool true, .int .i64 0]) := by rw [ha]; exact putSel_on (e := (2, 23, .agg #[.bool true, .int .i64 0])) 2 rfl rfl (hon 2 (by kernel_rfl)) rfl
                have e24 : a.tmps[24]? = some (.agg #[.bool true, .int .i64 0]) := by rw [ha]; exact putSel_on (e := (3, 24, .agg #[.bool true, .int .i64 0])) 3 rfl rfl (hon 3 (by kernel_rfl)) rfl
                have e25 : a.tmps[25]? = some (.agg #[.bool true, .int .i64 0]) := by rw [ha]; exact putSel_on (e := (4, 25, .agg #[.bool true, .int .i64 0])) 4 rfl rfl (hon 4 (by kernel_rfl)) rfl
                replace ha := Aside0.mk ha
                have HO134 := Aside0.mk Q_HO134
                have HO137 := Aside0.mk Q_HO137
                have HO140 := Aside0.mk Q_HO140
                have BK130 := Aside0.mk Q_BK130
                have HB := Aside0.mk Q_HB
                refine Kd.R_lit_step k67 _ 67 ?hg (N := 26) ?hd (xs := ([(⟨true, 0⟩ : S67), (⟨true, 0⟩ : S67), (⟨true, 0⟩ : S67), (⟨true, 0⟩ : S67)] : List (S67))) (inner := [.bool true, .int .i64 0, .bool true, .int .i64 0, .bool true, .int .i64 0, .bool true, .int .i64 0]) (ok := fun _ => True) (okp := fun _ => True) ?hr ?hp (fun _ hk => by first | trivial | exact hk | exact hk | exact hk.1 | exact hk.2 | exact ⟨hk.1.1, hk.2⟩ | exact ⟨hk.1.1, hk.1.2⟩ | simp_all) trivial (Below.refl _ _) (Nat.le_refl _) (by simp) ?_; (case hd => rfl); (case hg => rfl); (case hr => first | (go_simp; done) | (go_simp; rfl)); (case hp => exact (Reps.c2 (show Kd.M k67 _ _ _ (⟨true, 0⟩ : S67) [.bool true, .int .i64 0] from (k67_mkM _ _ _ (⟨true, 0⟩ : S67) )) (Reps.c2 (show Kd.M k67 _ _ _ (⟨true, 0⟩ : S67) [.bool true, .int .i64 0] from (k67_mkM _ _ _ (⟨true, 0⟩ : S67) )) (Reps.c2 (show Kd.M k67 _ _ _ (⟨true, 0⟩ : S67) [.bool true, .int .i64 0] from (k67_mkM _ _ _ (⟨true, 0⟩ : S67) )) (Reps.c2 (show Kd.M k67 _ _ _ (⟨true, 0⟩ : S67) [.bool true, .int .i64 0] from (k67_mkM _ _ _ (⟨true, 0⟩ : S67) )) (Reps.none _ _))))))
                intro v147 w32 ho33 hb hg_ hnew_
                clear hg_ hnew_
                (first | rw [← Ny146.out] at ho33 | (simp only [Int.reduceToNat] at ho33; rw [← Ny146.out] at ho33))
                have n0_ := Aside0.mk (Kd.N_elder' (by (with_reducible repeat (first | apply Kd.N_alloc | apply Kd.N_drewN | apply Kd.N_drew)); (first | exact HO134.out | exact Kd.N_mono HO134.out (fun _ _ => trivial) | exact Kd.R_mono HO134.out (fun _ _ => trivial))) (Kd.R_base ho33) hb)
                have n1_ := Aside0.mk (Kd.R_elder' (by (with_reducible repeat (first | apply Kd.R_alloc | apply Kd.R_drewN | apply Kd.R_drew)); (first | exact HO137.out | exact Kd.N_mono HO137.out (fun _ _ => trivial) | exact Kd.R_mono HO137.out (fun _ _ => trivial))) (Kd.R_base ho33) hb)
                have n2_ := Aside0.mk (Kd.R_below (by (with_reducible repeat (first | apply Kd.R_alloc | apply Kd.R_drewN | apply Kd.R_drew)); (first | exact HO140.out | exact Kd.N_mono HO140.out (fun _ _ => trivial) | exact Kd.R_mono HO140.out (fun _ _ => trivial))) hb)
                have n3_ := Aside0.mk (Kd.R_lower (Kd.R_newB (Kd.R_new' ho33 (Kd.R_lt (by (with_reducible repeat (first | apply Kd.R_alloc | apply Kd.R_drewN | apply Kd.R_drew)); (first | exact HO137.out | exact Kd.N_mono HO137.out (fun _ _ => trivial) | exact Kd.R_mono HO137.out (fun _ _ => trivial))))) (g := gb130) (o := .cells #[.bool true, .int .i64 0] 67 (0, 0)) (by (with_reducible repeat (first | refine blk_drewN ?_ _ | refine blk_drew ?_ | refine blk_alloc ?_ _)); exact BK130.out)) (below_size (by repeat (first | (with_reducible first | exact HB.out | apply below_alloc | apply pw_below_drewN | apply below_drew1 | refine below_set ?_ GE130.out) | exact HB.out))))
                have n4_ := Aside0.mk (blk_below (g := gb130) (o := .cells #[.bool true, .int .i64 0] 67 (0, 0)) (by (with_reducible repeat (first | refine blk_drewN ?_ _ | refine blk_drew ?_ | refine blk_alloc ?_ _)); exact BK130.out) hb)
                have n5_ := Aside0.mk (below_step (by repeat (first | (with_reducible first | exact HB.out | apply below_alloc | apply pw_below_drewN | apply below_drew1 | refine below_set ?_ GE130.out) | exact HB.out)) hb)
                have z_HO145 := fun (h0_ : b 0 = true) => (show Kd.N k70 70 w32 w.heap.size (fun _ => True) v144 t143 from by first | exact (Kd.N_elder' (by (with_reducible repeat (first | apply Kd.N_alloc | apply Kd.N_drewN | apply Kd.N_drew)); exact (Q_HO145 h0_)) (Kd.R_base ho33) hb) | exact Kd.N_mono (Kd.N_elder' (by (with_reducible repeat (first | apply Kd.N_alloc | apply Kd.N_drewN | apply Kd.N_drew)); exact (Q_HO145 h0_)) (Kd.R_base ho33) hb) (fun _ h_ => by first | trivial | exact h_ | exact h_.1))
                clear HO134
                clear HO137
                clear HO140
                clear BK130
                clear HB
                have HO134 := n0_
                have HO137 := n1_
                have HO140 := n2_
                have HO148 := n3_
                have BK130 := n4_
                have HB := n5_
                clear n0_ n1_ n2_ n3_ n4_ n5_
                clear hb ho33
                refine hK.out _ _ ⟨v144, v147, v150, m0_, m6_, m7_, m8_, m10_, (by rw [ha.out]; exact putSel_upk 5 hb_ rfl rfl rfl), (by (with_reducible repeat (first | apply Kd.N_alloc | apply Kd.N_drewN | apply Kd.N_drew)); exact Kd.N_mono HO134.out (fun _ hk => by first | trivial | exact ⟨hk.1.1, ⟨hk.1.2.1, ⟨hk.2, hk.1.2.2⟩⟩⟩ | exact hk | exact hk.1 | exact hk.2 | exact ⟨hk.1.1, hk.2⟩ | exact ⟨hk.1.1, hk.1.2⟩ | simp_all)), (by (with_reducible repeat (first | apply Kd.R_alloc | apply Kd.R_drewN | apply Kd.R_drew)); exact Kd.R_mono HO137.out (fun _ hk => by first | trivial | exact ⟨hk.2, hk.1⟩ | exact hk | exact hk.1 | exact hk.2 | exact ⟨hk.1.1, hk.2⟩ | exact ⟨hk.1.1, hk.1.2⟩ | simp_all)), (by (with_reducible repeat (first | apply Kd.R_alloc | apply Kd.R_drewN | apply Kd.R_drew)); (first | exact HO140.out | exact Kd.N_mono HO140.out (fun _ _ => trivial) | exact Kd.R_mono HO140.out (fun _ _ => trivial))), (by (with_reducible repeat (first | refine blk_drewN ?_ _ | refine blk_drew ?_ | refine blk_alloc ?_ _)); exact BK130.out), (by repeat (first | (with_reducible first | exact HB.out | apply below_alloc | apply pw_below_drewN | apply below_drew1 | refine below_set ?_ GE130.out) | exact HB.out)), z_HO145, fun _ => (by (with_reducible repeat (first | apply Kd.R_alloc | apply Kd.R_drewN | apply Kd.R_drew)); exact Kd.R_mono HO148.out (fun _ hk => by first | trivial | exact ⟨hk.1.2, hk.2⟩ | exact hk | exact hk.1 | exact hk.2 | exact ⟨hk.1.1, hk.2⟩ | exact ⟨hk.1.1, hk.1.2⟩ | simp_all)), fun h0_ => absurd ((hoff 6 (by kernel_rfl)).symm.trans h0_) (by decide), Q_X0_, fun h0_ => absurd ((hoff 6 (by kernel_rfl)).symm.trans h0_) (by decide), fun h0_ => absurd ((hoff 7 (by kernel_rfl)).symm.trans h0_) (by decide), fun h0_ => absurd ((hoff 8 (by kernel_rfl)).symm.trans h0_) (by decide), fun h0_ => absurd ((hoff 10 (by kernel_rfl)).symm.trans h0_) (by decide)⟩
              refine steps_cons ?_ ?_
              · rintro b a w' ⟨v144, v147, v150, m0_, m6_, m7_, m8_, m10_, ha, Q_HO134, Q_HO137, Q_HO140, Q_BK130, Q_HB, Q_HO145, Q_HO148, Q_HO151, Q_X0_, Q_X6_, Q_X7_, Q_X8_, Q_X10_⟩ hb_ hon hoff
                refine ⟨_, rfl, fun K hK => ?_⟩
                have e21 : a.tmps[21]? = some (m0_) := by rw [ha]; exact putSel_on (e := (0, 21, m0_)) 0 rfl rfl (hon 0 (by kernel_rfl)) rfl
                rw [Q_X0_ (hon 0 (by kernel_rfl))] at e21
                have e26 : a.tmps[26]? = some (v147) := by rw [ha]; exact putSel_on (e := (5, 26, v147)) 5 rfl rfl (hon 5 (by kernel_rfl)) rfl
                replace ha := Aside0.mk ha
                have HO134 := Aside0.mk Q_HO134
                have HO137 := Aside0.mk Q_HO137
                have HO140 := Aside0.mk Q_HO140
                have BK130 := Aside0.mk Q_BK130
                have HB := Aside0.mk Q_HB
                have HO145 := Aside0.mk (Q_HO145 (hon 0 (by kernel_rfl)))
                have HO148 := Aside0.mk (Q_HO148 (hon 5 (by kernel_rfl)))
                obtain ⟨Ao36, co36, eo36⟩ := Kd.N_slice HO145.out
                (first | subst eo36 | (injection eo36 with f1_ f2_ f3_; have f4_ := f1_.symm; have f5_ := f3_.symm; clear f1_ f2_ f3_; subst f4_; subst f5_))
                obtain ⟨Ao37, co37, eo37⟩ := Kd.R_slice HO148.out
                (first | subst eo37 | (injection eo37 with f1_ f2_ f3_; have f4_ := f1_.symm; have f5_ := f3_.symm; clear f1_ f2_ f3_; subst f4_; subst f5_))
                refine goes_ Try.func29 (by kernel_rfl) rfl #[.agg #[.int .i64 t142, .slice Ao36 t143.length co36], .int .i64 0, .slice Ao37 y146.length co37] (by rfl) rfl rfl (by first | (simp only [List.map_toArray, List.map_cons, List.map_nil, Act.eval, Array.getD_eq_getD_getElem?, Option.getD_some, e21, e26]; done) | (simp only [List.map_toArray, List.map_cons, List.map_nil, Act.eval, Array.getD_eq_getD_getElem?, Option.getD_some, e21, e26]; rfl)) ?_
                with_reducible refine (cand_Backs.calls t142 _ _ t143 0 _ _ y146 t149 t152 _ ?side1 ?side2 ?side3 ?side4 A4.out).mono ?_
                (case side1 => repeat (first | exact (Kd.N_reads' HO145.out).2.2 | (with_reducible refine Kd.C_alloc ?_ _) | (with_reducible refine Kd.C_drewN ?_ _) | (with_reducible refine Kd.C_drew ?_)))
                (case side2 => exact (Kd.N_reads' HO145.out).2.1)
                (case side3 => repeat (first | exact (Kd.R_reads' HO148.out).2.2 | (with_reducible refine Kd.C_alloc ?_ _) | (with_reducible refine Kd.C_drewN ?_ _) | (with_reducible refine Kd.C_drew ?_)))
                (case side4 => exact (Kd.R_reads' HO148.out).2.1)
                rintro e w38 ⟨v150, rfl, ho0, hb⟩
                refine ⟨_, rfl, ?_⟩
                have n0_ := Aside0.mk (Kd.N_elder' (by (with_reducible repeat (first | apply Kd.N_alloc | apply Kd.N_drewN | apply Kd.N_drew)); (first | exact HO134.out | exact Kd.N_mono HO134.out (fun _ _ => trivial) | exact Kd.R_mono HO134.out (fun _ _ => trivial))) (Kd.R_base ho0) hb)
                have n1_ := Aside0.mk (Kd.R_below (by (with_reducible repeat (first | apply Kd.R_alloc | apply Kd.R_drewN | apply Kd.R_drew)); (first | exact HO137.out | exact Kd.N_mono HO137.out (fun _ _ => trivial) | exact Kd.R_mono HO137.out (fun _ _ => trivial))) hb)
                have n2_ := Aside0.mk (Kd.R_elder' (by (with_reducible repeat (first | apply Kd.R_alloc | apply Kd.R_drewN | apply Kd.R_drew)); (first | exact HO140.out | exact Kd.N_mono HO140.out (fun _ _ => trivial) | exact Kd.R_mono HO140.out (fun _ _ => trivial))) (Kd.R_base ho0) hb)
                have n3_ := Aside0.mk (Kd.N_elder' (by (with_reducible repeat (first | apply Kd.N_alloc | apply Kd.N_drewN | apply Kd.N_drew)); (first | exact HO145.out | exact Kd.N_mono HO145.out (fun _ _ => trivial) | exact Kd.R_mono HO145.out (fun _ _ => trivial))) (Kd.R_base ho0) hb)
                have n4_ := Aside0.mk (Kd.R_below (by (with_reducible repeat (first | apply Kd.R_alloc | apply Kd.R_drewN | apply Kd.R_drew)); (first | exact HO148.out | exact Kd.N_mono HO148.out (fun _ _ => trivial) | exact Kd.R_mono HO148.out (fun _ _ => trivial))) hb)
                have n5_ := Aside0.mk (Kd.R_lower (Kd.R_new' ho0 (Kd.R_lt (by (with_reducible repeat (first | apply Kd.R_alloc | apply Kd.R_drewN | apply Kd.R_drew)); (first | exact HO140.out | exact Kd.N_mono HO140.out (fun _ _ => trivial) | exact Kd.R_mono HO140.out (fun _ _ => trivial))))) (below_size (by repeat (first | (with_reducible first | exact HB.out | apply below_alloc | apply pw_below_drewN | apply below_drew1 | refine below_set ?_ GE130.out) | exact HB.out))))
                have n6_ := Aside0.mk (blk_below (g := gb130) (o := .cells #[.bool true, .int .i64 0] 67 (0, 0)) (by (with_reducible repeat (first | refine blk_drewN ?_ _ | refine blk_drew ?_ | refine blk_alloc ?_ _)); exact BK130.out) hb)
                have n7_ := Aside0.mk (below_step (by repeat (first | (with_reducible first | exact HB.out | apply below_alloc | apply pw_below_drewN | apply below_drew1 | refine below_set ?_ GE130.out) | exact HB.out)) hb)
                clear HO134
                clear HO137
                clear HO140
                clear HO145
                clear HO148
                clear BK130
                clear HB
                have HO134 := n0_
                have HO137 := n1_
                have HO140 := n2_
                have HO145 := n3_
                have HO148 := n4_
                have HO151 := n5_
                have BK130 := n6_
                have HB := n7_
                clear n0_ n1_ n2_ n3_ n4_ n5_ n6_ n7_
                (try clear hb)
                (try clear hb2)
                (try clear hk)
                (try clear hi)
                (try clear ho0)
                refine hK.out _ _ ⟨.slice Ao36 t143.length co36, .slice Ao37 y146.length co37, v150, m0_, (.tuple #[v150, .int .i64 t152]), m7_, m8_, m10_, (by rw [ha.out]; exact putSel_upk 6 hb_ rfl rfl rfl), (by (with_reducible repeat (first | apply Kd.N_alloc | apply Kd.N_drewN | apply Kd.N_drew)); exact Kd.N_mono HO134.out (fun _ hk => by first | trivial | exact ⟨hk.1.1, ⟨hk.1.2.1, ⟨hk.1.2.2.1, ⟨hk.1.2.2.2.1, ⟨hk.2, hk.1.2.2.2.2⟩⟩⟩⟩⟩ | exact hk | exact hk.1 | exact hk.2 | exact ⟨hk.1.1, hk.2⟩ | exact ⟨hk.1.1, hk.1.2⟩ | simp_all)), (by (with_reducible repeat (first | apply Kd.R_alloc | apply Kd.R_drewN | apply Kd.R_drew)); (first | exact HO137.out | exact Kd.N_mono HO137.out (fun _ _ => trivial) | exact Kd.R_mono HO137.out (fun _ _ => trivial))), (by (with_reducible repeat (first | apply Kd.R_alloc | apply Kd.R_drewN | apply Kd.R_drew)); exact Kd.R_mono HO140.out (fun _ hk => by first | trivial | exact hk.2 | exact hk | exact hk.1 | exact hk.2 | exact ⟨hk.1.1, hk.2⟩ | exact ⟨hk.1.1, hk.1.2⟩ | simp_all)), (by (with_reducible repeat (first | refine blk_drewN ?_ _ | refine blk_drew ?_ | refine blk_alloc ?_ _)); exact BK130.out), (by repeat (first | (with_reducible first | exact HB.out | apply below_alloc | apply pw_below_drewN | apply below_drew1 | refine below_set ?_ GE130.out) | exact HB.out)), fun _ => (by (with_reducible repeat (first | apply Kd.N_alloc | apply Kd.N_drewN | apply Kd.N_drew)); exact Kd.N_mono HO145.out (fun _ hk => by first | trivial | exact ⟨hk.1.1, ⟨hk.1.2.1, ⟨hk.1.2.2.1, ⟨hk.1.2.2.2.1, ⟨hk.2, hk.1.2.2.2.2⟩⟩⟩⟩⟩ | exact hk | exact hk.1 | exact hk.2 | exact ⟨hk.1.1, hk.2⟩ | exact ⟨hk.1.1, hk.1.2⟩ | simp_all)), fun _ => (by (with_reducible repeat (first | apply Kd.R_alloc | apply Kd.R_drewN | apply Kd.R_drew)); (first | exact HO148.out | exact Kd.N_mono HO148.out (fun _ _ => trivial) | exact Kd.R_mono HO148.out (fun _ _ => trivial))), fun _ => (by (with_reducible repeat (first | apply Kd.R_alloc | apply Kd.R_drewN | apply Kd.R_drew)); exact Kd.R_mono HO151.out (fun _ hk => by first | trivial | exact hk.2 | exact hk | exact hk.1 | exact hk.2 | exact ⟨hk.1.1, hk.2⟩ | exact ⟨hk.1.1, hk.1.2⟩ | simp_all)), Q_X0_, fun _ => rfl, fun h0_ => absurd ((hoff 7 (by kernel_rfl)).symm.trans h0_) (by decide), fun h0_ => absurd ((hoff 8 (by kernel_rfl)).symm.trans h0_) (by decide), fun h0_ => absurd ((hoff 10 (by kernel_rfl)).symm.trans h0_) (by decide)⟩
              refine steps_cons ?_ ?_
              · rintro b a w' ⟨v144, v147, v150, m0_, m6_, m7_, m8_, m10_, ha, Q_HO134, Q_HO137, Q_HO140, Q_BK130, Q_HB, Q_HO145, Q_HO148, Q_HO151, Q_X0_, Q_X6_, Q_X7_, Q_X8_, Q_X10_⟩ hb_ hon hoff
                refine ⟨_, rfl, fun K hK => ?_⟩
                have e27 : a.tmps[27]? = some (m6_) := by rw [ha]; exact putSel_on (e := (6, 27, m6_)) 6 rfl rfl (hon 6 (by kernel_rfl)) rfl
                rw [Q_X6_ (hon 6 (by kernel_rfl))] at e27
                replace ha := Aside0.mk ha
                have HO134 := Aside0.mk Q_HO134
                have HO137 := Aside0.mk Q_HO137
                have HO140 := Aside0.mk Q_HO140
                have BK130 := Aside0.mk Q_BK130
                have HB := Aside0.mk Q_HB
                have HO145 := Aside0.mk (Q_HO145 (hon 0 (by kernel_rfl)))
                have HO148 := Aside0.mk (Q_HO148 (hon 5 (by kernel_rfl)))
                have HO151 := Aside0.mk (Q_HO151 (hon 6 (by kernel_rfl)))
                refine value_ (w1 := w') (v := .tuple #[v150, .int .i64 t152]) (by rfl) rfl ?_ ?_
                · go_simp
                  (try simp only [i64_w])
                  try rfl
                refine hK.out _ _ ⟨v144, v147, v150, m0_, m6_, (.tuple #[v150, .int .i64 t152]), m8_, m10_, (by rw [ha.out]; exact putSel_upk 7 hb_ rfl rfl rfl), Q_HO134, Q_HO137, Q_HO140, Q_BK130, Q_HB, Q_HO145, Q_HO148, Q_HO151, Q_X0_, Q_X6_, fun _ => rfl, fun h0_ => absurd ((hoff 8 (by kernel_rfl)).symm.trans h0_) (by decide), fun h0_ => absurd ((hoff 10 (by kernel_rfl)).symm.trans h0_) (by decide)⟩
              refine steps_cons ?_ ?_
              · rintro b a w' ⟨v144, v147, v150, m0_, m6_, m7_, m8_, m10_, ha, Q_HO134, Q_HO137, Q_HO140, Q_BK130, Q_HB, Q_HO145, Q_HO148, Q_HO151, Q_X0_, Q_X6_, Q_X7_, Q_X8_, Q_X10_⟩ hb_ hon hoff
                refine ⟨_, rfl, fun K hK => ?_⟩
                have e20 : a.tmps[20]? = some (m7_) := by rw [ha]; exact putSel_on (e := (7, 20, m7_)) 7 rfl rfl (hon 7 (by kernel_rfl)) rfl
                rw [Q_X7_ (hon 7 (by kernel_rfl))] at e20
                replace ha := Aside0.mk ha
                have HO134 := Aside0.mk Q_HO134
                have HO137 := Aside0.mk Q_HO137
                have HO140 := Aside0.mk Q_HO140
                have BK130 := Aside0.mk Q_BK130
                have HB := Aside0.mk Q_HB
                have HO145 := Aside0.mk (Q_HO145 (hon 0 (by kernel_rfl)))
                have HO148 := Aside0.mk (Q_HO148 (hon 5 (by kernel_rfl)))
                have HO151 := Aside0.mk (Q_HO151 (hon 6 (by kernel_rfl)))
                obtain ⟨Ao8_0, co8_0, eo_⟩ := Kd.R_slice HO151.out
                subst eo_
                refine value_ (w1 := w') (v := .slice Ao8_0 t149.length co8_0) (by rfl) rfl ?_ ?_
                · go_simp
                  (try simp only [i64_w])
                  try rfl
                refine hK.out _ _ ⟨v144, v147, .slice Ao8_0 t149.length co8_0, m0_, m6_, m7_, (.slice Ao8_0 t149.length co8_0), m10_, (by rw [ha.out]; exact putSel_upk 8 hb_ rfl rfl rfl), Q_HO134, Q_HO137, Q_HO140, Q_BK130, Q_HB, Q_HO145, Q_HO148, Q_HO151, Q_X0_, Q_X6_, Q_X7_, fun _ => rfl, fun h0_ => absurd ((hoff 10 (by kernel_rfl)).symm.trans h0_) (by decide)⟩
              refine steps_cons ?_ ?_
              · rintro b a w' ⟨v144, v147, v150, m0_, m6_, m7_, m8_, m10_, ha, Q_HO134, Q_HO137, Q_HO140, Q_BK130, Q_HB, Q_HO145, Q_HO148, Q_HO151, Q_X0_, Q_X6_, Q_X7_, Q_X8_, Q_X10_⟩ hb_ hon hoff
                refine ⟨_, rfl, fun K hK => ?_⟩
                have e20 : a.tmps[20]? = some (m7_) := by rw [ha]; exact putSel_on (e := (7, 20, m7_)) 7 rfl rfl (hon 7 (by kernel_rfl)) rfl
                rw [Q_X7_ (hon 7 (by kernel_rfl))] at e20
                replace ha := Aside0.mk ha
                have HO134 := Aside0.mk Q_HO134
                have HO137 := Aside0.mk Q_HO137
                have HO140 := Aside0.mk Q_HO140
                have BK130 := Aside0.mk Q_BK130
                have HB := Aside0.mk Q_HB
                have HO145 := Aside0.mk (Q_HO145 (hon 0 (by kernel_rfl)))
                have HO148 := Aside0.mk (Q_HO148 (hon 5 (by kernel_rfl)))
                have HO151 := Aside0.mk (Q_HO151 (hon 6 (by kernel_rfl)))
                obtain ⟨Ao9_0, co9_0, eo_⟩ := Kd.R_slice HO151.out
                subst eo_
                refine value_ (w1 := w') (v := .int .i64 t152) (by rfl) rfl ?_ ?_
                · go_simp
                  (try simp only [i64_w])
                  try rfl
                refine hK.out _ _ ⟨v144, v147, .slice Ao9_0 t149.length co9_0, m0_, m6_, m7_, m8_, m10_, (by rw [ha.out]; exact putSel_upk 9 hb_ rfl rfl rfl), Q_HO134, Q_HO137, Q_HO140, Q_BK130, Q_HB, Q_HO145, Q_HO148, Q_HO151, Q_X0_, Q_X6_, Q_X7_, Q_X8_, Q_X10_⟩
              refine steps_cons ?_ ?_
              · rintro b a w' ⟨v144, v147, v150, m0_, m6_, m7_, m8_, m10_, ha, Q_HO134, Q_HO137, Q_HO140, Q_BK130, Q_HB, Q_HO145, Q_HO148, Q_HO151, Q_X0_, Q_X6_, Q_X7_, Q_X8_, Q_X10_⟩ hb_ hon hoff
                refine ⟨_, rfl, fun K hK => ?_⟩
                have e28 : a.tmps[28]? = some (m8_) := by rw [ha]; exact putSel_on (e := (8, 28, m8_)) 8 rfl rfl (hon 8 (by kernel_rfl)) rfl
                rw [Q_X8_ (hon 8 (by kernel_rfl))] at e28
                replace ha := Aside0.mk ha
                have HO134 := Aside0.mk Q_HO134
                have HO137 := Aside0.mk Q_HO137
                have HO140 := Aside0.mk Q_HO140
                have BK130 := Aside0.mk Q_BK130
                have HB := Aside0.mk Q_HB
                have HO145 := Aside0.mk (Q_HO145 (hon 0 (by kernel_rfl)))
                have HO148 := Aside0.mk (Q_HO148 (hon 5 (by kernel_rfl)))
                have HO151 := Aside0.mk (Q_HO151 (hon 6 (by kernel_rfl)))
                refine value_ (w1 := w') (v := v150) (by rfl) rfl ?_ ?_
                · go_simp
                  (try simp only [i64_w])
                  try rfl
                refine hK.out _ _ ⟨v144, v147, v150, m0_, m6_, m7_, m8_, (v150), (by rw [ha.out]; exact putSel_upk 10 hb_ rfl rfl rfl), Q_HO134, Q_HO137, Q_HO140, Q_BK130, Q_HB, Q_HO145, Q_HO148, Q_HO151, Q_X0_, Q_X6_, Q_X7_, Q_X8_, fun _ => rfl⟩
              refine steps_cons ?_ ?_
              · rintro b a w' ⟨v144, v147, v150, m0_, m6_, m7_, m8_, m10_, ha, Q_HO134, Q_HO137, Q_HO140, Q_BK130, Q_HB, Q_HO145, Q_HO148, Q_HO151, Q_X0_, Q_X6_, Q_X7_, Q_X8_, Q_X10_⟩ hb_ hon hoff
                refine ⟨_, rfl, fun K hK => ?_⟩
                have e29 : a.tmps[29]? = some (.int .i64 t152) := by rw [ha]; exact putSel_on (e := (9, 29, .int .i64 t152)) 9 rfl rfl (hon 9 (by kernel_rfl)) rfl
                replace ha := Aside0.mk ha
                have HO134 := Aside0.mk Q_HO134
                have HO137 := Aside0.mk Q_HO137
                have HO140 := Aside0.mk Q_HO140
                have BK130 := Aside0.mk Q_BK130
                have HB := Aside0.mk Q_HB
                have HO145 := Aside0.mk (Q_HO145 (hon 0 (by kernel_rfl)))
                have HO148 := Aside0.mk (Q_HO148 (hon 5 (by kernel_rfl)))
                have HO151 := Aside0.mk (Q_HO151 (hon 6 (by kernel_rfl)))
                refine value_ (w1 := w') (v := .int .i64 t152) (by rfl) rfl ?_ ?_
                · go_simp
                  (try simp only [i64_w])
                  try rfl
                refine hK.out _ _ ⟨v144, v147, v150, m0_, m6_, m7_, m8_, m10_, (by rw [ha.out]; exact putSel_upk 11 hb_ rfl rfl rfl), Q_HO134, Q_HO137, Q_HO140, Q_BK130, Q_HB, Q_HO145, Q_HO148, Q_HO151, Q_X0_, Q_X6_, Q_X7_, Q_X8_, Q_X10_⟩
              exact steps_nil
            rintro b a w38 hall ⟨v144, v147, v150, m0_, m6_, m7_, m8_, m10_, ha, Q_HO134, Q_HO137, Q_HO140, Q_BK130, Q_HB, Q_HO145, Q_HO148, Q_HO151, Q_X0_, Q_X6_, Q_X7_, Q_X8_, Q_X10_⟩
            clear BK130 HB HO134 HO137 HO140
            have hb0_ := hall 0 (by kernel_rfl)
            have hb1_ := hall 1 (by kernel_rfl)
            have hb2_ := hall 2 (by kernel_rfl)
            have hb3_ := hall 3 (by kernel_rfl)
            have hb4_ := hall 4 (by kernel_rfl)
            have hb5_ := hall 5 (by kernel_rfl)
            have hb6_ := hall 6 (by kernel_rfl)
            have hb7_ := hall 7 (by kernel_rfl)
            have hb8_ := hall 8 (by kernel_rfl)
            have hb9_ := hall 9 (by kernel_rfl)
            have hb10_ := hall 10 (by kernel_rfl)
            have hb11_ := hall 11 (by kernel_rfl)
            subst ha
            obtain rfl := (Q_X0_ hb0_).symm
            obtain rfl := (Q_X6_ hb6_).symm
            obtain rfl := (Q_X7_ hb7_).symm
            obtain rfl := (Q_X8_ hb8_).symm
            obtain rfl := (Q_X10_ hb10_).symm
            simp only [putSel, hb0_, hb1_, hb2_, hb3_, hb4_, hb5_, hb6_, hb7_, hb8_, hb9_, hb10_, hb11_, if_true, Act.put, List.setIfInBounds_toArray, List.set_cons_zero, List.set_cons_succ]
            have HO134 := Aside0.mk Q_HO134
            clear Q_HO134
            have HO137 := Aside0.mk Q_HO137
            clear Q_HO137
            have HO140 := Aside0.mk Q_HO140
            clear Q_HO140
            have BK130 := Aside0.mk Q_BK130
            clear Q_BK130
            have HB := Aside0.mk Q_HB
            clear Q_HB
            have HO145 := Aside0.mk (Q_HO145 hb0_)
            clear Q_HO145
            have HO148 := Aside0.mk (Q_HO148 hb5_)
            clear Q_HO148
            have HO151 := Aside0.mk (Q_HO151 hb6_)
            clear Q_HO151
            clear hall hb0_ hb1_ hb2_ hb3_ hb4_ hb5_ hb6_ hb7_ hb8_ hb9_ hb10_ hb11_
            try go_wp2
            have n0_ := Aside0.mk (Kd.N_drew HO134.out)
            have n1_ := Aside0.mk (Kd.R_drew HO137.out)
            have n2_ := Aside0.mk (Kd.R_drew HO140.out)
            have n3_ := Aside0.mk (Kd.N_drew HO145.out)
            have n4_ := Aside0.mk (Kd.R_drew HO148.out)
            have n5_ := Aside0.mk (Kd.R_drew HO151.out)
            have n6_ := Aside0.mk (blk_drew BK130.out)
            have n7_ := Aside0.mk (below_drew1 HB.out)
            clear HO134
            clear HO137
            clear HO140
            clear HO145
            clear HO148
            clear HO151
            clear BK130
            clear HB
            have HO134 := n0_
            have HO137 := n1_
            have HO140 := n2_
            have HO145 := n3_
            have HO148 := n4_
            have HO151 := n5_
            have BK130 := n6_
            have HB := n7_
            clear n0_ n1_ n2_ n3_ n4_ n5_ n6_ n7_
            refine start_ (n := 12) (S := fun w' => True) (ds := []) #[false, false, false, false, false, false, false, false, false, false, false, false] (by kernel_rfl) rfl rfl trivial (fun hHeld => ?_); refine with_tabW wharfagelaw13_awake.tab4 wharfagelaw13_awake.bits4 (fun HT_ HW_ => ?_)
            generalize w38.drew = w39 at HO134 HO137 HO140 HO145 HO148 HO151 BK130 HB hHeld ⊢
            refine inv_at [0, 1, 2, 3, 4, 5, 6, 7, 8, 9, 10, 11] (fun a0_ b a w' => ∃ (v155 : Value) (v158 : Value) (v161 : Value) (m0_ : Value) (m6_ : Value) (m7_ : Value) (m8_ : Value) (m10_ : Value), a = putSel a0_ b [(0, 31, m0_), (1, 32, .agg #[.bool true, .int .i64 0]), (2, 33, .agg #[.bool true, .int .i64 0]), (3, 34, .agg #[.bool true, .int .i64 0]), (4, 35, .agg #[.bool true, .int .i64 0]), (5, 36, v158), (6, 37, m6_), (7, 30, m7_), (8, 38, m8_), (9, 39, .int .i64 t163), (10, 6, m10_), (11, 7, .int .i64 t163)] ∧ (Kd.N k70 70 w' w.heap.size (fun _ => True) v133 t132) ∧ (Kd.R k67 67 w' w.heap.size (fun _ => True) v136 y135) ∧ (Kd.R k72 72 w' w.heap.size (fun _ => True) v139 t138) ∧ (Kd.N k70 70 w' w.heap.size (fun _ => True) v144 t143) ∧ (Kd.R k67 67 w' w.heap.size (fun _ => True) v147 y146) ∧ (Kd.R k72 72 w' w.heap.size (fun _ => True) v150 t149) ∧ (w'.heap[gb130]? = some (.cells #[.bool true, .int .i64 0] 67 (0, 0))) ∧ (Below w.heap.size w w') ∧ (b 0 = true → Kd.N k70 70 w' w.heap.size (fun _ => True) v155 t154) ∧ (b 5 = true → Kd.R k67 67 w' w.heap.size (fun _ => True) v158 y157) ∧ (b 6 = true → Kd.R k72 72 w' w.heap.size (fun _ => True) v161 t160) ∧ (b 0 = true → (m0_ : Value) = .agg #[.int .i64 t153, v155]) ∧ (b 6 = true → (m6_ : Value) = .tuple #[v161, .int .i64 t163]) ∧ (b 7 = true → (m7_ : Value) = .tuple #[v161, .int .i64 t163]) ∧ (b 8 = true → (m8_ : Value) = v161) ∧ (b 10 = true → (m10_ : Value) = v161)) HT_.out HW_.out (by kernel_rfl) (by kernel_rfl) ?_ ?_ ?_
            · exact ⟨.bool false, .bool false, .bool false, .bool false, .bool false, .bool false, .bool false, .bool false, by simp only [putSel, Bool.false_eq_true, if_false], (by first | (first | exact HO134.out | exact Kd.N_mono HO134.out (fun _ _ => trivial) | exact Kd.R_mono HO134.out (fun _ _ => trivial)) | exact Kd.N_mono HO134.out (fun _ _ => trivial) | exact Kd.R_mono HO134.out (fun _ _ => trivial)), (by first | (first | exact HO137.out | exact Kd.N_mono HO137.out (fun _ _ => trivial) | exact Kd.R_mono HO137.out (fun _ _ => trivial)) | exact Kd.N_mono HO137.out (fun _ _ => trivial) | exact Kd.R_mono HO137.out (fun _ _ => trivial)), (by first | (first | exact HO140.out | exact Kd.N_mono HO140.out (fun _ _ => trivial) | exact Kd.R_mono HO140.out (fun _ _ => trivial)) | exact Kd.N_mono HO140.out (fun _ _ => trivial) | exact Kd.R_mono HO140.out (fun _ _ => trivial)), (by first | (first | exact HO145.out | exact Kd.N_mono HO145.out (fun _ _ => trivial) | exact Kd.R_mono HO145.out (fun _ _ => trivial)) | exact Kd.N_mono HO145.out (fun _ _ => trivial) | exact Kd.R_mono HO145.out (fun _ _ => trivial)), (by first | (first | exact HO148.out | exact Kd.N_mono HO148.out (fun _ _ => trivial) | exact Kd.R_mono HO148.out (fun _ _ => trivial)) | exact Kd.N_mono HO148.out (fun _ _ => trivial) | exact Kd.R_mono HO148.out (fun _ _ => trivial)), (by first | (first | exact HO151.out | exact Kd.N_mono HO151.out (fun _ _ => trivial) | exact Kd.R_mono HO151.out (fun _ _ => trivial)) | exact Kd.N_mono HO151.out (fun _ _ => trivial) | exact Kd.R_mono HO151.out (fun _ _ => trivial)), BK130.out, HB.out, fun h_ => absurd h_ (by decide), fun h_ => absurd h_ (by decide), fun h_ => absurd h_ (by decide), fun h_ => absurd h_ (by decide), fun h_ => absurd h_ (by decide), fun h_ => absurd h_ (by decide), fun h_ => absurd h_ (by decide), fun h_ => absurd h_ (by decide)⟩
            · skip
              clear BK130 HB HO134 HO137 HO140 HO145 HO148 HO151
              refine steps_cons ?_ ?_
              · rintro b a w' ⟨v155, v158, v161, m0_, m6_, m7_, m8_, m10_, ha, Q_HO134, Q_HO137, Q_HO140, Q_HO145, Q_HO148, Q_HO151, Q_BK130, Q_HB, Q_HO156, Q_HO159, Q_HO162, Q_X0_, Q_X6_, Q_X7_, Q_X8_, Q_X10_⟩ hb_ hon hoff
                refine ⟨_, rfl, fun K hK => ?_⟩
                replace ha := Aside0.mk ha
                have HO134 := Aside0.mk Q_HO134
                have HO137 := Aside0.mk Q_HO137
                have HO140 := Aside0.mk Q_HO140
                have HO145 := Aside0.mk Q_HO145
                have HO148 := Aside0.mk Q_HO148
                have HO151 := Aside0.mk Q_HO151
                have BK130 := Aside0.mk Q_BK130
                have HB := Aside0.mk Q_HB
                refine goes_ Try.func36 (by kernel_rfl) rfl #[] (by rfl) rfl rfl (by first | (simp only [List.map_toArray, List.map_cons, List.map_nil, Act.eval, Array.getD_eq_getD_getElem?, Option.getD_some]; done) | (simp only [List.map_toArray, List.map_cons, List.map_nil, Act.eval, Array.getD_eq_getD_getElem?, Option.getD_some]; rfl)) ?_
                with_reducible refine (wharfagelaw13_given.calls  t153 t154 _ A5.out).mono ?_
                rintro e w40 ⟨v155, rfl, ho0, hb⟩
                refine ⟨_, rfl, ?_⟩
                have n0_ := Aside0.mk (Kd.N_elder' (by (with_reducible repeat (first | apply Kd.N_alloc | apply Kd.N_drewN | apply Kd.N_drew)); (first | exact HO134.out | exact Kd.N_mono HO134.out (fun _ _ => trivial) | exact Kd.R_mono HO134.out (fun _ _ => trivial))) (Kd.N_base ho0) hb)
                have n1_ := Aside0.mk (Kd.R_below (by (with_reducible repeat (first | apply Kd.R_alloc | apply Kd.R_drewN | apply Kd.R_drew)); (first | exact HO137.out | exact Kd.N_mono HO137.out (fun _ _ => trivial) | exact Kd.R_mono HO137.out (fun _ _ => trivial))) hb)
                have n2_ := Aside0.mk (Kd.R_below (by (with_reducible repeat (first | apply Kd.R_alloc | apply Kd.R_drewN | apply Kd.R_drew)); (first | exact HO140.out | exact Kd.N_mono HO140.out (fun _ _ => trivial) | exact Kd.R_mono HO140.out (fun _ _ => trivial))) hb)
                have n3_ := Aside0.mk (Kd.N_elder' (by (with_reducible repeat (first | apply Kd.N_alloc | apply Kd.N_drewN | apply Kd.N_drew)); (first | exact HO145.out | exact Kd.N_mono HO145.out (fun _ _ => trivial) | exact Kd.R_mono HO145.out (fun _ _ => trivial))) (Kd.N_base ho0) hb)
                have n4_ := Aside0.mk (Kd.R_below (by (with_reducible repeat (first | apply Kd.R_alloc | apply Kd.R_drewN | apply Kd.R_drew)); (first | exact HO148.out | exact Kd.N_mono HO148.out (fun _ _ => trivial) | exact Kd.R_mono HO148.out (fun _ _ => trivial))) hb)
                have n5_ := Aside0.mk (Kd.R_below (by (with_reducible repeat (first | apply Kd.R_alloc | apply Kd.R_drewN | apply Kd.R_drew)); (first | exact HO151.out | exact Kd.N_mono HO151.out (fun _ _ => trivial) | exact Kd.R_mono HO151.out (fun _ _ => trivial))) hb)
                have n6_ := Aside0.mk (Kd.N_lower (Kd.N_mono (ok' := fun k_ => some k_ ≠ (v133 : Value).ownBlock ∧ some k_ ≠ (v136 : Value).ownBlock ∧ some k_ ≠ (v139 : Value).ownBlock ∧ some k_ ≠ (v144 : Value).ownBlock ∧ some k_ ≠ (v147 : Value).ownBlock ∧ some k_ ≠ (v150 : Value).ownBlock ∧ k_ ≠ gb130) ho0 (fun k_ hk_ => ⟨(Kd.fresh' (Kd.N_lt (by (with_reducible repeat (first | apply Kd.N_alloc | apply Kd.N_drewN | apply Kd.N_drew)); (first | exact HO134.out | exact Kd.N_mono HO134.out (fun _ _ => trivial) | exact Kd.R_mono HO134.out (fun _ _ => trivial)))) k_ hk_), (Kd.fresh' (Kd.R_lt (by (with_reducible repeat (first | apply Kd.R_alloc | apply Kd.R_drewN | apply Kd.R_drew)); (first | exact HO137.out | exact Kd.N_mono HO137.out (fun _ _ => trivial) | exact Kd.R_mono HO137.out (fun _ _ => trivial)))) k_ hk_), (Kd.fresh' (Kd.R_lt (by (with_reducible repeat (first | apply Kd.R_alloc | apply Kd.R_drewN | apply Kd.R_drew)); (first | exact HO140.out | exact Kd.N_mono HO140.out (fun _ _ => trivial) | exact Kd.R_mono HO140.out (fun _ _ => trivial)))) k_ hk_), (Kd.fresh' (Kd.N_lt (by (with_reducible repeat (first | apply Kd.N_alloc | apply Kd.N_drewN | apply Kd.N_drew)); (first | exact HO145.out | exact Kd.N_mono HO145.out (fun _ _ => trivial) | exact Kd.R_mono HO145.out (fun _ _ => trivial)))) k_ hk_), (Kd.fresh' (Kd.R_lt (by (with_reducible repeat (first | apply Kd.R_alloc | apply Kd.R_drewN | apply Kd.R_drew)); (first | exact HO148.out | exact Kd.N_mono HO148.out (fun _ _ => trivial) | exact Kd.R_mono HO148.out (fun _ _ => trivial)))) k_ hk_), (Kd.fresh' (Kd.R_lt (by (with_reducible repeat (first | apply Kd.R_alloc | apply Kd.R_drewN | apply Kd.R_drew)); (first | exact HO151.out | exact Kd.N_mono HO151.out (fun _ _ => trivial) | exact Kd.R_mono HO151.out (fun _ _ => trivial)))) k_ hk_), (Kd.freshB (g := gb130) (o := .cells #[.bool true, .int .i64 0] 67 (0, 0)) (by (with_reducible repeat (first | refine blk_drewN ?_ _ | refine blk_drew ?_ | refine blk_alloc ?_ _)); exact BK130.out) k_ hk_)⟩)) (below_size (by repeat (first | (with_reducible first | exact HB.out | apply below_alloc | apply pw_below_drewN | apply below_drew1 | refine below_set ?_ GE130.out) | exact HB.out))))
                have n7_ := Aside0.mk (blk_below (g := gb130) (o := .cells #[.bool true, .int .i64 0] 67 (0, 0)) (by (with_reducible repeat (first | refine blk_drewN ?_ _ | refine blk_drew ?_ | refine blk_alloc ?_ _)); exact BK130.out) hb)
                have n8_ := Aside0.mk (below_step (by repeat (first | (with_reducible first | exact HB.out | apply below_alloc | apply pw_below_drewN | apply below_drew1 | refine below_set ?_ GE130.out) | exact HB.out)) hb)
                have z_HO159 := fun (h0_ : b 5 = true) => (show Kd.R k67 67 w40 w.heap.size (fun _ => True) v158 y157 from by first | exact (Kd.R_below (by (with_reducible repeat (first | apply Kd.R_alloc | apply Kd.R_drewN | apply Kd.R_drew)); exact (Q_HO159 h0_)) hb) | exact Kd.R_mono (Kd.R_below (by (with_reducible repeat (first | apply Kd.R_alloc | apply Kd.R_drewN | apply Kd.R_drew)); exact (Q_HO159 h0_)) hb) (fun _ h_ => by first | trivial | exact h_ | exact h_.1))
                clear HO134
                clear HO137
                clear HO140
                clear HO145
                clear HO148
                clear HO151
                clear BK130
                clear HB
                have HO134 := n0_
                have HO137 := n1_
                have HO140 := n2_
                have HO145 := n3_
                have HO148 := n4_
                have HO151 := n5_
                have HO156 := n6_
                have BK130 := n7_
                have HB := n8_
                clear n0_ n1_ n2_ n3_ n4_ n5_ n6_ n7_ n8_
                (try clear hb)
                (try clear hb2)
                (try clear hk)
                (try clear hi)
                (try clear ho0)
                refine hK.out _ _ ⟨v155, v158, v161, (.agg #[.int .i64 t153, v155]), m6_, m7_, m8_, m10_, (by rw [ha.out]; exact putSel_upk 0 hb_ rfl rfl rfl), (by (with_reducible repeat (first | apply Kd.N_alloc | apply Kd.N_drewN | apply Kd.N_drew)); exact Kd.N_mono HO134.out (fun _ hk => by first | trivial | exact ⟨hk.1.1, ⟨hk.1.2.1, ⟨hk.1.2.2.1, ⟨hk.1.2.2.2.1, ⟨hk.1.2.2.2.2.1, ⟨hk.2, hk.1.2.2.2.2.2⟩⟩⟩⟩⟩⟩ | exact hk | exact hk.1 | exact hk.2 | exact ⟨hk.1.1, hk.2⟩ | exact ⟨hk.1.1, hk.1.2⟩ | simp_all)), (by (with_reducible repeat (first | apply Kd.R_alloc | apply Kd.R_drewN | apply Kd.R_drew)); (first | exact HO137.out | exact Kd.N_mono HO137.out (fun _ _ => trivial) | exact Kd.R_mono HO137.out (fun _ _ => trivial))), (by (with_reducible repeat (first | apply Kd.R_alloc | apply Kd.R_drewN | apply Kd.R_drew)); (first | exact HO140.out | exact Kd.N_mono HO140.out (fun _ _ => trivial) | exact Kd.R_mono HO140.out (fun _ _ => trivial))), (by (with_reducible repeat (first | apply Kd.N_alloc | apply Kd.N_drewN | apply Kd.N_drew)); exact Kd.N_mono HO145.out (fun _ hk => by first | trivial | exact ⟨hk.1.1, ⟨hk.1.2.1, ⟨hk.1.2.2.1, ⟨hk.1.2.2.2.1, ⟨hk.1.2.2.2.2.1, ⟨hk.2, hk.1.2.2.2.2.2⟩⟩⟩⟩⟩⟩ | exact hk | exact hk.1 | exact hk.2 | exact ⟨hk.1.1, hk.2⟩ | exact ⟨hk.1.1, hk.1.2⟩ | simp_all)), (by (with_reducible repeat (first | apply Kd.R_alloc | apply Kd.R_drewN | apply Kd.R_drew)); (first | exact HO148.out | exact Kd.N_mono HO148.out (fun _ _ => trivial) | exact Kd.R_mono HO148.out (fun _ _ => trivial))), (by (with_reducible repeat (first | apply Kd.R_alloc | apply Kd.R_drewN | apply Kd.R_drew)); (first | exact HO151.out | exact Kd.N_mono HO151.out (fun _ _ => trivial) | exact Kd.R_mono HO151.out (fun _ _ => trivial))), (by (with_reducible repeat (first | refine blk_drewN ?_ _ | refine blk_drew ?_ | refine blk_alloc ?_ _)); exact BK130.out), (by repeat (first | (with_reducible first | exact HB.out | apply below_alloc | apply pw_below_drewN | apply below_drew1 | refine below_set ?_ GE130.out) | exact HB.out)), fun _ => (by (with_reducible repeat (first | apply Kd.N_alloc | apply Kd.N_drewN | apply Kd.N_drew)); (first | exact HO156.out | exact Kd.N_mono HO156.out (fun _ _ => trivial) | exact Kd.R_mono HO156.out (fun _ _ => trivial))), z_HO159, fun h0_ => absurd ((hoff 6 (by kernel_rfl)).symm.trans h0_) (by decide), fun _ => rfl, fun h0_ => absurd ((hoff 6 (by kernel_rfl)).symm.trans h0_) (by decide), fun h0_ => absurd ((hoff 7 (by kernel_rfl)).symm.trans h0_) (by decide), fun h0_ => absurd ((hoff 8 (by kernel_rfl)).symm.trans h0_) (by decide), fun h0_ => absurd ((hoff 10 (by kernel_rfl)).symm.trans h0_) (by decide)⟩
              refine steps_cons ?_ ?_
              · rintro b a w' ⟨v155, v158, v161, m0_, m6_, m7_, m8_, m10_, ha, Q_HO134, Q_HO137, Q_HO140, Q_HO145, Q_HO148, Q_HO151, Q_BK130, Q_HB, Q_HO156, Q_HO159, Q_HO162, Q_X0_, Q_X6_, Q_X7_, Q_X8_, Q_X10_⟩ hb_ hon hoff
                refine ⟨_, rfl, fun K hK => ?_⟩
                have e1 : a.tmps[1]? = some (.pointer (some ⟨gb130, 0, none⟩)) := by rw [ha]; exact (putSel_off rfl).trans rfl
                replace ha := Aside0.mk ha
                have HO134 := Aside0.mk Q_HO134
                have HO137 := Aside0.mk Q_HO137
                have HO140 := Aside0.mk Q_HO140
                have HO145 := Aside0.mk Q_HO145
                have HO148 := Aside0.mk Q_HO148
                have HO151 := Aside0.mk Q_HO151
                have BK130 := Aside0.mk Q_BK130
                have HB := Aside0.mk Q_HB
                have hc0_ : w'.cell? ⟨gb130, 0, none⟩ = some (.bool true) := (blk_cell BK130.out 0).trans rfl
                have hc1_ : w'.cell? ⟨gb130, 1, none⟩ = some (.int .i64 0) := (blk_cell BK130.out 1).trans rfl
                refine value_ (w1 := w') (v := .agg #[.bool true, .int .i64 0]) (by rfl) rfl ?_ ?_
                · go_simp
                  (try simp only [i64_w])
                  try rfl
                refine hK.out _ _ ⟨v155, v158, v161, m0_, m6_, m7_, m8_, m10_, (by rw [ha.out]; exact putSel_upk 1 hb_ rfl rfl rfl), Q_HO134, Q_HO137, Q_HO140, Q_HO145, Q_HO148, Q_HO151, Q_BK130, Q_HB, Q_HO156, fun h0_ => absurd ((hoff 5 (by kernel_rfl)).symm.trans h0_) (by decide), fun h0_ => absurd ((hoff 6 (by kernel_rfl)).symm.trans h0_) (by decide), Q_X0_, fun h0_ => absurd ((hoff 6 (by kernel_rfl)).symm.trans h0_) (by decide), fun h0_ => absurd ((hoff 7 (by kernel_rfl)).symm.trans h0_) (by decide), fun h0_ => absurd ((hoff 8 (by kernel_rfl)).symm.trans h0_) (by decide), fun h0_ => absurd ((hoff 10 (by kernel_rfl)).symm.trans h0_) (by decide)⟩
              refine steps_cons ?_ ?_
              · rintro b a w' ⟨v155, v158, v161, m0_, m6_, m7_, m8_, m10_, ha, Q_HO134, Q_HO137, Q_HO140, Q_HO145, Q_HO148, Q_HO151, Q_BK130, Q_HB, Q_HO156, Q_HO159, Q_HO162, Q_X0_, Q_X6_, Q_X7_, Q_X8_, Q_X10_⟩ hb_ hon hoff
                refine ⟨_, rfl, fun K hK => ?_⟩
                have e1 : a.tmps[1]? = some (.pointer (some ⟨gb130, 0, none⟩)) := by rw [ha]; exact (putSel_off rfl).trans rfl
                replace ha := Aside0.mk ha
                have HO134 := Aside0.mk Q_HO134
                have HO137 := Aside0.mk Q_HO137
                have HO140 := Aside0.mk Q_HO140
                have HO145 := Aside0.mk Q_HO145
                have HO148 := Aside0.mk Q_HO148
                have HO151 := Aside0.mk Q_HO151
                have BK130 := Aside0.mk Q_BK130
                have HB := Aside0.mk Q_HB
                have hc0_ : w'.cell? ⟨gb130, 0, none⟩ = some (.bool true) := (blk_cell BK130.out 0).trans rfl
                have hc1_ : w'.cell? ⟨gb130, 1, none⟩ = some (.int .i64 0) := (blk_cell BK130.out 1).trans rfl
                refine value_ (w1 := w') (v := .agg #[.bool true, .int .i64 0]) (by rfl) rfl ?_ ?_
                · go_simp
                  (try simp only [i64_w])
                  try rfl
                refine hK.out _ _ ⟨v155, v158, v161, m0_, m6_, m7_, m8_, m10_, (by rw [ha.out]; exact putSel_upk 2 hb_ rfl rfl rfl), Q_HO134, Q_HO137, Q_HO140, Q_HO145, Q_HO148, Q_HO151, Q_BK130, Q_HB, Q_HO156, fun h0_ => absurd ((hoff 5 (by kernel_rfl)).symm.trans h0_) (by decide), fun h0_ => absurd ((hoff 6 (by kernel_rfl)).symm.trans h0_) (by decide), Q_X0_, fun h0_ => absurd ((hoff 6 (by kernel_rfl)).symm.trans h0_) (by decide), fun h0_ => absurd ((hoff 7 (by kernel_rfl)).symm.trans h0_) (by decide), fun h0_ => absurd ((hoff 8 (by kernel_rfl)).symm.trans h0_) (by decide), fun h0_ => absurd ((hoff 10 (by kernel_rfl)).symm.trans h0_) (by decide)⟩
              refine steps_cons ?_ ?_
              · rintro b a w' ⟨v155, v158, v161, m0_, m6_, m7_, m8_, m10_, ha, Q_HO134, Q_HO137, Q_HO140, Q_HO145, Q_HO148, Q_HO151, Q_BK130, Q_HB, Q_HO156, Q_HO159, Q_HO162, Q_X0_, Q_X6_, Q_X7_, Q_X8_, Q_X10_⟩ hb_ hon hoff
                refine ⟨_, rfl, fun K hK => ?_⟩
                have e1 : a.tmps[1]? = some (.pointer (some ⟨gb130, 0, none⟩)) := by rw [ha]; exact (putSel_off rfl).trans rfl
                replace ha := Aside0.mk ha
                have HO134 := Aside0.mk Q_HO134
                have HO137 := Aside0.mk Q_HO137
                have HO140 := Aside0.mk Q_HO140
                have HO145 := Aside0.mk Q_HO145
                have HO148 := Aside0.mk Q_HO148
                have HO151 := Aside0.mk Q_HO151
                have BK130 := Aside0.mk Q_BK130
                have HB := Aside0.mk Q_HB
                have hc0_ : w'.cell? ⟨gb130, 0, none⟩ = some (.bool true) := (blk_cell BK130.out 0).trans rfl
                have hc1_ : w'.cell? ⟨gb130, 1, none⟩ = some (.int .i64 0) := (blk_cell BK130.out 1).trans rfl
                refine value_ (w1 := w') (v := .agg #[.bool true, .int .i64 0]) (by rfl) rfl ?_ ?_
                · go_simp
                  (try simp only [i64_w])
                  try rfl
                refine hK.out _ _ ⟨v155, v158, v161, m0_, m6_, m7_, m8_, m10_, (by rw [ha.out]; exact putSel_upk 3 hb_ rfl rfl rfl), Q_HO134, Q_HO137, Q_HO140, Q_HO145, Q_HO148, Q_HO151, Q_BK130, Q_HB, Q_HO156, fun h0_ => absurd ((hoff 5 (by kernel_rfl)).symm.trans h0_) (by decide), fun h0_ => absurd ((hoff 6 (by kernel_rfl)).symm.trans h0_) (by decide), Q_X0_, fun h0_ => absurd ((hoff 6 (by kernel_rfl)).symm.trans h0_) (by decide), fun h0_ => absurd ((hoff 7 (by kernel_rfl)).symm.trans h0_) (by decide), fun h0_ => absurd ((hoff 8 (by kernel_rfl)).symm.trans h0_) (by decide), fun h0_ => absurd ((hoff 10 (by kernel_rfl)).symm.trans h0_) (by decide)⟩
              refine steps_cons ?_ ?_
              · rintro b a w' ⟨v155, v158, v161, m0_, m6_, m7_, m8_, m10_, ha, Q_HO134, Q_HO137, Q_HO140, Q_HO145, Q_HO148, Q_HO151, Q_BK130, Q_HB, Q_HO156, Q_HO159, Q_HO162, Q_X0_, Q_X6_, Q_X7_, Q_X8_, Q_X10_⟩ hb_ hon hoff
                refine ⟨_, rfl, fun K hK => ?_⟩
                have e1 : a.tmps[1]? = some (.pointer (some ⟨gb130, 0, none⟩)) := by rw [ha]; exact (putSel_off rfl).trans rfl
                replace ha := Aside0.mk ha
                have HO134 := Aside0.mk Q_HO134
                have HO137 := Aside0.mk Q_HO137
                have HO140 := Aside0.mk Q_HO140
                have HO145 := Aside0.mk Q_HO145
                have HO148 := Aside0.mk Q_HO148
                have HO151 := Aside0.mk Q_HO151
                have BK130 := Aside0.mk Q_BK130
                have HB := Aside0.mk Q_HB
                have hc0_ : w'.cell? ⟨gb130, 0, none⟩ = some (.bool true) := (blk_cell BK130.out 0).trans rfl
                have hc1_ : w'.cell? ⟨gb130, 1, none⟩ = some (.int .i64 0) := (blk_cell BK130.out 1).trans rfl
                refine value_ (w1 := w') (v := .agg #[.bool true, .int .i64 0]) (by rfl) rfl ?_ ?_
                · go_simp
                  (try simp only [i64_w])
                  try rfl
                refine hK.out _ _ ⟨v155, v158, v161, m0_, m6_, m7_, m8_, m10_, (by rw [ha.out]; exact putSel_upk 4 hb_ rfl rfl rfl), Q_HO134, Q_HO137, Q_HO140, Q_HO145, Q_HO148, Q_HO151, Q_BK130, Q_HB, Q_HO156, fun h0_ => absurd ((hoff 5 (by kernel_rfl)).symm.trans h0_) (by decide), fun h0_ => absurd ((hoff 6 (by kernel_rfl)).symm.trans h0_) (by decide), Q_X0_, fun h0_ => absurd ((hoff 6 (by kernel_rfl)).symm.trans h0_) (by decide), fun h0_ => absurd ((hoff 7 (by kernel_rfl)).symm.trans h0_) (by decide), fun h0_ => absurd ((hoff 8 (by kernel_rfl)).symm.trans h0_) (by decide), fun h0_ => absurd ((hoff 10 (by kernel_rfl)).symm.trans h0_) (by decide)⟩
              refine steps_cons ?_ ?_
              · rintro b a w' ⟨v155, v158, v161, m0_, m6_, m7_, m8_, m10_, ha, Q_HO134, Q_HO137, Q_HO140, Q_HO145, Q_HO148, Q_HO151, Q_BK130, Q_HB, Q_HO156, Q_HO159, Q_HO162, Q_X0_, Q_X6_, Q_X7_, Q_X8_, Q_X10_⟩ hb_ hon hoff
                refine ⟨_, rfl, fun K hK => ?_⟩
                have e32 : a.tmps[32]? = some (.agg #[.bool true, .int .i64 0]) := by rw [ha]; exact putSel_on (e := (1, 32, .agg #[.bool true, .int .i64 0])) 1 rfl rfl (hon 1 (by kernel_rfl)) rfl
                have e33 : a.tmps[33]? = some (.agg #[.bool true, .int .i64 0]) := by rw [ha]; exact putSel_on (e := (2, 33, .agg #[.bool true, .int .i64 0])) 2 rfl rfl (hon 2 (by kernel_rfl)) rfl
                have e34 : a.tmps[34]? = some (.agg #[.bool true, .int .i64 0]) := by rw [ha]; exact putSel_on (e := (3, 34, .agg #[.bool true, .int .i64 0])) 3 rfl rfl (hon 3 (by kernel_rfl)) rfl
                have e35 : a.tmps[35]? = some (.agg #[.bool true, .int .i64 0]) := by rw [ha]; exact putSel_on (e := (4, 35, .agg #[.bool true, .int .i64 0])) 4 rfl rfl (hon 4 (by kernel_rfl)) rfl
                replace ha := Aside0.mk ha
                have HO134 := Aside0.mk Q_HO134
                have HO137 := Aside0.mk Q_HO137
                have HO140 := Aside0.mk Q_HO140
                have HO145 := Aside0.mk Q_HO145
                have HO148 := Aside0.mk Q_HO148
                have HO151 := Aside0.mk Q_HO151
                have BK130 := Aside0.mk Q_BK130
                have HB := Aside0.mk Q_HB
                refine Kd.R_lit_step k67 _ 67 ?hg (N := 36) ?hd (xs := ([(⟨true, 0⟩ : S67), (⟨true, 0⟩ : S67), (⟨true, 0⟩ : S67), (⟨true, 0⟩ : S67)] : List (S67))) (inner := [.bool true, .int .i64 0, .bool true, .int .i64 0, .bool true, .int .i64 0, .bool true, .int .i64 0]) (ok := fun _ => True) (okp := fun _ => True) ?hr ?hp (fun _ hk => by first | trivial | exact hk | exact hk | exact hk.1 | exact hk.2 | exact ⟨hk.1.1, hk.2⟩ | exact ⟨hk.1.1, hk.1.2⟩ | simp_all) trivial (Below.refl _ _) (Nat.le_refl _) (by simp) ?_; (case hd => rfl); (case hg => rfl); (case hr => first | (go_simp; done) | (go_simp; rfl)); (case hp => exact (Reps.c2 (show Kd.M k67 _ _ _ (⟨true, 0⟩ : S67) [.bool true, .int .i64 0] from (k67_mkM _ _ _ (⟨true, 0⟩ : S67) )) (Reps.c2 (show Kd.M k67 _ _ _ (⟨true, 0⟩ : S67) [.bool true, .int .i64 0] from (k67_mkM _ _ _ (⟨true, 0⟩ : S67) )) (Reps.c2 (show Kd.M k67 _ _ _ (⟨true, 0⟩ : S67) [.bool true, .int .i64 0] from (k67_mkM _ _ _ (⟨true, 0⟩ : S67) )) (Reps.c2 (show Kd.M k67 _ _ _ (⟨true, 0⟩ : S67) [.bool true, .int .i64 0] from (k67_mkM _ _ _ (⟨true, 0⟩ : S67) )) (Reps.none _ _))))))
                intro v158 w40 ho41 hb hg_ hnew_
                clear hg_ hnew_
                (first | rw [← Ny157.out] at ho41 | (simp only [Int.reduceToNat] at ho41; rw [← Ny157.out] at ho41))
                have n0_ := Aside0.mk (Kd.N_elder' (by (with_reducible repeat (first | apply Kd.N_alloc | apply Kd.N_drewN | apply Kd.N_drew)); (first | exact HO134.out | exact Kd.N_mono HO134.out (fun _ _ => trivial) | exact Kd.R_mono HO134.out (fun _ _ => trivial))) (Kd.R_base ho41) hb)
                have n1_ := Aside0.mk (Kd.R_elder' (by (with_reducible repeat (first | apply Kd.R_alloc | apply Kd.R_drewN | apply Kd.R_drew)); (first | exact HO137.out | exact Kd.N_mono HO137.out (fun _ _ => trivial) | exact Kd.R_mono HO137.out (fun _ _ => trivial))) (Kd.R_base ho41) hb)
                have n2_ := Aside0.mk (Kd.R_below (by (with_reducible repeat (first | apply Kd.R_alloc | apply Kd.R_drewN | apply Kd.R_drew)); (first | exact HO140.out | exact Kd.N_mono HO140.out (fun _ _ => trivial) | exact Kd.R_mono HO140.out (fun _ _ => trivial))) hb)
                have n3_ := Aside0.mk (Kd.N_elder' (by (with_reducible repeat (first | apply Kd.N_alloc | apply Kd.N_drewN | apply Kd.N_drew)); (first | exact HO145.out | exact Kd.N_mono HO145.out (fun _ _ => trivial) | exact Kd.R_mono HO145.out (fun _ _ => trivial))) (Kd.R_base ho41) hb)
                have n4_ := Aside0.mk (Kd.R_elder' (by (with_reducible repeat (first | apply Kd.R_alloc | apply Kd.R_drewN | apply Kd.R_drew)); (first | exact HO148.out | exact Kd.N_mono HO148.out (fun _ _ => trivial) | exact Kd.R_mono HO148.out (fun _ _ => trivial))) (Kd.R_base ho41) hb)
                have n5_ := Aside0.mk (Kd.R_below (by (with_reducible repeat (first | apply Kd.R_alloc | apply Kd.R_drewN | apply Kd.R_drew)); (first | exact HO151.out | exact Kd.N_mono HO151.out (fun _ _ => trivial) | exact Kd.R_mono HO151.out (fun _ _ => trivial))) hb)
                have n6_ := Aside0.mk (Kd.R_lower (Kd.R_newB (Kd.R_new' (Kd.R_new' ho41 (Kd.R_lt (by (with_reducible repeat (first | apply Kd.R_alloc | apply Kd.R_drewN | apply Kd.R_drew)); (first | exact HO137.out | exact Kd.N_mono HO137.out (fun _ _ => trivial) | exact Kd.R_mono HO137.out (fun _ _ => trivial))))) (Kd.R_lt (by (with_reducible repeat (first | apply Kd.R_alloc | apply Kd.R_drewN | apply Kd.R_drew)); (first | exact HO148.out | exact Kd.N_mono HO148.out (fun _ _ => trivial) | exact Kd.R_mono HO148.out (fun _ _ => trivial))))) (g := gb130) (o := .cells #[.bool true, .int .i64 0] 67 (0, 0)) (by (with_reducible repeat (first | refine blk_drewN ?_ _ | refine blk_drew ?_ | refine blk_alloc ?_ _)); exact BK130.out)) (below_size (by repeat (first | (with_reducible first | exact HB.out | apply below_alloc | apply pw_below_drewN | apply below_drew1 | refine below_set ?_ GE130.out) | exact HB.out))))
                have n7_ := Aside0.mk (blk_below (g := gb130) (o := .cells #[.bool true, .int .i64 0] 67 (0, 0)) (by (with_reducible repeat (first | refine blk_drewN ?_ _ | refine blk_drew ?_ | refine blk_alloc ?_ _)); exact BK130.out) hb)
                have n8_ := Aside0.mk (below_step (by repeat (first | (with_reducible first | exact HB.out | apply below_alloc | apply pw_below_drewN | apply below_drew1 | refine below_set ?_ GE130.out) | exact HB.out)) hb)
                have z_HO156 := fun (h0_ : b 0 = true) => (show Kd.N k70 70 w40 w.heap.size (fun _ => True) v155 t154 from by first | exact (Kd.N_elder' (by (with_reducible repeat (first | apply Kd.N_alloc | apply Kd.N_drewN | apply Kd.N_drew)); exact (Q_HO156 h0_)) (Kd.R_base ho41) hb) | exact Kd.N_mono (Kd.N_elder' (by (with_reducible repeat (first | apply Kd.N_alloc | apply Kd.N_drewN | apply Kd.N_drew)); exact (Q_HO156 h0_)) (Kd.R_base ho41) hb) (fun _ h_ => by first | trivial | exact h_ | exact h_.1))
                clear HO134
                clear HO137
                clear HO140
                clear HO145
                clear HO148
                clear HO151
                clear BK130
                clear HB
                have HO134 := n0_
                have HO137 := n1_
                have HO140 := n2_
                have HO145 := n3_
                have HO148 := n4_
                have HO151 := n5_
                have HO159 := n6_
                have BK130 := n7_
                have HB := n8_
                clear n0_ n1_ n2_ n3_ n4_ n5_ n6_ n7_ n8_
                clear hb ho41
                refine hK.out _ _ ⟨v155, v158, v161, m0_, m6_, m7_, m8_, m10_, (by rw [ha.out]; exact putSel_upk 5 hb_ rfl rfl rfl), (by (with_reducible repeat (first | apply Kd.N_alloc | apply Kd.N_drewN | apply Kd.N_drew)); exact Kd.N_mono HO134.out (fun _ hk => by first | trivial | exact ⟨hk.1.1, ⟨hk.1.2.1, ⟨hk.1.2.2.1, ⟨hk.1.2.2.2.1, ⟨hk.1.2.2.2.2.1, ⟨hk.2, hk.1.2.2.2.2.2⟩⟩⟩⟩⟩⟩ | exact hk | exact hk.1 | exact hk.2 | exact ⟨hk.1.1, hk.2⟩ | exact ⟨hk.1.1, hk.1.2⟩ | simp_all)), (by (with_reducible repeat (first | apply Kd.R_alloc | apply Kd.R_drewN | apply Kd.R_drew)); exact Kd.R_mono HO137.out (fun _ hk => by first | trivial | exact ⟨hk.1.1, ⟨hk.2, hk.1.2⟩⟩ | exact hk | exact hk.1 | exact hk.2 | exact ⟨hk.1.1, hk.2⟩ | exact ⟨hk.1.1, hk.1.2⟩ | simp_all)), (by (with_reducible repeat (first | apply Kd.R_alloc | apply Kd.R_drewN | apply Kd.R_drew)); (first | exact HO140.out | exact Kd.N_mono HO140.out (fun _ _ => trivial) | exact Kd.R_mono HO140.out (fun _ _ => trivial))), (by (with_reducible repeat (first | apply Kd.N_alloc | apply Kd.N_drewN | apply Kd.N_drew)); exact Kd.N_mono HO145.out (fun _ hk => by first | trivial | exact ⟨hk.1.1, ⟨hk.1.2.1, ⟨hk.1.2.2.1, ⟨hk.1.2.2.2.1, ⟨hk.1.2.2.2.2.1, ⟨hk.2, hk.1.2.2.2.2.2⟩⟩⟩⟩⟩⟩ | exact hk | exact hk.1 | exact hk.2 | exact ⟨hk.1.1, hk.2⟩ | exact ⟨hk.1.1, hk.1.2⟩ | simp_all)), (by (with_reducible repeat (first | apply Kd.R_alloc | apply Kd.R_drewN | apply Kd.R_drew)); exact Kd.R_mono HO148.out (fun _ hk => by first | trivial | exact ⟨hk.1.1, ⟨hk.2, hk.1.2⟩⟩ | exact hk | exact hk.1 | exact hk.2 | exact ⟨hk.1.1, hk.2⟩ | exact ⟨hk.1.1, hk.1.2⟩ | simp_all)), (by (with_reducible repeat (first | apply Kd.R_alloc | apply Kd.R_drewN | apply Kd.R_drew)); (first | exact HO151.out | exact Kd.N_mono HO151.out (fun _ _ => trivial) | exact Kd.R_mono HO151.out (fun _ _ => trivial))), (by (with_reducible repeat (first | refine blk_drewN ?_ _ | refine blk_drew ?_ | refine blk_alloc ?_ _)); exact BK130.out), (by repeat (first | (with_reducible first | exact HB.out | apply below_alloc | apply pw_below_drewN | apply below_drew1 | refine below_set ?_ GE130.out) | exact HB.out)), z_HO156, fun _ => (by (with_reducible repeat (first | apply Kd.R_alloc | apply Kd.R_drewN | apply Kd.R_drew)); exact Kd.R_mono HO159.out (fun _ hk => by first | trivial | exact ⟨hk.1.1.2, ⟨hk.1.2, hk.2⟩⟩ | exact hk | exact hk.1 | exact hk.2 | exact ⟨hk.1.1, hk.2⟩ | exact ⟨hk.1.1, hk.1.2⟩ | simp_all)), fun h0_ => absurd ((hoff 6 (by kernel_rfl)).symm.trans h0_) (by decide), Q_X0_, fun h0_ => absurd ((hoff 6 (by kernel_rfl)).symm.trans h0_) (by decide), fun h0_ => absurd ((hoff 7 (by kernel_rfl)).symm.trans h0_) (by decide), fun h0_ => absurd ((hoff 8 (by kernel_rfl)).symm.trans h0_) (by decide), fun h0_ => absurd ((hoff 10 (by kernel_rfl)).symm.trans h0_) (by decide)⟩
              refine steps_cons ?_ ?_
              · rintro b a w' ⟨v155, v158, v161, m0_, m6_, m7_, m8_, m10_, ha, Q_HO134, Q_HO137, Q_HO140, Q_HO145, Q_HO148, Q_HO151, Q_BK130, Q_HB, Q_HO156, Q_HO159, Q_HO162, Q_X0_, Q_X6_, Q_X7_, Q_X8_, Q_X10_⟩ hb_ hon hoff
                refine ⟨_, rfl, fun K hK => ?_⟩
                have e31 : a.tmps[31]? = some (m0_) := by rw [ha]; exact putSel_on (e := (0, 31, m0_)) 0 rfl rfl (hon 0 (by kernel_rfl)) rfl
                rw [Q_X0_ (hon 0 (by kernel_rfl))] at e31
                have e36 : a.tmps[36]? = some (v158) := by rw [ha]; exact putSel_on (e := (5, 36, v158)) 5 rfl rfl (hon 5 (by kernel_rfl)) rfl
                replace ha := Aside0.mk ha
                have HO134 := Aside0.mk Q_HO134
                have HO137 := Aside0.mk Q_HO137
                have HO140 := Aside0.mk Q_HO140
                have HO145 := Aside0.mk Q_HO145
                have HO148 := Aside0.mk Q_HO148
                have HO151 := Aside0.mk Q_HO151
                have BK130 := Aside0.mk Q_BK130
                have HB := Aside0.mk Q_HB
                have HO156 := Aside0.mk (Q_HO156 (hon 0 (by kernel_rfl)))
                have HO159 := Aside0.mk (Q_HO159 (hon 5 (by kernel_rfl)))
                obtain ⟨Ao44, co44, eo44⟩ := Kd.N_slice HO156.out
                (first | subst eo44 | (injection eo44 with f1_ f2_ f3_; have f4_ := f1_.symm; have f5_ := f3_.symm; clear f1_ f2_ f3_; subst f4_; subst f5_))
                obtain ⟨Ao45, co45, eo45⟩ := Kd.R_slice HO159.out
                (first | subst eo45 | (injection eo45 with f1_ f2_ f3_; have f4_ := f1_.symm; have f5_ := f3_.symm; clear f1_ f2_ f3_; subst f4_; subst f5_))
                refine goes_ Try.func29 (by kernel_rfl) rfl #[.agg #[.int .i64 t153, .slice Ao44 t154.length co44], .int .i64 2, .slice Ao45 y157.length co45] (by rfl) rfl rfl (by first | (simp only [List.map_toArray, List.map_cons, List.map_nil, Act.eval, Array.getD_eq_getD_getElem?, Option.getD_some, e31, e36]; done) | (simp only [List.map_toArray, List.map_cons, List.map_nil, Act.eval, Array.getD_eq_getD_getElem?, Option.getD_some, e31, e36]; rfl)) ?_
                with_reducible refine (cand_Backs.calls t153 _ _ t154 2 _ _ y157 t160 t163 _ ?side1 ?side2 ?side3 ?side4 A6.out).mono ?_
                (case side1 => repeat (first | exact (Kd.N_reads' HO156.out).2.2 | (with_reducible refine Kd.C_alloc ?_ _) | (with_reducible refine Kd.C_drewN ?_ _) | (with_reducible refine Kd.C_drew ?_)))
                (case side2 => exact (Kd.N_reads' HO156.out).2.1)
                (case side3 => repeat (first | exact (Kd.R_reads' HO159.out).2.2 | (with_reducible refine Kd.C_alloc ?_ _) | (with_reducible refine Kd.C_drewN ?_ _) | (with_reducible refine Kd.C_drew ?_)))
                (case side4 => exact (Kd.R_reads' HO159.out).2.1)
                rintro e w46 ⟨v161, rfl, ho0, hb⟩
                refine ⟨_, rfl, ?_⟩
                have n0_ := Aside0.mk (Kd.N_elder' (by (with_reducible repeat (first | apply Kd.N_alloc | apply Kd.N_drewN | apply Kd.N_drew)); (first | exact HO134.out | exact Kd.N_mono HO134.out (fun _ _ => trivial) | exact Kd.R_mono HO134.out (fun _ _ => trivial))) (Kd.R_base ho0) hb)
                have n1_ := Aside0.mk (Kd.R_below (by (with_reducible repeat (first | apply Kd.R_alloc | apply Kd.R_drewN | apply Kd.R_drew)); (first | exact HO137.out | exact Kd.N_mono HO137.out (fun _ _ => trivial) | exact Kd.R_mono HO137.out (fun _ _ => trivial))) hb)
                have n2_ := Aside0.mk (Kd.R_elder' (by (with_reducible repeat (first | apply Kd.R_alloc | apply Kd.R_drewN | apply Kd.R_drew)); (first | exact HO140.out | exact Kd.N_mono HO140.out (fun _ _ => trivial) | exact Kd.R_mono HO140.out (fun _ _ => trivial))) (Kd.R_base ho0) hb)
                have n3_ := Aside0.mk (Kd.N_elder' (by (with_reducible repeat (first | apply Kd.N_alloc | apply Kd.N_drewN | apply Kd.N_drew)); (first | exact HO145.out | exact Kd.N_mono HO145.out (fun _ _ => trivial) | exact Kd.R_mono HO145.out (fun _ _ => trivial))) (Kd.R_base ho0) hb)
                have n4_ := Aside0.mk (Kd.R_below (by (with_reducible repeat (first | apply Kd.R_alloc | apply Kd.R_drewN | apply Kd.R_drew)); (first | exact HO148.out | exact Kd.N_mono HO148.out (fun _ _ => trivial) | exact Kd.R_mono HO148.out (fun _ _ => trivial))) hb)
                have n5_ := Aside0.mk (Kd.R_elder' (by (with_reducible repeat (first | apply Kd.R_alloc | apply Kd.R_drewN | apply Kd.R_drew)); (first | exact HO151.out | exact Kd.N_mono HO151.out (fun _ _ => trivial) | exact Kd.R_mono HO151.out (fun _ _ => trivial))) (Kd.R_base ho0) hb)
                have n6_ := Aside0.mk (Kd.N_elder' (by (with_reducible repeat (first | apply Kd.N_alloc | apply Kd.N_drewN | apply Kd.N_drew)); (first | exact HO156.out | exact Kd.N_mono HO156.out (fun _ _ => trivial) | exact Kd.R_mono HO156.out (fun _ _ => trivial))) (Kd.R_base ho0) hb)
                have n7_ := Aside0.mk (Kd.R_below (by (with_reducible repeat (first | apply Kd.R_alloc | apply Kd.R_drewN | apply Kd.R_drew)); (first | exact HO159.out | exact Kd.N_mono HO159.out (fun _ _ => trivial) | exact Kd.R_mono HO159.out (fun _ _ => trivial))) hb)
                have n8_ := Aside0.mk (Kd.R_lower (Kd.R_new' (Kd.R_new' ho0 (Kd.R_lt (by (with_reducible repeat (first | apply Kd.R_alloc | apply Kd.R_drewN | apply Kd.R_drew)); (first | exact HO140.out | exact Kd.N_mono HO140.out (fun _ _ => trivial) | exact Kd.R_mono HO140.out (fun _ _ => trivial))))) (Kd.R_lt (by (with_reducible repeat (first | apply Kd.R_alloc | apply Kd.R_drewN | apply Kd.R_drew)); (first | exact HO151.out | exact Kd.N_mono HO151.out (fun _ _ => trivial) | exact Kd.R_mono HO151.out (fun _ _ => trivial))))) (below_size (by repeat (first | (with_reducible first | exact HB.out | apply below_alloc | apply pw_below_drewN | apply below_drew1 | refine below_set ?_ GE130.out) | exact HB.out))))
                have n9_ := Aside0.mk (blk_below (g := gb130) (o := .cells #[.bool true, .int .i64 0] 67 (0, 0)) (by (with_reducible repeat (first | refine blk_drewN ?_ _ | refine blk_drew ?_ | refine blk_alloc ?_ _)); exact BK130.out) hb)
                have n10_ := Aside0.mk (below_step (by repeat (first | (with_reducible first | exact HB.out | apply below_alloc | apply pw_below_drewN | apply below_drew1 | refine below_set ?_ GE130.out) | exact HB.out)) hb)
                clear HO134
                clear HO137
                clear HO140
                clear HO145
                clear HO148
                clear HO151
                clear HO156
                clear HO159
                clear BK130
                clear HB
                have HO134 := n0_
                have HO137 := n1_
                have HO140 := n2_
                have HO145 := n3_
                have HO148 := n4_
                have HO151 := n5_
                have HO156 := n6_
                have HO159 := n7_
                have HO162 := n8_
                have BK130 := n9_
                have HB := n10_
                clear n0_ n1_ n2_ n3_ n4_ n5_ n6_ n7_ n8_ n9_ n10_
                (try clear hb)
                (try clear hb2)
                (try clear hk)
                (try clear hi)
                (try clear ho0)
                refine hK.out _ _ ⟨.slice Ao44 t154.length co44, .slice Ao45 y157.length co45, v161, m0_, (.tuple #[v161, .int .i64 t163]), m7_, m8_, m10_, (by rw [ha.out]; exact putSel_upk 6 hb_ rfl rfl rfl), (by (with_reducible repeat (first | apply Kd.N_alloc | apply Kd.N_drewN | apply Kd.N_drew)); exact Kd.N_mono HO134.out (fun _ hk => by first | trivial | exact ⟨hk.1.1, ⟨hk.1.2.1, ⟨hk.1.2.2.1, ⟨hk.1.2.2.2.1, ⟨hk.1.2.2.2.2.1, ⟨hk.1.2.2.2.2.2.1, ⟨hk.1.2.2.2.2.2.2.1, ⟨hk.2, hk.1.2.2.2.2.2.2.2⟩⟩⟩⟩⟩⟩⟩⟩ | exact hk | exact hk.1 | exact hk.2 | exact ⟨hk.1.1, hk.2⟩ | exact ⟨hk.1.1, hk.1.2⟩ | simp_all)), (by (with_reducible repeat (first | apply Kd.R_alloc | apply Kd.R_drewN | apply Kd.R_drew)); (first | exact HO137.out | exact Kd.N_mono HO137.out (fun _ _ => trivial) | exact Kd.R_mono HO137.out (fun _ _ => trivial))), (by (with_reducible repeat (first | apply Kd.R_alloc | apply Kd.R_drewN | apply Kd.R_drew)); (first | exact HO140.out | exact Kd.N_mono HO140.out (fun _ _ => trivial) | exact Kd.R_mono HO140.out (fun _ _ => trivial))), (by (with_reducible repeat (first | apply Kd.N_alloc | apply Kd.N_drewN | apply Kd.N_drew)); exact Kd.N_mono HO145.out (fun _ hk => by first | trivial | exact ⟨hk.1.1, ⟨hk.1.2.1, ⟨hk.1.2.2.1, ⟨hk.1.2.2.2.1, ⟨hk.1.2.2.2.2.1, ⟨hk.1.2.2.2.2.2.1, ⟨hk.1.2.2.2.2.2.2.1, ⟨hk.2, hk.1.2.2.2.2.2.2.2⟩⟩⟩⟩⟩⟩⟩⟩ | exact hk | exact hk.1 | exact hk.2 | exact ⟨hk.1.1, hk.2⟩ | exact ⟨hk.1.1, hk.1.2⟩ | simp_all)), (by (with_reducible repeat (first | apply Kd.R_alloc | apply Kd.R_drewN | apply Kd.R_drew)); (first | exact HO148.out | exact Kd.N_mono HO148.out (fun _ _ => trivial) | exact Kd.R_mono HO148.out (fun _ _ => trivial))), (by (with_reducible repeat (first | apply Kd.R_alloc | apply Kd.R_drewN | apply Kd.R_drew)); (first | exact HO151.out | exact Kd.N_mono HO151.out (fun _ _ => trivial) | exact Kd.R_mono HO151.out (fun _ _ => trivial))), (by (with_reducible repeat (first | refine blk_drewN ?_ _ | refine blk_drew ?_ | refine blk_alloc ?_ _)); exact BK130.out), (by repeat (first | (with_reducible first | exact HB.out | apply below_alloc | apply pw_below_drewN | apply below_drew1 | refine below_set ?_ GE130.out) | exact HB.out)), fun _ => (by (with_reducible repeat (first | apply Kd.N_alloc | apply Kd.N_drewN | apply Kd.N_drew)); exact Kd.N_mono HO156.out (fun _ hk => by first | trivial | exact ⟨hk.1.1, ⟨hk.1.2.1, ⟨hk.1.2.2.1, ⟨hk.1.2.2.2.1, ⟨hk.1.2.2.2.2.1, ⟨hk.1.2.2.2.2.2.1, ⟨hk.1.2.2.2.2.2.2.1, ⟨hk.2, hk.1.2.2.2.2.2.2.2⟩⟩⟩⟩⟩⟩⟩⟩ | exact hk | exact hk.1 | exact hk.2 | exact ⟨hk.1.1, hk.2⟩ | exact ⟨hk.1.1, hk.1.2⟩ | simp_all)), fun _ => (by (with_reducible repeat (first | apply Kd.R_alloc | apply Kd.R_drewN | apply Kd.R_drew)); (first | exact HO159.out | exact Kd.N_mono HO159.out (fun _ _ => trivial) | exact Kd.R_mono HO159.out (fun _ _ => trivial))), fun _ => (by (with_reducible repeat (first | apply Kd.R_alloc | apply Kd.R_drewN | apply Kd.R_drew)); exact Kd.R_mono HO162.out (fun _ hk => by first | trivial | exact ⟨hk.1.2, hk.2⟩ | exact hk | exact hk.1 | exact hk.2 | exact ⟨hk.1.1, hk.2⟩ | exact ⟨hk.1.1, hk.1.2⟩ | simp_all)), Q_X0_, fun _ => rfl, fun h0_ => absurd ((hoff 7 (by kernel_rfl)).symm.trans h0_) (by decide), fun h0_ => absurd ((hoff 8 (by kernel_rfl)).symm.trans h0_) (by decide), fun h0_ => absurd ((hoff 10 (by kernel_rfl)).symm.trans h0_) (by decide)⟩
              refine steps_cons ?_ ?_
              · rintro b a w' ⟨v155, v158, v161, m0_, m6_, m7_, m8_, m10_, ha, Q_HO134, Q_HO137, Q_HO140, Q_HO145, Q_HO148, Q_HO151, Q_BK130, Q_HB, Q_HO156, Q_HO159, Q_HO162, Q_X0_, Q_X6_, Q_X7_, Q_X8_, Q_X10_⟩ hb_ hon hoff
                refine ⟨_, rfl, fun K hK => ?_⟩
                have e37 : a.tmps[37]? = some (m6_) := by rw [ha]; exact putSel_on (e := (6, 37, m6_)) 6 rfl rfl (hon 6 (by kernel_rfl)) rfl
                rw [Q_X6_ (hon 6 (by kernel_rfl))] at e37
                replace ha := Aside0.mk ha
                have HO134 := Aside0.mk Q_HO134
                have HO137 := Aside0.mk Q_HO137
                have HO140 := Aside0.mk Q_HO140
                have HO145 := Aside0.mk Q_HO145
                have HO148 := Aside0.mk Q_HO148
                have HO151 := Aside0.mk Q_HO151
                have BK130 := Aside0.mk Q_BK130
                have HB := Aside0.mk Q_HB
                have HO156 := Aside0.mk (Q_HO156 (hon 0 (by kernel_rfl)))
                have HO159 := Aside0.mk (Q_HO159 (hon 5 (by kernel_rfl)))
                have HO162 := Aside0.mk (Q_HO162 (hon 6 (by kernel_rfl)))
                refine value_ (w1 := w') (v := .tuple #[v161, .int .i64 t163]) (by rfl) rfl ?_ ?_
                · go_simp
                  (try simp only [i64_w])
                  try rfl
                refine hK.out _ _ ⟨v155, v158, v161, m0_, m6_, (.tuple #[v161, .int .i64 t163]), m8_, m10_, (by rw [ha.out]; exact putSel_upk 7 hb_ rfl rfl rfl), Q_HO134, Q_HO137, Q_HO140, Q_HO145, Q_HO148, Q_HO151, Q_BK130, Q_HB, Q_HO156, Q_HO159, Q_HO162, Q_X0_, Q_X6_, fun _ => rfl, fun h0_ => absurd ((hoff 8 (by kernel_rfl)).symm.trans h0_) (by decide), fun h0_ => absurd ((hoff 10 (by kernel_rfl)).symm.trans h0_) (by decide)⟩
              refine steps_cons ?_ ?_
              · rintro b a w' ⟨v155, v158, v161, m0_, m6_, m7_, m8_, m10_, ha, Q_HO134, Q_HO137, Q_HO140, Q_HO145, Q_HO148, Q_HO151, Q_BK130, Q_HB, Q_HO156, Q_HO159, Q_HO162, Q_X0_, Q_X6_, Q_X7_, Q_X8_, Q_X10_⟩ hb_ hon hoff
                refine ⟨_, rfl, fun K hK => ?_⟩
                have e30 : a.tmps[30]? = some (m7_) := by rw [ha]; exact putSel_on (e := (7, 30, m7_)) 7 rfl rfl (hon 7 (by kernel_rfl)) rfl
                rw [Q_X7_ (hon 7 (by kernel_rfl))] at e30
                replace ha := Aside0.mk ha
                have HO134 := Aside0.mk Q_HO134
                have HO137 := Aside0.mk Q_HO137
                have HO140 := Aside0.mk Q_HO140
                have HO145 := Aside0.mk Q_HO145
                have HO148 := Aside0.mk Q_HO148
                have HO151 := Aside0.mk Q_HO151
                have BK130 := Aside0.mk Q_BK130
                have HB := Aside0.mk Q_HB
                have HO156 := Aside0.mk (Q_HO156 (hon 0 (by kernel_rfl)))
                have HO159 := Aside0.mk (Q_HO159 (hon 5 (by kernel_rfl)))
                have HO162 := Aside0.mk (Q_HO162 (hon 6 (by kernel_rfl)))
                obtain ⟨Ao8_0, co8_0, eo_⟩ := Kd.R_slice HO162.out
                subst eo_
                refine value_ (w1 := w') (v := .slice Ao8_0 t160.length co8_0) (by rfl) rfl ?_ ?_
                · go_simp
                  (try simp only [i64_w])
                  try rfl
                refine hK.out _ _ ⟨v155, v158, .slice Ao8_0 t160.length co8_0, m0_, m6_, m7_, (.slice Ao8_0 t160.length co8_0), m10_, (by rw [ha.out]; exact putSel_upk 8 hb_ rfl rfl rfl), Q_HO134, Q_HO137, Q_HO140, Q_HO145, Q_HO148, Q_HO151, Q_BK130, Q_HB, Q_HO156, Q_HO159, Q_HO162, Q_X0_, Q_X6_, Q_X7_, fun _ => rfl, fun h0_ => absurd ((hoff 10 (by kernel_rfl)).symm.trans h0_) (by decide)⟩
              refine steps_cons ?_ ?_
              · rintro b a w' ⟨v155, v158, v161, m0_, m6_, m7_, m8_, m10_, ha, Q_HO134, Q_HO137, Q_HO140, Q_HO145, Q_HO148, Q_HO151, Q_BK130, Q_HB, Q_HO156, Q_HO159, Q_HO162, Q_X0_, Q_X6_, Q_X7_, Q_X8_, Q_X10_⟩ hb_ hon hoff
                refine ⟨_, rfl, fun K hK => ?_⟩
                have e30 : a.tmps[30]? = some (m7_) := by rw [ha]; exact putSel_on (e := (7, 30, m7_)) 7 rfl rfl (hon 7 (by kernel_rfl)) rfl
                rw [Q_X7_ (hon 7 (by kernel_rfl))] at e30
                replace ha := Aside0.mk ha
                have HO134 := Aside0.mk Q_HO134
                have HO137 := Aside0.mk Q_HO137
                have HO140 := Aside0.mk Q_HO140
                have HO145 := Aside0.mk Q_HO145
                have HO148 := Aside0.mk Q_HO148
                have HO151 := Aside0.mk Q_HO151
                have BK130 := Aside0.mk Q_BK130
                have HB := Aside0.mk Q_HB
                have HO156 := Aside0.mk (Q_HO156 (hon 0 (by kernel_rfl)))
                have HO159 := Aside0.mk (Q_HO159 (hon 5 (by kernel_rfl)))
                have HO162 := Aside0.mk (Q_HO162 (hon 6 (by kernel_rfl)))
                obtain ⟨Ao9_0, co9_0, eo_⟩ := Kd.R_slice HO162.out
                subst eo_
                refine value_ (w1 := w') (v := .int .i64 t163) (by rfl) rfl ?_ ?_
                · go_simp
                  (try simp only [i64_w])
                  try rfl
                refine hK.out _ _ ⟨v155, v158, .slice Ao9_0 t160.length co9_0, m0_, m6_, m7_, m8_, m10_, (by rw [ha.out]; exact putSel_upk 9 hb_ rfl rfl rfl), Q_HO134, Q_HO137, Q_HO140, Q_HO145, Q_HO148, Q_HO151, Q_BK130, Q_HB, Q_HO156, Q_HO159, Q_HO162, Q_X0_, Q_X6_, Q_X7_, Q_X8_, Q_X10_⟩
              refine steps_cons ?_ ?_
              · rintro b a w' ⟨v155, v158, v161, m0_, m6_, m7_, m8_, m10_, ha, Q_HO134, Q_HO137, Q_HO140, Q_HO145, Q_HO148, Q_HO151, Q_BK130, Q_HB, Q_HO156, Q_HO159, Q_HO162, Q_X0_, Q_X6_, Q_X7_, Q_X8_, Q_X10_⟩ hb_ hon hoff
                refine ⟨_, rfl, fun K hK => ?_⟩
                have e38 : a.tmps[38]? = some (m8_) := by rw [ha]; exact putSel_on (e := (8, 38, m8_)) 8 rfl rfl (hon 8 (by kernel_rfl)) rfl
                rw [Q_X8_ (hon 8 (by kernel_rfl))] at e38
                replace ha := Aside0.mk ha
                have HO134 := Aside0.mk Q_HO134
                have HO137 := Aside0.mk Q_HO137
                have HO140 := Aside0.mk Q_HO140
                have HO145 := Aside0.mk Q_HO145
                have HO148 := Aside0.mk Q_HO148
                have HO151 := Aside0.mk Q_HO151
                have BK130 := Aside0.mk Q_BK130
                have HB := Aside0.mk Q_HB
                have HO156 := Aside0.mk (Q_HO156 (hon 0 (by kernel_rfl)))
                have HO159 := Aside0.mk (Q_HO159 (hon 5 (by kernel_rfl)))
                have HO162 := Aside0.mk (Q_HO162 (hon 6 (by kernel_rfl)))
                refine value_ (w1 := w') (v := v161) (by rfl) rfl ?_ ?_
                · go_simp
                  (try simp only [i64_w])
                  try rfl
                refine hK.out _ _ ⟨v155, v158, v161, m0_, m6_, m7_, m8_, (v161), (by rw [ha.out]; exact putSel_upk 10 hb_ rfl rfl rfl), Q_HO134, Q_HO137, Q_HO140, Q_HO145, Q_HO148, Q_HO151, Q_BK130, Q_HB, Q_HO156, Q_HO159, Q_HO162, Q_X0_, Q_X6_, Q_X7_, Q_X8_, fun _ => rfl⟩
              refine steps_cons ?_ ?_
              · rintro b a w' ⟨v155, v158, v161, m0_, m6_, m7_, m8_, m10_, ha, Q_HO134, Q_HO137, Q_HO140, Q_HO145, Q_HO148, Q_HO151, Q_BK130, Q_HB, Q_HO156, Q_HO159, Q_HO162, Q_X0_, Q_X6_, Q_X7_, Q_X8_, Q_X10_⟩ hb_ hon hoff
                refine ⟨_, rfl, fun K hK => ?_⟩
                have e39 : a.tmps[39]? = some (.int .i64 t163) := by rw [ha]; exact putSel_on (e := (9, 39, .int .i64 t163)) 9 rfl rfl (hon 9 (by kernel_rfl)) rfl
                replace ha := Aside0.mk ha
                have HO134 := Aside0.mk Q_HO134
                have HO137 := Aside0.mk Q_HO137
                have HO140 := Aside0.mk Q_HO140
                have HO145 := Aside0.mk Q_HO145
                have HO148 := Aside0.mk Q_HO148
                have HO151 := Aside0.mk Q_HO151
                have BK130 := Aside0.mk Q_BK130
                have HB := Aside0.mk Q_HB
                have HO156 := Aside0.mk (Q_HO156 (hon 0 (by kernel_rfl)))
                have HO159 := Aside0.mk (Q_HO159 (hon 5 (by kernel_rfl)))
                have HO162 := Aside0.mk (Q_HO162 (hon 6 (by kernel_rfl)))
                refine value_ (w1 := w') (v := .int .i64 t163) (by rfl) rfl ?_ ?_
                · go_simp
                  (try simp only [i64_w])
                  try rfl
                refine hK.out _ _ ⟨v155, v158, v161, m0_, m6_, m7_, m8_, m10_, (by rw [ha.out]; exact putSel_upk 11 hb_ rfl rfl rfl), Q_HO134, Q_HO137, Q_HO140, Q_HO145, Q_HO148, Q_HO151, Q_BK130, Q_HB, Q_HO156, Q_HO159, Q_HO162, Q_X0_, Q_X6_, Q_X7_, Q_X8_, Q_X10_⟩
              exact steps_nil
            rintro b a w46 hall ⟨v155, v158, v161, m0_, m6_, m7_, m8_, m10_, ha, Q_HO134, Q_HO137, Q_HO140, Q_HO145, Q_HO148, Q_HO151, Q_BK130, Q_HB, Q_HO156, Q_HO159, Q_HO162, Q_X0_, Q_X6_, Q_X7_, Q_X8_, Q_X10_⟩
            clear BK130 HB HO134 HO137 HO140 HO145 HO148 HO151
            have hb0_ := hall 0 (by kernel_rfl)
            have hb1_ := hall 1 (by kernel_rfl)
            have hb2_ := hall 2 (by kernel_rfl)
            have hb3_ := hall 3 (by kernel_rfl)
            have hb4_ := hall 4 (by kernel_rfl)
            have hb5_ := hall 5 (by kernel_rfl)
            have hb6_ := hall 6 (by kernel_rfl)
            have hb7_ := hall 7 (by kernel_rfl)
            have hb8_ := hall 8 (by kernel_rfl)
            have hb9_ := hall 9 (by kernel_rfl)
            have hb10_ := hall 10 (by kernel_rfl)
            have hb11_ := hall 11 (by kernel_rfl)
            subst ha
            obtain rfl := (Q_X0_ hb0_).symm
            obtain rfl := (Q_X6_ hb6_).symm
            obtain rfl := (Q_X7_ hb7_).symm
            obtain rfl := (Q_X8_ hb8_).symm
            obtain rfl := (Q_X10_ hb10_).symm
            simp only [putSel, hb0_, hb1_, hb2_, hb3_, hb4_, hb5_, hb6_, hb7_, hb8_, hb9_, hb10_, hb11_, if_true, Act.put, List.setIfInBounds_toArray, List.set_cons_zero, List.set_cons_succ]
            have HO134 := Aside0.mk Q_HO134
            clear Q_HO134
            have HO137 := Aside0.mk Q_HO137
            clear Q_HO137
            have HO140 := Aside0.mk Q_HO140
            clear Q_HO140
            have HO145 := Aside0.mk Q_HO145
            clear Q_HO145
            have HO148 := Aside0.mk Q_HO148
            clear Q_HO148
            have HO151 := Aside0.mk Q_HO151
            clear Q_HO151
            have BK130 := Aside0.mk Q_BK130
            clear Q_BK130
            have HB := Aside0.mk Q_HB
            clear Q_HB
            have HO156 := Aside0.mk (Q_HO156 hb0_)
            clear Q_HO156
            have HO159 := Aside0.mk (Q_HO159 hb5_)
            clear Q_HO159
            have HO162 := Aside0.mk (Q_HO162 hb6_)
            clear Q_HO162
            clear hall hb0_ hb1_ hb2_ hb3_ hb4_ hb5_ hb6_ hb7_ hb8_ hb9_ hb10_ hb11_
            try go_wp2_with (first | ((with_reducible refine gate_callee (f := 36) rfl ?_); refine goesL_ (some 41) rfl rfl Try.func36 (by kernel_rfl) rfl #[] rfl (by (try simp only [List.map_toArray, List.map_cons, List.map_nil]); first | done | rfl | (simp only [List.length_drop, List.length_take]; rfl)) ?_; (with_reducible refine (wharfagelaw13_given.calls  t164 t165 _ A7.out).mono ?_); rintro e w47 ⟨v166, rfl, ho0, hb⟩; refine ⟨_, rfl, ?_⟩; have n0_ := Aside0.mk (Kd.N_elder' (by (with_reducible repeat (first | apply Kd.N_alloc | apply Kd.N_drewN | apply Kd.N_drew)); (first | exact HO134.out | exact Kd.N_mono HO134.out (fun _ _ => trivial) | exact Kd.R_mono HO134.out (fun _ _ => trivial))) (Kd.N_base ho0) hb); have n1_ := Aside0.mk (Kd.R_below (by (with_reducible repeat (first | apply Kd.R_alloc | apply Kd.R_drewN | apply Kd.R_drew)); (first | exact HO137.out | exact Kd.N_mono HO137.out (fun _ _ => trivial) | exact Kd.R_mono HO137.out (fun _ _ => trivial))) hb); have n2_ := Aside0.mk (Kd.R_below (by (with_reducible repeat (first | apply Kd.R_alloc | apply Kd.R_drewN | apply Kd.R_drew)); (first | exact HO140.out | exact Kd.N_mono HO140.out (fun _ _ => trivial) | exact Kd.R_mono HO140.out (fun _ _ => trivial))) hb); have n3_ := Aside0.mk (Kd.N_elder' (by (with_reducible repeat (first | apply Kd.N_alloc | apply Kd.N_drewN | apply Kd.N_drew)); (first | exact HO145.out | exact Kd.N_mono HO145.out (fun _ _ => trivial) | exact Kd.R_mono HO145.out (fun _ _ => trivial))) (Kd.N_base ho0) hb); have n4_ := Aside0.mk (Kd.R_below (by (with_reducible repeat (first | apply Kd.R_alloc | apply Kd.R_drewN | apply Kd.R_drew)); (first | exact HO148.out | exact Kd.N_mono HO148.out (fun _ _ => trivial) | exact Kd.R_mono HO148.out (fun _ _ => trivial))) hb); have n5_ := Aside0.mk (Kd.R_below (by (with_reducible repeat (first | apply Kd.R_alloc | apply Kd.R_drewN | apply Kd.R_drew)); (first | exact HO151.out | exact Kd.N_mono HO151.out (fun _ _ => trivial) | exact Kd.R_mono HO151.out (fun _ _ => trivial))) hb); have n6_ := Aside0.mk (Kd.N_elder' (by (with_reducible repeat (first | apply Kd.N_alloc | apply Kd.N_drewN | apply Kd.N_drew)); (first | exact HO156.out | exact Kd.N_mono HO156.out (fun _ _ => trivial) | exact Kd.R_mono HO156.out (fun _ _ => trivial))) (Kd.N_base ho0) hb); have n7_ := Aside0.mk (Kd.R_below (by (with_reducible repeat (first | apply Kd.R_alloc | apply Kd.R_drewN | apply Kd.R_drew)); (first | exact HO159.out | exact Kd.N_mono HO159.out (fun _ _ => trivial) | exact Kd.R_mono HO159.out (fun _ _ => trivial))) hb); have n8_ := Aside0.mk (Kd.R_below (by (with_reducible repeat (first | apply Kd.R_alloc | apply Kd.R_drewN | apply Kd.R_drew)); (first | exact HO162.out | exact Kd.N_mono HO162.out (fun _ _ => trivial) | exact Kd.R_mono HO162.out (fun _ _ => trivial))) hb); have n9_ := Aside0.mk (Kd.N_lower (Kd.N_mono (ok' := fun k_ => some k_ ≠ (v133 : Value).ownBlock ∧ some k_ ≠ (v136 : Value).ownBlock ∧ some k_ ≠ (v139 : Value).ownBlock ∧ some k_ ≠ (v144 : Value).ownBlock ∧ some k_ ≠ (v147 : Value).ownBlock ∧ some k_ ≠ (v150 : Value).ownBlock ∧ some k_ ≠ (v155 : Value).ownBlock ∧ some k_ ≠ (v158 : Value).ownBlock ∧ some k_ ≠ (v161 : Value).ownBlock ∧ k_ ≠ gb130) ho0 (fun k_ hk_ => ⟨(Kd.fresh' (Kd.N_lt (by (with_reducible repeat (first | apply Kd.N_alloc | apply Kd.N_drewN | apply Kd.N_drew)); (first | exact HO134.out | exact Kd.N_mono HO134.out (fun _ _ => trivial) | exact Kd.R_mono HO134.out (fun _ _ => trivial)))) k_ hk_), (Kd.fresh' (Kd.R_lt (by (with_reducible repeat (first | apply Kd.R_alloc | apply Kd.R_drewN | apply Kd.R_drew)); (first | exact HO137.out | exact Kd.N_mono HO137.out (fun _ _ => trivial) | exact Kd.R_mono HO137.out (fun _ _ => trivial)))) k_ hk_), (Kd.fresh' (Kd.R_lt (by (with_reducible repeat (first | apply Kd.R_alloc | apply Kd.R_drewN | apply Kd.R_drew)); (first | exact HO140.out | exact Kd.N_mono HO140.out (fun _ _ => trivial) | exact Kd.R_mono HO140.out (fun _ _ => trivial)))) k_ hk_), (Kd.fresh' (Kd.N_lt (by (with_reducible repeat (first | apply Kd.N_alloc | apply Kd.N_drewN | apply Kd.N_drew)); (first | exact HO145.out | exact Kd.N_mono HO145.out (fun _ _ => trivial) | exact Kd.R_mono HO145.out (fun _ _ => trivial)))) k_ hk_), (Kd.fresh' (Kd.R_lt (by (with_reducible repeat (first | apply Kd.R_alloc | apply Kd.R_drewN | apply Kd.R_drew)); (first | exact HO148.out | exact Kd.N_mono HO148.out (fun _ _ => trivial) | exact Kd.R_mono HO148.out (fun _ _ => trivial)))) k_ hk_), (Kd.fresh' (Kd.R_lt (by (with_reducible repeat (first | apply Kd.R_alloc | apply Kd.R_drewN | apply Kd.R_drew)); (first | exact HO151.out | exact Kd.N_mono HO151.out (fun _ _ => trivial) | exact Kd.R_mono HO151.out (fun _ _ => trivial)))) k_ hk_), (Kd.fresh' (Kd.N_lt (by (with_reducible repeat (first | apply Kd.N_alloc | apply Kd.N_drewN | apply Kd.N_drew)); (first | exact HO156.out | exact Kd.N_mono HO156.out (fun _ _ => trivial) | exact Kd.R_mono HO156.out (fun _ _ => trivial)))) k_ hk_), (Kd.fresh' (Kd.R_lt (by (with_reducible repeat (first | apply Kd.R_alloc | apply Kd.R_drewN | apply Kd.R_drew)); (first | exact HO159.out | exact Kd.N_mono HO159.out (fun _ _ => trivial) | exact Kd.R_mono HO159.out (fun _ _ => trivial)))) k_ hk_), (Kd.fresh' (Kd.R_lt (by (with_reducible repeat (first | apply Kd.R_alloc | apply Kd.R_drewN | apply Kd.R_drew)); (first | exact HO162.out | exact Kd.N_mono HO162.out (fun _ _ => trivial) | exact Kd.R_mono HO162.out (fun _ _ => trivial)))) k_ hk_), (Kd.freshB (g := gb130) (o := .cells #[.bool true, .int .i64 0] 67 (0, 0)) (by (with_reducible repeat (first | refine blk_drewN ?_ _ | refine blk_drew ?_ | refine blk_alloc ?_ _)); exact BK130.out) k_ hk_)⟩)) (below_size (by repeat (first | (with_reducible first | exact HB.out | apply below_alloc | apply pw_below_drewN | apply below_drew1 | refine below_set ?_ GE130.out) | exact HB.out)))); have n10_ := Aside0.mk (blk_below (g := gb130) (o := .cells #[.bool true, .int .i64 0] 67 (0, 0)) (by (with_reducible repeat (first | refine blk_drewN ?_ _ | refine blk_drew ?_ | refine blk_alloc ?_ _)); exact BK130.out) hb); have n11_ := Aside0.mk (below_step (by repeat (first | (with_reducible first | exact HB.out | apply below_alloc | apply pw_below_drewN | apply below_drew1 | refine below_set ?_ GE130.out) | exact HB.out)) hb); clear HO134; clear HO137; clear HO140; clear HO145; clear HO148; clear HO151; clear HO156; clear HO159; clear HO162; clear BK130; clear HB; have HO134 := n0_; have HO137 := n1_; have HO140 := n2_; have HO145 := n3_; have HO148 := n4_; have HO151 := n5_; have HO156 := n6_; have HO159 := n7_; have HO162 := n8_; have HO167 := n9_; have BK130 := n10_; have HB := n11_; clear n0_ n1_ n2_ n3_ n4_ n5_ n6_ n7_ n8_ n9_ n10_ n11_; (try clear hb); (try clear hb2); (try clear hk); (try clear hi); (try clear ho0); obtain ⟨Ao48, co48, eo48⟩ := Kd.N_slice HO167.out; subst eo48) | ((with_reducible refine gate_callee (f := 27) rfl ?_); refine goesL_ (some 42) rfl rfl Try.func27 (by kernel_rfl) rfl #[.agg #[.int .i64 t164, .slice Ao48 t165.length co48], .slice none 0 0] rfl (by (try simp only [List.map_toArray, List.map_cons, List.map_nil]); first | done | rfl | (simp only [List.length_drop, List.length_take]; rfl)) ?_; (refine (cand_Sites.calls k t164 _ _ t165 _ _ ([] : List (S67)) t168 t171 _ ?side1 ?side2 ?side3 ?side4 A8.out).mono ?_); (case side1 => repeat (first | exact (Kd.N_reads' HO167.out).2.2 | (with_reducible refine Kd.C_alloc ?_ _) | (with_reducible refine Kd.C_drewN ?_ _) | (with_reducible refine Kd.C_drew ?_))); (case side2 => exact (Kd.N_reads' HO167.out).2.1); (case side3 => exact Kd.C_nil _ _); (case side4 => exact Nat.le_refl _); rintro e w49 ⟨v169, rfl, ho0, hb⟩; refine ⟨_, rfl, ?_⟩; have n0_ := Aside0.mk (Kd.N_elder' (by (with_reducible repeat (first | apply Kd.N_alloc | apply Kd.N_drewN | apply Kd.N_drew)); (first | exact HO134.out | exact Kd.N_mono HO134.out (fun _ _ => trivial) | exact Kd.R_mono HO134.out (fun _ _ => trivial))) (Kd.R_base ho0) hb); have n1_ := Aside0.mk (Kd.R_below (by (with_reducible repeat (first | apply Kd.R_alloc | apply Kd.R_drewN | apply Kd.R_drew)); (first | exact HO137.out | exact Kd.N_mono HO137.out (fun _ _ => trivial) | exact Kd.R_mono HO137.out (fun _ _ => trivial))) hb); have n2_ := Aside0.mk (Kd.R_elder' (by (with_reducible repeat (first | apply Kd.R_alloc | apply Kd.R_drewN | apply Kd.R_drew)); (first | exact HO140.out | exact Kd.N_mono HO140.out (fun _ _ => trivial) | exact Kd.R_mono HO140.out (fun _ _ => trivial))) (Kd.R_base ho0) hb); have n3_ := Aside0.mk (Kd.N_elder' (by (with_reducible repeat (first | apply Kd.N_alloc | apply Kd.N_drewN | apply Kd.N_drew)); (first | exact HO145.out | exact Kd.N_mono HO145.out (fun _ _ => trivial) | exact Kd.R_mono HO145.out (fun _ _ => trivial))) (Kd.R_base ho0) hb); have n4_ := Aside0.mk (Kd.R_below (by (with_reducible repeat (first | apply Kd.R_alloc | apply Kd.R_drewN | apply Kd.R_drew)); (first | exact HO148.out | exact Kd.N_mono HO148.out (fun _ _ => trivial) | exact Kd.R_mono HO148.out (fun _ _ => trivial))) hb); have n5_ := Aside0.mk (Kd.R_elder' (by (with_reducible repeat (first | apply Kd.R_alloc | apply Kd.R_drewN | apply Kd.R_drew)); (first | exact HO151.out | exact Kd.N_mono HO151.out (fun _ _ => trivial) | exact Kd.R_mono HO151.out (fun _ _ => trivial))) (Kd.R_base ho0) hb); have n6_ := Aside0.mk (Kd.N_elder' (by (with_reducible repeat (first | apply Kd.N_alloc | apply Kd.N_drewN | apply Kd.N_drew)); (first | exact HO156.out | exact Kd.N_mono HO156.out (fun _ _ => trivial) | exact Kd.R_mono HO156.out (fun _ _ => trivial))) (Kd.R_base ho0) hb); have n7_ := Aside0.mk (Kd.R_below (by (with_reducible repeat (first | apply Kd.R_alloc | apply Kd.R_drewN | apply Kd.R_drew)); (first | exact HO159.out | exact Kd.N_mono HO159.out (fun _ _ => trivial) | exact Kd.R_mono HO159.out (fun _ _ => trivial))) hb); have n8_ := Aside0.mk (Kd.R_elder' (by (with_reducible repeat (first | apply Kd.R_alloc | apply Kd.R_drewN | apply Kd.R_drew)); (first | exact HO162.out | exact Kd.N_mono HO162.out (fun _ _ => trivial) | exact Kd.R_mono HO162.out (fun _ _ => trivial))) (Kd.R_base ho0) hb); have n9_ := Aside0.mk (Kd.N_elder' (by (with_reducible repeat (first | apply Kd.N_alloc | apply Kd.N_drewN | apply Kd.N_drew)); (first | exact HO167.out | exact Kd.N_mono HO167.out (fun _ _ => trivial) | exact Kd.R_mono HO167.out (fun _ _ => trivial))) (Kd.R_base ho0) hb); have n10_ := Aside0.mk (Kd.R_lower (Kd.R_new' (Kd.R_new' (Kd.R_new' ho0 (Kd.R_lt (by (with_reducible repeat (first | apply Kd.R_alloc | apply Kd.R_drewN | apply Kd.R_drew)); (first | exact HO140.out | exact Kd.N_mono HO140.out (fun _ _ => trivial) | exact Kd.R_mono HO140.out (fun _ _ => trivial))))) (Kd.R_lt (by (with_reducible repeat (first | apply Kd.R_alloc | apply Kd.R_drewN | apply Kd.R_drew)); (first | exact HO151.out | exact Kd.N_mono HO151.out (fun _ _ => trivial) | exact Kd.R_mono HO151.out (fun _ _ => trivial))))) (Kd.R_lt (by (with_reducible repeat (first | apply Kd.R_alloc | apply Kd.R_drewN | apply Kd.R_drew)); (first | exact HO162.out | exact Kd.N_mono HO162.out (fun _ _ => trivial) | exact Kd.R_mono HO162.out (fun _ _ => trivial))))) (below_size (by repeat (first | (with_reducible first | exact HB.out | apply below_alloc | apply pw_below_drewN | apply below_drew1 | refine below_set ?_ GE130.out) | exact HB.out)))); have n11_ := Aside0.mk (blk_below (g := gb130) (o := .cells #[.bool true, .int .i64 0] 67 (0, 0)) (by (with_reducible repeat (first | refine blk_drewN ?_ _ | refine blk_drew ?_ | refine blk_alloc ?_ _)); exact BK130.out) hb); have n12_ := Aside0.mk (below_step (by repeat (first | (with_reducible first | exact HB.out | apply below_alloc | apply pw_below_drewN | apply below_drew1 | refine below_set ?_ GE130.out) | exact HB.out)) hb); clear HO134; clear HO137; clear HO140; clear HO145; clear HO148; clear HO151; clear HO156; clear HO159; clear HO162; clear HO167; clear BK130; clear HB; have HO134 := n0_; have HO137 := n1_; have HO140 := n2_; have HO145 := n3_; have HO148 := n4_; have HO151 := n5_; have HO156 := n6_; have HO159 := n7_; have HO162 := n8_; have HO167 := n9_; have HO170 := n10_; have BK130 := n11_; have HB := n12_; clear n0_ n1_ n2_ n3_ n4_ n5_ n6_ n7_ n8_ n9_ n10_ n11_ n12_; (try clear hb); (try clear hb2); (try clear hk); (try clear hi); (try clear ho0)) | ((with_reducible refine gate_dst (N := 47) rfl ?_); (try (refine gate_guard (by rfl) ?_; dsimp only)); refine Kd.R_lit k72 _ 72 ?hg (N := 47) ?hd (xs := ([(⟨0, 2⟩ : S72)] : List (S72))) (inner := [.int .i64 0, .int .i64 2]) (ok := fun _ => True) (okp := fun _ => True) ?hr ?hp (fun _ hk => by first | trivial | exact hk | exact hk | exact hk.1 | exact hk.2 | exact ⟨hk.1.1, hk.2⟩ | exact ⟨hk.1.1, hk.1.2⟩ | simp_all) trivial (Below.refl _ _) (Nat.le_refl _) (by simp) ?_; (case hd => rfl); (case hg => rfl); (case hr => first | (go_simp; done) | (go_simp; rfl)); (case hp => exact (Reps.c2 (show Kd.M k72 _ _ _ (⟨0, 2⟩ : S72) [.int .i64 0, .int .i64 2] from (k72_mkM _ _ _ (⟨0, 2⟩ : S72) )) (Reps.none _ _))); intro v173 w50 ho51 hb hg_ hnew_; clear hg_ hnew_; (first | rw [← Ny172.out] at ho51 | (simp only [Int.reduceToNat] at ho51; rw [← Ny172.out] at ho51)); have n0_ := Aside0.mk (Kd.N_elder' (by (with_reducible repeat (first | apply Kd.N_alloc | apply Kd.N_drewN | apply Kd.N_drew)); (first | exact HO134.out | exact Kd.N_mono HO134.out (fun _ _ => trivial) | exact Kd.R_mono HO134.out (fun _ _ => trivial))) (Kd.R_base ho51) hb); have n1_ := Aside0.mk (Kd.R_below (by (with_reducible repeat (first | apply Kd.R_alloc | apply Kd.R_drewN | apply Kd.R_drew)); (first | exact HO137.out | exact Kd.N_mono HO137.out (fun _ _ => trivial) | exact Kd.R_mono HO137.out (fun _ _ => trivial))) hb); have n2_ := Aside0.mk (Kd.R_elder' (by (with_reducible repeat (first | apply Kd.R_alloc | apply Kd.R_drewN | apply Kd.R_drew)); (first | exact HO140.out | exact Kd.N_mono HO140.out (fun _ _ => trivial) | exact Kd.R_mono HO140.out (fun _ _ => trivial))) (Kd.R_base ho51) hb); have n3_ := Aside0.mk (Kd.N_elder' (by (with_reducible repeat (first | apply Kd.N_alloc | apply Kd.N_drewN | apply Kd.N_drew)); (first | exact HO145.out | exact Kd.N_mono HO145.out (fun _ _ => trivial) | exact Kd.R_mono HO145.out (fun _ _ => trivial))) (Kd.R_base ho51) hb); have n4_ := Aside0.mk (Kd.R_below (by (with_reducible repeat (first | apply Kd.R_alloc | apply Kd.R_drewN | apply Kd.R_drew)); (first | exact HO148.out | exact Kd.N_mono HO148.out (fun _ _ => trivial) | exact Kd.R_mono HO148.out (fun _ _ => trivial))) hb); have n5_ := Aside0.mk (Kd.R_elder' (by (with_reducible repeat (first | apply Kd.R_alloc | apply Kd.R_drewN | apply Kd.R_drew)); (first | exact HO151.out | exact Kd.N_mono HO151.out (fun _ _ => trivial) | exact Kd.R_mono HO151.out (fun _ _ => trivial))) (Kd.R_base ho51) hb); have n6_ := Aside0.mk (Kd.N_elder' (by (with_reducible repeat (first | apply Kd.N_alloc | apply Kd.N_drewN | apply Kd.N_drew)); (first | exact HO156.out | exact Kd.N_mono HO156.out (fun _ _ => trivial) | exact Kd.R_mono HO156.out (fun _ _ => trivial))) (Kd.R_base ho51) hb); have n7_ := Aside0.mk (Kd.R_below (by (with_reducible repeat (first | apply Kd.R_alloc | apply Kd.R_drewN | apply Kd.R_drew)); (first | exact HO159.out | exact Kd.N_mono HO159.out (fun _ _ => trivial) | exact Kd.R_mono HO159.out (fun _ _ => trivial))) hb); have n8_ := Aside0.mk (Kd.R_elder' (by (with_reducible repeat (first | apply Kd.R_alloc | apply Kd.R_drewN | apply Kd.R_drew)); (first | exact HO162.out | exact Kd.N_mono HO162.out (fun _ _ => trivial) | exact Kd.R_mono HO162.out (fun _ _ => trivial))) (Kd.R_base ho51) hb); have n9_ := Aside0.mk (Kd.N_elder' (by (with_reducible repeat (first | apply Kd.N_alloc | apply Kd.N_drewN | apply Kd.N_drew)); (first | exact HO167.out | exact Kd.N_mono HO167.out (fun _ _ => trivial) | exact Kd.R_mono HO167.out (fun _ _ => trivial))) (Kd.R_base ho51) hb); have n10_ := Aside0.mk (Kd.R_elder' (by (with_reducible repeat (first | apply Kd.R_alloc | apply Kd.R_drewN | apply Kd.R_drew)); (first | exact HO170.out | exact Kd.N_mono HO170.out (fun _ _ => trivial) | exact Kd.R_mono HO170.out (fun _ _ => trivial))) (Kd.R_base ho51) hb); have n11_ := Aside0.mk (Kd.R_lower (Kd.R_new' (Kd.R_new' (Kd.R_new' (Kd.R_new' ho51 (Kd.R_lt (by (with_reducible repeat (first | apply Kd.R_alloc | apply Kd.R_drewN | apply Kd.R_drew)); (first | exact HO140.out | exact Kd.N_mono HO140.out (fun _ _ => trivial) | exact Kd.R_mono HO140.out (fun _ _ => trivial))))) (Kd.R_lt (by (with_reducible repeat (first | apply Kd.R_alloc | apply Kd.R_drewN | apply Kd.R_drew)); (first | exact HO151.out | exact Kd.N_mono HO151.out (fun _ _ => trivial) | exact Kd.R_mono HO151.out (fun _ _ => trivial))))) (Kd.R_lt (by (with_reducible repeat (first | apply Kd.R_alloc | apply Kd.R_drewN | apply Kd.R_drew)); (first | exact HO162.out | exact Kd.N_mono HO162.out (fun _ _ => trivial) | exact Kd.R_mono HO162.out (fun _ _ => trivial))))) (Kd.R_lt (by (with_reducible repeat (first | apply Kd.R_alloc | apply Kd.R_drewN | apply Kd.R_drew)); (first | exact HO170.out | exact Kd.N_mono HO170.out (fun _ _ => trivial) | exact Kd.R_mono HO170.out (fun _ _ => trivial))))) (below_size (by repeat (first | (with_reducible first | exact HB.out | apply below_alloc | apply pw_below_drewN | apply below_drew1 | refine below_set ?_ GE130.out) | exact HB.out)))); have n12_ := Aside0.mk (blk_below (g := gb130) (o := .cells #[.bool true, .int .i64 0] 67 (0, 0)) (by (with_reducible repeat (first | refine blk_drewN ?_ _ | refine blk_drew ?_ | refine blk_alloc ?_ _)); exact BK130.out) hb); have n13_ := Aside0.mk (below_step (by repeat (first | (with_reducible first | exact HB.out | apply below_alloc | apply pw_below_drewN | apply below_drew1 | refine below_set ?_ GE130.out) | exact HB.out)) hb); clear HO134; clear HO137; clear HO140; clear HO145; clear HO148; clear HO151; clear HO156; clear HO159; clear HO162; clear HO167; clear HO170; clear BK130; clear HB; have HO134 := n0_; have HO137 := n1_; have HO140 := n2_; have HO145 := n3_; have HO148 := n4_; have HO151 := n5_; have HO156 := n6_; have HO159 := n7_; have HO162 := n8_; have HO167 := n9_; have HO170 := n10_; have HO174 := n11_; have BK130 := n12_; have HB := n13_; clear n0_ n1_ n2_ n3_ n4_ n5_ n6_ n7_ n8_ n9_ n10_ n11_ n12_ n13_; clear hb ho51; obtain ⟨Ao52, co52, eo52⟩ := Kd.R_slice HO140.out; subst eo52; obtain ⟨Ao53, co53, eo53⟩ := Kd.R_slice HO174.out; subst eo53) | ((with_reducible refine gate_callee (f := 31) rfl ?_); refine goesL_ (some 48) rfl rfl Try.func31 (by kernel_rfl) rfl #[.slice Ao52 t138.length co52, .slice Ao53 y172.length co53] rfl (by (try simp only [List.map_toArray, List.map_cons, List.map_nil]); first | done | rfl | (simp only [List.length_drop, List.length_take]; rfl)) ?_; (with_reducible refine (wharfagelaw0_SameCandidates.calls k _ _ t138 _ _ y172 true _ ?side1 ?side2 ?side3 ?side4 A9.out).mono ?_); (case side1 => repeat (first | exact (Kd.R_reads' HO140.out).2.2 | (with_reducible refine Kd.C_alloc ?_ _) | (with_reducible refine Kd.C_drewN ?_ _) | (with_reducible refine Kd.C_drew ?_))); (case side2 => exact (Kd.R_reads' HO140.out).2.1); (case side3 => repeat (first | exact (Kd.R_reads' HO174.out).2.2 | (with_reducible refine Kd.C_alloc ?_ _) | (with_reducible refine Kd.C_drewN ?_ _) | (with_reducible refine Kd.C_drew ?_))); (case side4 => exact (Kd.R_reads' HO174.out).2.1); rintro e w' ⟨rfl, ⟨nd, rfl⟩⟩; refine ⟨_, rfl, ?_⟩) | (go_at_call 21; (with_reducible refine (wharfagelaw0_Num.calls t141 t176 _ A11.out).mono ?_); rintro e w' ⟨rfl, ⟨nd, rfl⟩⟩) | ((with_reducible refine gate_dst (N := 58) rfl ?_); (try (refine gate_guard (by rfl) ?_; dsimp only)); refine Kd.R_lit k72 _ 72 ?hg (N := 58) ?hd (xs := ([(⟨0, 1⟩ : S72), (⟨1, 3⟩ : S72)] : List (S72))) (inner := [.int .i64 0, .int .i64 1, .int .i64 1, .int .i64 3]) (ok := fun _ => True) (okp := fun _ => True) ?hr ?hp (fun _ hk => by first | trivial | exact hk | exact hk | exact hk.1 | exact hk.2 | exact ⟨hk.1.1, hk.2⟩ | exact ⟨hk.1.1, hk.1.2⟩ | simp_all) trivial (Below.refl _ _) (Nat.le_refl _) (by simp) ?_; (case hd => rfl); (case hg => rfl); (case hr => first | (go_simp; done) | (go_simp; rfl)); (case hp => exact (Reps.c2 (show Kd.M k72 _ _ _ (⟨0, 1⟩ : S72) [.int .i64 0, .int .i64 1] from (k72_mkM _ _ _ (⟨0, 1⟩ : S72) )) (Reps.c2 (show Kd.M k72 _ _ _ (⟨1, 3⟩ : S72) [.int .i64 1, .int .i64 3] from (k72_mkM _ _ _ (⟨1, 3⟩ : S72) )) (Reps.none _ _)))); intro v178 w54 ho55 hb hg_ hnew_; clear hg_ hnew_; (first | rw [← Ny177.out] at ho55 | (simp only [Int.reduceToNat] at ho55; rw [← Ny177.out] at ho55)); have n0_ := Aside0.mk (Kd.N_elder' (by (with_reducible repeat (first | apply Kd.N_alloc | apply Kd.N_drewN | apply Kd.N_drew)); (first | exact HO134.out | exact Kd.N_mono HO134.out (fun _ _ => trivial) | exact Kd.R_mono HO134.out (fun _ _ => trivial))) (Kd.R_base ho55) hb); have n1_ := Aside0.mk (Kd.R_below (by (with_reducible repeat (first | apply Kd.R_alloc | apply Kd.R_drewN | apply Kd.R_drew)); (first | exact HO137.out | exact Kd.N_mono HO137.out (fun _ _ => trivial) | exact Kd.R_mono HO137.out (fun _ _ => trivial))) hb); have n2_ := Aside0.mk (Kd.R_elder' (by (with_reducible repeat (first | apply Kd.R_alloc | apply Kd.R_drewN | apply Kd.R_drew)); (first | exact HO140.out | exact Kd.N_mono HO140.out (fun _ _ => trivial) | exact Kd.R_mono HO140.out (fun _ _ => trivial))) (Kd.R_base ho55) hb); have n3_ := Aside0.mk (Kd.N_elder' (by (with_reducible repeat (first | apply Kd.N_alloc | apply Kd.N_drewN | apply Kd.N_drew)); (first | exact HO145.out | exact Kd.N_mono HO145.out (fun _ _ => trivial) | exact Kd.R_mono HO145.out (fun _ _ => trivial))) (Kd.R_base ho55) hb); have n4_ := Aside0.mk (Kd.R_below (by (with_reducible repeat (first | apply Kd.R_alloc | apply Kd.R_drewN | apply Kd.R_drew)); (first | exact HO148.out | exact Kd.N_mono HO148.out (fun _ _ => trivial) | exact Kd.R_mono HO148.out (fun _ _ => trivial))) hb); have n5_ := Aside0.mk (Kd.R_elder' (by (with_reducible repeat (first | apply Kd.R_alloc | apply Kd.R_drewN | apply Kd.R_drew)); (first | exact HO151.out | exact Kd.N_mono HO151.out (fun _ _ => trivial) | exact Kd.R_mono HO151.out (fun _ _ => trivial))) (Kd.R_base ho55) hb); have n6_ := Aside0.mk (Kd.N_elder' (by (with_reducible repeat (first | apply Kd.N_alloc | apply Kd.N_drewN | apply Kd.N_drew)); (first | exact HO156.out | exact Kd.N_mono HO156.out (fun _ _ => trivial) | exact Kd.R_mono HO156.out (fun _ _ => trivial))) (Kd.R_base ho55) hb); have n7_ := Aside0.mk (Kd.R_below (by (with_reducible repeat (first | apply Kd.R_alloc | apply Kd.R_drewN | apply Kd.R_drew)); (first | exact HO159.out | exact Kd.N_mono HO159.out (fun _ _ => trivial) | exact Kd.R_mono HO159.out (fun _ _ => trivial))) hb); have n8_ := Aside0.mk (Kd.R_elder' (by (with_reducible repeat (first | apply Kd.R_alloc | apply Kd.R_drewN | apply Kd.R_drew)); (first | exact HO162.out | exact Kd.N_mono HO162.out (fun _ _ => trivial) | exact Kd.R_mono HO162.out (fun _ _ => trivial))) (Kd.R_base ho55) hb); have n9_ := Aside0.mk (Kd.N_elder' (by (with_reducible repeat (first | apply Kd.N_alloc | apply Kd.N_drewN | apply Kd.N_drew)); (first | exact HO167.out | exact Kd.N_mono HO167.out (fun _ _ => trivial) | exact Kd.R_mono HO167.out (fun _ _ => trivial))) (Kd.R_base ho55) hb); have n10_ := Aside0.mk (Kd.R_elder' (by (with_reducible repeat (first | apply Kd.R_alloc | apply Kd.R_drewN | apply Kd.R_drew)); (first | exact HO170.out | exact Kd.N_mono HO170.out (fun _ _ => trivial) | exact Kd.R_mono HO170.out (fun _ _ => trivial))) (Kd.R_base ho55) hb); have n11_ := Aside0.mk (Kd.R_elder' (by (with_reducible repeat (first | apply Kd.R_alloc | apply Kd.R_drewN | apply Kd.R_drew)); (first | exact HO174.out | exact Kd.N_mono HO174.out (fun _ _ => trivial) | exact Kd.R_mono HO174.out (fun _ _ => trivial))) (Kd.R_base ho55) hb); have n12_ := Aside0.mk (Kd.R_lower (Kd.R_new' (Kd.R_new' (Kd.R_new' (Kd.R_new' (Kd.R_new' ho55 (Kd.R_lt (by (with_reducible repeat (first | apply Kd.R_alloc | apply Kd.R_drewN | apply Kd.R_drew)); (first | exact HO140.out | exact Kd.N_mono HO140.out (fun _ _ => trivial) | exact Kd.R_mono HO140.out (fun _ _ => trivial))))) (Kd.R_lt (by (with_reducible repeat (first | apply Kd.R_alloc | apply Kd.R_drewN | apply Kd.R_drew)); (first | exact HO151.out | exact Kd.N_mono HO151.out (fun _ _ => trivial) | exact Kd.R_mono HO151.out (fun _ _ => trivial))))) (Kd.R_lt (by (with_reducible repeat (first | apply Kd.R_alloc | apply Kd.R_drewN | apply Kd.R_drew)); (first | exact HO162.out | exact Kd.N_mono HO162.out (fun _ _ => trivial) | exact Kd.R_mono HO162.out (fun _ _ => trivial))))) (Kd.R_lt (by (with_reducible repeat (first | apply Kd.R_alloc | apply Kd.R_drewN | apply Kd.R_drew)); (first | exact HO170.out | exact Kd.N_mono HO170.out (fun _ _ => trivial) | exact Kd.R_mono HO170.out (fun _ _ => trivial))))) (Kd.R_lt (by (with_reducible repeat (first | apply Kd.R_alloc | apply Kd.R_drewN | apply Kd.R_drew)); (first | exact HO174.out | exact Kd.N_mono HO174.out (fun _ _ => trivial) | exact Kd.R_mono HO174.out (fun _ _ => trivial))))) (below_size (by repeat (first | (with_reducible first | exact HB.out | apply below_alloc | apply pw_below_drewN | apply below_drew1 | refine below_set ?_ GE130.out) | exact HB.out)))); have n13_ := Aside0.mk (blk_below (g := gb130) (o := .cells #[.bool true, .int .i64 0] 67 (0, 0)) (by (with_reducible repeat (first | refine blk_drewN ?_ _ | refine blk_drew ?_ | refine blk_alloc ?_ _)); exact BK130.out) hb); have n14_ := Aside0.mk (below_step (by repeat (first | (with_reducible first | exact HB.out | apply below_alloc | apply pw_below_drewN | apply below_drew1 | refine below_set ?_ GE130.out) | exact HB.out)) hb); clear HO134; clear HO137; clear HO140; clear HO145; clear HO148; clear HO151; clear HO156; clear HO159; clear HO162; clear HO167; clear HO170; clear HO174; clear BK130; clear HB; have HO134 := n0_; have HO137 := n1_; have HO140 := n2_; have HO145 := n3_; have HO148 := n4_; have HO151 := n5_; have HO156 := n6_; have HO159 := n7_; have HO162 := n8_; have HO167 := n9_; have HO170 := n10_; have HO174 := n11_; have HO179 := n12_; have BK130 := n13_; have HB := n14_; clear n0_ n1_ n2_ n3_ n4_ n5_ n6_ n7_ n8_ n9_ n10_ n11_ n12_ n13_ n14_; clear hb ho55; obtain ⟨Ao56, co56, eo56⟩ := Kd.R_slice HO151.out; subst eo56; obtain ⟨Ao57, co57, eo57⟩ := Kd.R_slice HO179.out; subst eo57) | (go_at_call 31; (with_reducible refine (wharfagelaw0_SameCandidates.calls k _ _ t149 _ _ y177 true _ ?side1 ?side2 ?side3 ?side4 A13.out).mono ?_); (case side1 => repeat (first | exact (Kd.R_reads' HO151.out).2.2 | (with_reducible refine Kd.C_alloc ?_ _) | (with_reducible refine Kd.C_drewN ?_ _) | (with_reducible refine Kd.C_drew ?_))); (case side2 => exact (Kd.R_reads' HO151.out).2.1); (case side3 => repeat (first | exact (Kd.R_reads' HO179.out).2.2 | (with_reducible refine Kd.C_alloc ?_ _) | (with_reducible refine Kd.C_drewN ?_ _) | (with_reducible refine Kd.C_drew ?_))); (case side4 => exact (Kd.R_reads' HO179.out).2.1); rintro e w' ⟨rfl, ⟨nd, rfl⟩⟩) | (go_at_call 21; (with_reducible refine (wharfagelaw0_Num.calls t152 t181 _ A15.out).mono ?_); rintro e w' ⟨rfl, ⟨nd, rfl⟩⟩) | (go_at_call 21; (with_reducible refine (wharfagelaw0_Num.calls t163 t182 _ A17.out).mono ?_); rintro e w' ⟨rfl, ⟨nd, rfl⟩⟩) | (go_at_call 21; (with_reducible refine (wharfagelaw0_Num.calls t171 t183 _ A19.out).mono ?_); rintro e w' ⟨rfl, ⟨nd, rfl⟩⟩))
            go_ret
            exact ⟨by first | rfl | (simp [errW_none, errW_some] <;> rfl) | (simp [*, errW_none, errW_some] <;> rfl), by repeat (first | (with_reducible first | exact HB.out | apply below_alloc | apply pw_below_drewN | apply below_drew1 | refine below_set ?_ GE130.out) | exact HB.out)⟩
          · rw [if_neg c18] at H
            exact absurd H (by simp)
        · rw [if_neg c16] at H
          exact absurd H (by simp)
      · replace c14 := Bool.eq_false_iff.mpr c14
        subst c14
        have H1 : (none) = some r := by rw [if_neg (show ¬ (false = true) by decide)] at H; exact H
        clear H
        have H := H1
        clear H1
        exact absurd H (by simp)
    · rw [if_neg c12] at H
      exact absurd H (by simp)
  · replace c10 := Bool.eq_false_iff.mpr c10
    subst c10
    have H1 : (none) = some r := by rw [if_neg (show ¬ (false = true) by decide)] at H; exact H
    clear H
    have H := H1
    clear H1
    exact absurd H (by simp)

end Go.Proofs.Ytnocfhnandedoaa.PCandForms
