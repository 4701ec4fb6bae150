/- Contracts: what calls of these functions of the program do, each as a plain function; written by a program of this session. -/
import Derived.Test.YtnocfhnandedoaaPCandsx0
import Derived.Test.YtnocfhnandedoaaPCandsx4
import Derived.Test.YtnocfhnandedoaaPCandsx13
import Derived.Test.YtnocfhnandedoaaPCandsx19
import Derived.Test.YtnocfhnandedoaaPCandsx22
import Derived.Test.YtnocfhnandedoaaPCandsx27
namespace Go.Proofs.Ytnocfhnandedoaa.PCands
open Go.RowKit Go.Proofs.YtnocfhnandedoaaW.PrintWords Go.Proofs.YtnocfhnandedoaaW.PrintLast Go.Proofs.YtnocfhnandedoaaW.PrintMore
attribute [local go_sem] max2_int min2_int max_two min_two max_three min_three max_four min_four   -- for this text's walks alone
set_option linter.unusedVariables false
set_option linter.unusedSimpArgs false

/-! ### wharfagelaw13_awake: function 35 -/
def wharfagelaw13_awake.f (k : Nat)  : Option (Bool) := (wharfagelaw13_given.f).bind fun bt197 => ((cand_Sites.f k bt197.1 bt197.2 (([(⟨true, 0⟩ : S67), (⟨false, 0⟩ : S67), (⟨true, 0⟩ : S67)] : List (S67)))).bind fun bt204 => ((wharfagelaw13_given.f).bind fun bt208 => ((cand_Backs.f bt208.1 bt208.2 0 (([(⟨true, 0⟩ : S67), (⟨true, 0⟩ : S67), (⟨true, 0⟩ : S67), (⟨true, 0⟩ : S67)] : List (S67)))).bind fun bt215 => ((wharfagelaw13_given.f).bind fun bt219 => ((cand_Backs.f bt219.1 bt219.2 2 (([(⟨true, 0⟩ : S67), (⟨true, 0⟩ : S67), (⟨true, 0⟩ : S67), (⟨true, 0⟩ : S67)] : List (S67)))).bind fun bt226 => ((wharfagelaw13_given.f).bind fun bt230 => ((cand_Sites.f k bt230.1 bt230.2 ([] : List (S67))).bind fun bt234 => ((wharfagelaw0_SameCandidates.f k bt204.1 (([(⟨0, 2⟩ : S72)] : List (S72)))).bind fun t241 => (if t241 = true then ((wharfagelaw0_Num.f bt204.2).bind fun t242 => (if t242 = 0 then ((wharfagelaw0_SameCandidates.f k bt215.1 (([(⟨0, 1⟩ : S72), (⟨1, 3⟩ : S72)] : List (S72)))).bind fun t246 => (if t246 = true then ((wharfagelaw0_Num.f bt215.2).bind fun t247 => (if t247 = 0 then ((wharfagelaw0_Num.f bt226.2).bind fun t248 => (if t248 = 1300 then ((wharfagelaw0_Num.f bt234.2).bind fun t249 => (some (t249 == 1300))) else (none))) else (none))) else (none))) else (none))) else (none))))))))))
theorem wharfagelaw13_awake.mono : ∀ k, LeO (wharfagelaw13_awake.f k ) (wharfagelaw13_awake.f (k + 1) ) := by
  intro  k
  unfold wharfagelaw13_awake.f
  repeat' first
      | (with_reducible exact cand_Sites.mono _ _ _ _)
      | (with_reducible exact wharfagelaw0_SameCandidates.mono _ _ _)
      | (with_reducible exact LeO.refl _)
      | (with_reducible exact LeO.none _)
      | (with_reducible refine LeO.ite ?_ ?_)
      | (with_reducible refine LeO.bind ?_ (fun _ => ?_))
      | exact cand_Sites.mono _ _ _ _
      | exact wharfagelaw0_SameCandidates.mono _ _ _
      | exact LeO.none _
      | refine LeO.ite ?_ ?_
      | refine LeO.bind ?_ (fun _ => ?_)
def wharfagelaw13_awake.T2 : Bool × List (List Nat × List Nat) := (true, [([], []), ([], []), ([], []), ([], []), ([1, 2, 3], [1, 2, 3]), ([0, 4, 0], [0, 4]), ([5], [5]), ([6], [6]), ([6], [6]), ([7, 5, 0, 1, 2, 3, 4, 5, 6, 7], [7]), ([8, 9, 0, 1, 2, 3, 4, 5, 6, 7, 8, 9], [8])])
def wharfagelaw13_awake.B2 : List Nat := [0, 0, 0, 0, 14, 31, 63, 127, 127, 255, 1023]
theorem wharfagelaw13_awake.tab2 : rtab .any (opsOf Try.f35 2) = wharfagelaw13_awake.T2 := by kernel_rfl
theorem wharfagelaw13_awake.bits2 : waitsOk wharfagelaw13_awake.T2.2 wharfagelaw13_awake.B2 = true := by kernel_rfl
def wharfagelaw13_awake.T3 : Bool × List (List Nat × List Nat) := (true, [([], []), ([], []), ([], []), ([], []), ([], []), ([1, 2, 3, 4], [1, 2, 3, 4]), ([0, 5, 0], [0, 5]), ([6], [6]), ([7], [7]), ([7], [7]), ([8, 6, 0, 1, 2, 3, 4, 5, 6, 7, 8], [8]), ([9, 10, 0, 1, 2, 3, 4, 5, 6, 7, 8, 9, 10], [9])])
def wharfagelaw13_awake.B3 : List Nat := [0, 0, 0, 0, 0, 30, 63, 127, 255, 255, 511, 2047]
theorem wharfagelaw13_awake.tab3 : rtab .any (opsOf Try.f35 3) = wharfagelaw13_awake.T3 := by kernel_rfl
theorem wharfagelaw13_awake.bits3 : waitsOk wharfagelaw13_awake.T3.2 wharfagelaw13_awake.B3 = true := by kernel_rfl
def wharfagelaw13_awake.T4 : Bool × List (List Nat × List Nat) := (true, [([], []), ([], []), ([], []), ([], []), ([], []), ([1, 2, 3, 4], [1, 2, 3, 4]), ([0, 5, 0], [0, 5]), ([6], [6]), ([7], [7]), ([7], [7]), ([8, 6, 0, 1, 2, 3, 4, 5, 6, 7, 8], [8]), ([9, 10, 0, 1, 2, 3, 4, 5, 6, 7, 8, 9, 10], [9])])
def wharfagelaw13_awake.B4 : List Nat := [0, 0, 0, 0, 0, 30, 63, 127, 255, 255, 511, 2047]
theorem wharfagelaw13_awake.tab4 : rtab .any (opsOf Try.f35 4) = wharfagelaw13_awake.T4 := by kernel_rfl
theorem wharfagelaw13_awake.bits4 : waitsOk wharfagelaw13_awake.T4.2 wharfagelaw13_awake.B4 = true := by kernel_rfl
set_option maxHeartbeats 8000000 in
set_option maxRecDepth 100000 in
theorem wharfagelaw13_awake.calls (k : Nat)  (r : Bool) (w : World) (h : wharfagelaw13_awake.f k  = some r) :
    Calls Try.prog 35 #[] w fun e w' => e = .returned (.bool r) ∧ Below w.heap.size w w' := by
  have hu67 := Try.underlying67
  have hu72 := Try.underlying72
  have HB := Aside0.mk (Below.refl w.heap.size w)
  have H : ((wharfagelaw13_given.f).bind fun bt197 => ((cand_Sites.f k bt197.1 bt197.2 (([(⟨true, 0⟩ : S67), (⟨false, 0⟩ : S67), (⟨true, 0⟩ : S67)] : List (S67)))).bind fun bt204 => ((wharfagelaw13_given.f).bind fun bt208 => ((cand_Backs.f bt208.1 bt208.2 0 (([(⟨true, 0⟩ : S67), (⟨true, 0⟩ : S67), (⟨true, 0⟩ : S67), (⟨true, 0⟩ : S67)] : List (S67)))).bind fun bt215 => ((wharfagelaw13_given.f).bind fun bt219 => ((cand_Backs.f bt219.1 bt219.2 2 (([(⟨true, 0⟩ : S67), (⟨true, 0⟩ : S67), (⟨true, 0⟩ : S67), (⟨true, 0⟩ : S67)] : List (S67)))).bind fun bt226 => ((wharfagelaw13_given.f).bind fun bt230 => ((cand_Sites.f k bt230.1 bt230.2 ([] : List (S67))).bind fun bt234 => ((wharfagelaw0_SameCandidates.f k bt204.1 (([(⟨0, 2⟩ : S72)] : List (S72)))).bind fun t241 => (if t241 = true then ((wharfagelaw0_Num.f bt204.2).bind fun t242 => (if t242 = 0 then ((wharfagelaw0_SameCandidates.f k bt215.1 (([(⟨0, 1⟩ : S72), (⟨1, 3⟩ : S72)] : List (S72)))).bind fun t246 => (if t246 = true then ((wharfagelaw0_Num.f bt215.2).bind fun t247 => (if t247 = 0 then ((wharfagelaw0_Num.f bt226.2).bind fun t248 => (if t248 = 1300 then ((wharfagelaw0_Num.f bt234.2).bind fun t249 => (some (t249 == 1300))) else (none))) else (none))) else (none))) else (none))) else (none))))))))))) = some r := h
  clear h
  replace H := Option.bind_eq_some_iff.mp H
  obtain ⟨⟨t197, t198⟩, A10, H⟩ := H
  replace H : ((cand_Sites.f k t197 t198 (([(⟨true, 0⟩ : S67), (⟨false, 0⟩ : S67), (⟨true, 0⟩ : S67)] : List (S67)))).bind fun bt204 => ((wharfagelaw13_given.f).bind fun bt208 => ((cand_Backs.f bt208.1 bt208.2 0 (([(⟨true, 0⟩ : S67), (⟨true, 0⟩ : S67), (⟨true, 0⟩ : S67), (⟨true, 0⟩ : S67)] : List (S67)))).bind fun bt215 => ((wharfagelaw13_given.f).bind fun bt219 => ((cand_Backs.f bt219.1 bt219.2 2 (([(⟨true, 0⟩ : S67), (⟨true, 0⟩ : S67), (⟨true, 0⟩ : S67), (⟨true, 0⟩ : S67)] : List (S67)))).bind fun bt226 => ((wharfagelaw13_given.f).bind fun bt230 => ((cand_Sites.f k bt230.1 bt230.2 ([] : List (S67))).bind fun bt234 => ((wharfagelaw0_SameCandidates.f k bt204.1 (([(⟨0, 2⟩ : S72)] : List (S72)))).bind fun t241 => (if t241 = true then ((wharfagelaw0_Num.f bt204.2).bind fun t242 => (if t242 = 0 then ((wharfagelaw0_SameCandidates.f k bt215.1 (([(⟨0, 1⟩ : S72), (⟨1, 3⟩ : S72)] : List (S72)))).bind fun t246 => (if t246 = true then ((wharfagelaw0_Num.f bt215.2).bind fun t247 => (if t247 = 0 then ((wharfagelaw0_Num.f bt226.2).bind fun t248 => (if t248 = 1300 then ((wharfagelaw0_Num.f bt234.2).bind fun t249 => (some (t249 == 1300))) else (none))) else (none))) else (none))) else (none))) else (none)))))))))) = some r := H
  have A1 := Aside0.mk A10
  clear A10
  obtain ⟨y201, hy201⟩ : ∃ y_ : List (S67), y_ = (([(⟨true, 0⟩ : S67), (⟨false, 0⟩ : S67), (⟨true, 0⟩ : S67)] : List (S67))) := ⟨_, rfl⟩
  replace H : ((cand_Sites.f k t197 t198 y201).bind fun bt204 => ((wharfagelaw13_given.f).bind fun bt208 => ((cand_Backs.f bt208.1 bt208.2 0 (([(⟨true, 0⟩ : S67), (⟨true, 0⟩ : S67), (⟨true, 0⟩ : S67), (⟨true, 0⟩ : S67)] : List (S67)))).bind fun bt215 => ((wharfagelaw13_given.f).bind fun bt219 => ((cand_Backs.f bt219.1 bt219.2 2 (([(⟨true, 0⟩ : S67), (⟨true, 0⟩ : S67), (⟨true, 0⟩ : S67), (⟨true, 0⟩ : S67)] : List (S67)))).bind fun bt226 => ((wharfagelaw13_given.f).bind fun bt230 => ((cand_Sites.f k bt230.1 bt230.2 ([] : List (S67))).bind fun bt234 => ((wharfagelaw0_SameCandidates.f k bt204.1 (([(⟨0, 2⟩ : S72)] : List (S72)))).bind fun t241 => (if t241 = true then ((wharfagelaw0_Num.f bt204.2).bind fun t242 => (if t242 = 0 then ((wharfagelaw0_SameCandidates.f k bt215.1 (([(⟨0, 1⟩ : S72), (⟨1, 3⟩ : S72)] : List (S72)))).bind fun t246 => (if t246 = true then ((wharfagelaw0_Num.f bt215.2).bind fun t247 => (if t247 = 0 then ((wharfagelaw0_Num.f bt226.2).bind fun t248 => (if t248 = 1300 then ((wharfagelaw0_Num.f bt234.2).bind fun t249 => (some (t249 == 1300))) else (none))) else (none))) else (none))) else (none))) else (none)))))))))) = some r := by first | (rw [hy201]; with_reducible exact H) | (have H2_ := (Option.bind_some _ _).symm.trans H; rw [hy201]; with_reducible exact H2_) | (have H2_ := (Option.bind_some _ _).symm.trans H; with_reducible exact H2_) | with_reducible exact H | (rw [hy201]; exact H) | exact H
  have Ny201 := Aside0.mk hy201
  clear hy201
  replace H := Option.bind_eq_some_iff.mp H
  obtain ⟨⟨t204, t207⟩, A20, H⟩ := H
  replace H : ((wharfagelaw13_given.f).bind fun bt208 => ((cand_Backs.f bt208.1 bt208.2 0 (([(⟨true, 0⟩ : S67), (⟨true, 0⟩ : S67), (⟨true, 0⟩ : S67), (⟨true, 0⟩ : S67)] : List (S67)))).bind fun bt215 => ((wharfagelaw13_given.f).bind fun bt219 => ((cand_Backs.f bt219.1 bt219.2 2 (([(⟨true, 0⟩ : S67), (⟨true, 0⟩ : S67), (⟨true, 0⟩ : S67), (⟨true, 0⟩ : S67)] : List (S67)))).bind fun bt226 => ((wharfagelaw13_given.f).bind fun bt230 => ((cand_Sites.f k bt230.1 bt230.2 ([] : List (S67))).bind fun bt234 => ((wharfagelaw0_SameCandidates.f k t204 (([(⟨0, 2⟩ : S72)] : List (S72)))).bind fun t241 => (if t241 = true then ((wharfagelaw0_Num.f t207).bind fun t242 => (if t242 = 0 then ((wharfagelaw0_SameCandidates.f k bt215.1 (([(⟨0, 1⟩ : S72), (⟨1, 3⟩ : S72)] : List (S72)))).bind fun t246 => (if t246 = true then ((wharfagelaw0_Num.f bt215.2).bind fun t247 => (if t247 = 0 then ((wharfagelaw0_Num.f bt226.2).bind fun t248 => (if t248 = 1300 then ((wharfagelaw0_Num.f bt234.2).bind fun t249 => (some (t249 == 1300))) else (none))) else (none))) else (none))) else (none))) else (none))))))))) = some r := H
  have A2 := Aside0.mk A20
  clear A20
  replace H := Option.bind_eq_some_iff.mp H
  obtain ⟨⟨t208, t209⟩, A30, H⟩ := H
  replace H : ((cand_Backs.f t208 t209 0 (([(⟨true, 0⟩ : S67), (⟨true, 0⟩ : S67), (⟨true, 0⟩ : S67), (⟨true, 0⟩ : S67)] : List (S67)))).bind fun bt215 => ((wharfagelaw13_given.f).bind fun bt219 => ((cand_Backs.f bt219.1 bt219.2 2 (([(⟨true, 0⟩ : S67), (⟨true, 0⟩ : S67), (⟨true, 0⟩ : S67), (⟨true, 0⟩ : S67)] : List (S67)))).bind fun bt226 => ((wharfagelaw13_given.f).bind fun bt230 => ((cand_Sites.f k bt230.1 bt230.2 ([] : List (S67))).bind fun bt234 => ((wharfagelaw0_SameCandidates.f k t204 (([(⟨0, 2⟩ : S72)] : List (S72)))).bind fun t241 => (if t241 = true then ((wharfagelaw0_Num.f t207).bind fun t242 => (if t242 = 0 then ((wharfagelaw0_SameCandidates.f k bt215.1 (([(⟨0, 1⟩ : S72), (⟨1, 3⟩ : S72)] : List (S72)))).bind fun t246 => (if t246 = true then ((wharfagelaw0_Num.f bt215.2).bind fun t247 => (if t247 = 0 then ((wharfagelaw0_Num.f bt226.2).bind fun t248 => (if t248 = 1300 then ((wharfagelaw0_Num.f bt234.2).bind fun t249 => (some (t249 == 1300))) else (none))) else (none))) else (none))) else (none))) else (none)))))))) = some r := H
  have A3 := Aside0.mk A30
  clear A30
  obtain ⟨y212, hy212⟩ : ∃ y_ : List (S67), y_ = (([(⟨true, 0⟩ : S67), (⟨true, 0⟩ : S67), (⟨true, 0⟩ : S67), (⟨true, 0⟩ : S67)] : List (S67))) := ⟨_, rfl⟩
  replace H : ((cand_Backs.f t208 t209 0 y212).bind fun bt215 => ((wharfagelaw13_given.f).bind fun bt219 => ((cand_Backs.f bt219.1 bt219.2 2 (([(⟨true, 0⟩ : S67), (⟨true, 0⟩ : S67), (⟨true, 0⟩ : S67), (⟨true, 0⟩ : S67)] : List (S67)))).bind fun bt226 => ((wharfagelaw13_given.f).bind fun bt230 => ((cand_Sites.f k bt230.1 bt230.2 ([] : List (S67))).bind fun bt234 => ((wharfagelaw0_SameCandidates.f k t204 (([(⟨0, 2⟩ : S72)] : List (S72)))).bind fun t241 => (if t241 = true then ((wharfagelaw0_Num.f t207).bind fun t242 => (if t242 = 0 then ((wharfagelaw0_SameCandidates.f k bt215.1 (([(⟨0, 1⟩ : S72), (⟨1, 3⟩ : S72)] : List (S72)))).bind fun t246 => (if t246 = true then ((wharfagelaw0_Num.f bt215.2).bind fun t247 => (if t247 = 0 then ((wharfagelaw0_Num.f bt226.2).bind fun t248 => (if t248 = 1300 then ((wharfagelaw0_Num.f bt234.2).bind fun t249 => (some (t249 == 1300))) else (none))) else (none))) else (none))) else (none))) else (none)))))))) = some r := by first | (rw [hy212]; with_reducible exact H) | (have H2_ := (Option.bind_some _ _).symm.trans H; rw [hy212]; with_reducible exact H2_) | (have H2_ := (Option.bind_some _ _).symm.trans H; with_reducible exact H2_) | with_reducible exact H | (rw [hy212]; exact H) | exact H
  have Ny212 := Aside0.mk hy212
  clear hy212
  replace H := Option.bind_eq_some_iff.mp H
  obtain ⟨⟨t215, t218⟩, A40, H⟩ := H
  replace H : ((wharfagelaw13_given.f).bind fun bt219 => ((cand_Backs.f bt219.1 bt219.2 2 (([(⟨true, 0⟩ : S67), (⟨true, 0⟩ : S67), (⟨true, 0⟩ : S67), (⟨true, 0⟩ : S67)] : List (S67)))).bind fun bt226 => ((wharfagelaw13_given.f).bind fun bt230 => ((cand_Sites.f k bt230.1 bt230.2 ([] : List (S67))).bind fun bt234 => ((wharfagelaw0_SameCandidates.f k t204 (([(⟨0, 2⟩ : S72)] : List (S72)))).bind fun t241 => (if t241 = true then ((wharfagelaw0_Num.f t207).bind fun t242 => (if t242 = 0 then ((wharfagelaw0_SameCandidates.f k t215 (([(⟨0, 1⟩ : S72), (⟨1, 3⟩ : S72)] : List (S72)))).bind fun t246 => (if t246 = true then ((wharfagelaw0_Num.f t218).bind fun t247 => (if t247 = 0 then ((wharfagelaw0_Num.f bt226.2).bind fun t248 => (if t248 = 1300 then ((wharfagelaw0_Num.f bt234.2).bind fun t249 => (some (t249 == 1300))) else (none))) else (none))) else (none))) else (none))) else (none))))))) = some r := H
  have A4 := Aside0.mk A40
  clear A40
  replace H := Option.bind_eq_some_iff.mp H
  obtain ⟨⟨t219, t220⟩, A50, H⟩ := H
  replace H : ((cand_Backs.f t219 t220 2 (([(⟨true, 0⟩ : S67), (⟨true, 0⟩ : S67), (⟨true, 0⟩ : S67), (⟨true, 0⟩ : S67)] : List (S67)))).bind fun bt226 => ((wharfagelaw13_given.f).bind fun bt230 => ((cand_Sites.f k bt230.1 bt230.2 ([] : List (S67))).bind fun bt234 => ((wharfagelaw0_SameCandidates.f k t204 (([(⟨0, 2⟩ : S72)] : List (S72)))).bind fun t241 => (if t241 = true then ((wharfagelaw0_Num.f t207).bind fun t242 => (if t242 = 0 then ((wharfagelaw0_SameCandidates.f k t215 (([(⟨0, 1⟩ : S72), (⟨1, 3⟩ : S72)] : List (S72)))).bind fun t246 => (if t246 = true then ((wharfagelaw0_Num.f t218).bind fun t247 => (if t247 = 0 then ((wharfagelaw0_Num.f bt226.2).bind fun t248 => (if t248 = 1300 then ((wharfagelaw0_Num.f bt234.2).bind fun t249 => (some (t249 == 1300))) else (none))) else (none))) else (none))) else (none))) else (none)))))) = some r := H
  have A5 := Aside0.mk A50
  clear A50
  obtain ⟨y223, hy223⟩ : ∃ y_ : List (S67), y_ = (([(⟨true, 0⟩ : S67), (⟨true, 0⟩ : S67), (⟨true, 0⟩ : S67), (⟨true, 0⟩ : S67)] : List (S67))) := ⟨_, rfl⟩
  replace H : ((cand_Backs.f t219 t220 2 y223).bind fun bt226 => ((wharfagelaw13_given.f).bind fun bt230 => ((cand_Sites.f k bt230.1 bt230.2 ([] : List (S67))).bind fun bt234 => ((wharfagelaw0_SameCandidates.f k t204 (([(⟨0, 2⟩ : S72)] : List (S72)))).bind fun t241 => (if t241 = true then ((wharfagelaw0_Num.f t207).bind fun t242 => (if t242 = 0 then ((wharfagelaw0_SameCandidates.f k t215 (([(⟨0, 1⟩ : S72), (⟨1, 3⟩ : S72)] : List (S72)))).bind fun t246 => (if t246 = true then ((wharfagelaw0_Num.f t218).bind fun t247 => (if t247 = 0 then ((wharfagelaw0_Num.f bt226.2).bind fun t248 => (if t248 = 1300 then ((wharfagelaw0_Num.f bt234.2).bind fun t249 => (some (t249 == 1300))) else (none))) else (none))) else (none))) else (none))) else (none)))))) = some r := by first | (rw [hy223]; with_reducible exact H) | (have H2_ := (Option.bind_some _ _).symm.trans H; rw [hy223]; with_reducible exact H2_) | (have H2_ := (Option.bind_some _ _).symm.trans H; with_reducible exact H2_) | with_reducible exact H | (rw [hy223]; exact H) | exact H
  have Ny223 := Aside0.mk hy223
  clear hy223
  replace H := Option.bind_eq_some_iff.mp H
  obtain ⟨⟨t226, t229⟩, A60, H⟩ := H
  replace H : ((wharfagelaw13_given.f).bind fun bt230 => ((cand_Sites.f k bt230.1 bt230.2 ([] : List (S67))).bind fun bt234 => ((wharfagelaw0_SameCandidates.f k t204 (([(⟨0, 2⟩ : S72)] : List (S72)))).bind fun t241 => (if t241 = true then ((wharfagelaw0_Num.f t207).bind fun t242 => (if t242 = 0 then ((wharfagelaw0_SameCandidates.f k t215 (([(⟨0, 1⟩ : S72), (⟨1, 3⟩ : S72)] : List (S72)))).bind fun t246 => (if t246 = true then ((wharfagelaw0_Num.f t218).bind fun t247 => (if t247 = 0 then ((wharfagelaw0_Num.f t229).bind fun t248 => (if t248 = 1300 then ((wharfagelaw0_Num.f bt234.2).bind fun t249 => (some (t249 == 1300))) else (none))) else (none))) else (none))) else (none))) else (none))))) = some r := H
  have A6 := Aside0.mk A60
  clear A60
  replace H := Option.bind_eq_some_iff.mp H
  obtain ⟨⟨t230, t231⟩, A70, H⟩ := H
  replace H : ((cand_Sites.f k t230 t231 ([] : List (S67))).bind fun bt234 => ((wharfagelaw0_SameCandidates.f k t204 (([(⟨0, 2⟩ : S72)] : List (S72)))).bind fun t241 => (if t241 = true then ((wharfagelaw0_Num.f t207).bind fun t242 => (if t242 = 0 then ((wharfagelaw0_SameCandidates.f k t215 (([(⟨0, 1⟩ : S72), (⟨1, 3⟩ : S72)] : List (S72)))).bind fun t246 => (if t246 = true then ((wharfagelaw0_Num.f t218).bind fun t247 => (if t247 = 0 then ((wharfagelaw0_Num.f t229).bind fun t248 => (if t248 = 1300 then ((wharfagelaw0_Num.f bt234.2).bind fun t249 => (some (t249 == 1300))) else (none))) else (none))) else (none))) else (none))) else (none)))) = some r := H
  have A7 := Aside0.mk A70
  clear A70
  replace H := Option.bind_eq_some_iff.mp H
  obtain ⟨⟨t234, t237⟩, A80, H⟩ := H
  replace H : ((wharfagelaw0_SameCandidates.f k t204 (([(⟨0, 2⟩ : S72)] : List (S72)))).bind fun t241 => (if t241 = true then ((wharfagelaw0_Num.f t207).bind fun t242 => (if t242 = 0 then ((wharfagelaw0_SameCandidates.f k t215 (([(⟨0, 1⟩ : S72), (⟨1, 3⟩ : S72)] : List (S72)))).bind fun t246 => (if t246 = true then ((wharfagelaw0_Num.f t218).bind fun t247 => (if t247 = 0 then ((wharfagelaw0_Num.f t229).bind fun t248 => (if t248 = 1300 then ((wharfagelaw0_Num.f t237).bind fun t249 => (some (t249 == 1300))) else (none))) else (none))) else (none))) else (none))) else (none))) = some r := H
  have A8 := Aside0.mk A80
  clear A80
  obtain ⟨y238, hy238⟩ : ∃ y_ : List (S72), y_ = (([(⟨0, 2⟩ : S72)] : List (S72))) := ⟨_, rfl⟩
  replace H : ((wharfagelaw0_SameCandidates.f k t204 y238).bind fun t241 => (if t241 = true then ((wharfagelaw0_Num.f t207).bind fun t242 => (if t242 = 0 then ((wharfagelaw0_SameCandidates.f k t215 (([(⟨0, 1⟩ : S72), (⟨1, 3⟩ : S72)] : List (S72)))).bind fun t246 => (if t246 = true then ((wharfagelaw0_Num.f t218).bind fun t247 => (if t247 = 0 then ((wharfagelaw0_Num.f t229).bind fun t248 => (if t248 = 1300 then ((wharfagelaw0_Num.f t237).bind fun t249 => (some (t249 == 1300))) else (none))) else (none))) else (none))) else (none))) else (none))) = some r := by first | (rw [hy238]; with_reducible exact H) | (have H2_ := (Option.bind_some _ _).symm.trans H; rw [hy238]; with_reducible exact H2_) | (have H2_ := (Option.bind_some _ _).symm.trans H; with_reducible exact H2_) | with_reducible exact H | (rw [hy238]; exact H) | exact H
  have Ny238 := Aside0.mk hy238
  clear hy238
  replace H := Option.bind_eq_some_iff.mp H
  obtain ⟨t241, A90, H⟩ := H
  replace H : (if t241 = true then ((wharfagelaw0_Num.f t207).bind fun t242 => (if t242 = 0 then ((wharfagelaw0_SameCandidates.f k t215 (([(⟨0, 1⟩ : S72), (⟨1, 3⟩ : S72)] : List (S72)))).bind fun t246 => (if t246 = true then ((wharfagelaw0_Num.f t218).bind fun t247 => (if t247 = 0 then ((wharfagelaw0_Num.f t229).bind fun t248 => (if t248 = 1300 then ((wharfagelaw0_Num.f t237).bind fun t249 => (some (t249 == 1300))) else (none))) else (none))) else (none))) else (none))) else (none)) = some r := H
  have A9 := Aside0.mk A90
  clear A90
  by_cases c10 : t241 = true
  · subst c10
    have H1 : ((wharfagelaw0_Num.f t207).bind fun t242 => (if t242 = 0 then ((wharfagelaw0_SameCandidates.f k t215 (([(⟨0, 1⟩ : S72), (⟨1, 3⟩ : S72)] : List (S72)))).bind fun t246 => (if t246 = true then ((wharfagelaw0_Num.f t218).bind fun t247 => (if t247 = 0 then ((wharfagelaw0_Num.f t229).bind fun t248 => (if t248 = 1300 then ((wharfagelaw0_Num.f t237).bind fun t249 => (some (t249 == 1300))) else (none))) else (none))) else (none))) else (none))) = some r := by rw [if_pos rfl] at H; exact H
    clear H
    have H := H1
    clear H1
    replace H := Option.bind_eq_some_iff.mp H
    obtain ⟨t242, A110, H⟩ := H
    replace H : (if t242 = 0 then ((wharfagelaw0_SameCandidates.f k t215 (([(⟨0, 1⟩ : S72), (⟨1, 3⟩ : S72)] : List (S72)))).bind fun t246 => (if t246 = true then ((wharfagelaw0_Num.f t218).bind fun t247 => (if t247 = 0 then ((wharfagelaw0_Num.f t229).bind fun t248 => (if t248 = 1300 then ((wharfagelaw0_Num.f t237).bind fun t249 => (some (t249 == 1300))) else (none))) else (none))) else (none))) else (none)) = some r := H
    have A11 := Aside0.mk A110
    clear A110
    by_cases c12 : t242 = 0
    · rw [if_pos c12] at H
      have c12b0 : (t242 == 0) = true := beq_iff_eq.mpr c12
      have c12b1 : (t242 != 0) = false := bne_eq_false_iff_eq.mpr c12
      clear c12
      obtain ⟨y243, hy243⟩ : ∃ y_ : List (S72), y_ = (([(⟨0, 1⟩ : S72), (⟨1, 3⟩ : S72)] : List (S72))) := ⟨_, rfl⟩
      replace H : ((wharfagelaw0_SameCandidates.f k t215 y243).bind fun t246 => (if t246 = true then ((wharfagelaw0_Num.f t218).bind fun t247 => (if t247 = 0 then ((wharfagelaw0_Num.f t229).bind fun t248 => (if t248 = 1300 then ((wharfagelaw0_Num.f t237).bind fun t249 => (some (t249 == 1300))) else (none))) else (none))) else (none))) = some r := by first | (rw [hy243]; with_reducible exact H) | (have H2_ := (Option.bind_some _ _).symm.trans H; rw [hy243]; with_reducible exact H2_) | (have H2_ := (Option.bind_some _ _).symm.trans H; with_reducible exact H2_) | with_reducible exact H | (rw [hy243]; exact H) | exact H
      have Ny243 := Aside0.mk hy243
      clear hy243
      replace H := Option.bind_eq_some_iff.mp H
      obtain ⟨t246, A130, H⟩ := H
      replace H : (if t246 = true then ((wharfagelaw0_Num.f t218).bind fun t247 => (if t247 = 0 then ((wharfagelaw0_Num.f t229).bind fun t248 => (if t248 = 1300 then ((wharfagelaw0_Num.f t237).bind fun t249 => (some (t249 == 1300))) else (none))) else (none))) else (none)) = some r := H
      have A13 := Aside0.mk A130
      clear A130
      by_cases c14 : t246 = true
      · subst c14
        have H1 : ((wharfagelaw0_Num.f t218).bind fun t247 => (if t247 = 0 then ((wharfagelaw0_Num.f t229).bind fun t248 => (if t248 = 1300 then ((wharfagelaw0_Num.f t237).bind fun t249 => (some (t249 == 1300))) else (none))) else (none))) = some r := by rw [if_pos rfl] at H; exact H
        clear H
        have H := H1
        clear H1
        replace H := Option.bind_eq_some_iff.mp H
        obtain ⟨t247, A150, H⟩ := H
        replace H : (if t247 = 0 then ((wharfagelaw0_Num.f t229).bind fun t248 => (if t248 = 1300 then ((wharfagelaw0_Num.f t237).bind fun t249 => (some (t249 == 1300))) else (none))) else (none)) = some r := H
        have A15 := Aside0.mk A150
        clear A150
        by_cases c16 : t247 = 0
        · rw [if_pos c16] at H
          have c16b0 : (t247 == 0) = true := beq_iff_eq.mpr c16
          have c16b1 : (t247 != 0) = false := bne_eq_false_iff_eq.mpr c16
          clear c16
          replace H := Option.bind_eq_some_iff.mp H
          obtain ⟨t248, A170, H⟩ := H
          replace H : (if t248 = 1300 then ((wharfagelaw0_Num.f t237).bind fun t249 => (some (t249 == 1300))) else (none)) = some r := H
          have A17 := Aside0.mk A170
          clear A170
          by_cases c18 : t248 = 1300
          · rw [if_pos c18] at H
            have c18b0 : (t248 == 1300) = true := beq_iff_eq.mpr c18
            have c18b1 : (t248 != 1300) = false := bne_eq_false_iff_eq.mpr c18
            clear c18
            replace H := Option.bind_eq_some_iff.mp H
            obtain ⟨t249, A190, H⟩ := H
            replace H : (some (t249 == 1300)) = some r := H
            have A19 := Aside0.mk A190
            clear A190
            obtain rfl := Option.some.inj H
            go_enter Try.func35, Try.ntmps35
            try go_wp2_with (first | ((with_reducible refine gate_dst (N := 1) rfl ?_); (try (refine gate_guard (by rfl) ?_; dsimp only)); refine box_event ?hg (N := 1) ?hd (cs := #[.bool false, .int .i64 0]) (t := 67) ?hr ?_; (case hd => rfl); (case hg => rfl); (case hr => first | (go_simp; done) | (go_simp; rfl)); intro gb196 hg w20 hbox hb; have n0_ := Aside0.mk (below_step (by repeat (first | (with_reducible first | exact HB.out | apply below_alloc | apply pw_below_drewN | apply below_drew1) | exact HB.out)) hb); have n1_ := Aside0.mk (hbox); have n2_ := Aside0.mk ((by rw [hg]; exact (below_size (by repeat (first | (with_reducible first | exact HB.out | apply below_alloc | apply pw_below_drewN | apply below_drew1) | exact HB.out))) : w.heap.size ≤ gb196)); have n3_ := Aside0.mk ((by rw [hg]; exact (below_size (by repeat (first | (with_reducible first | exact HB.out | apply below_alloc | apply pw_below_drewN | apply below_drew1) | exact HB.out))) : w.heap.size ≤ gb196)); clear HB; have HB := n0_; have BK196 := n1_; have GW196 := n2_; have GE196 := n3_; clear n0_ n1_ n2_ n3_; clear hb hbox hg; have hcz21_0 : w20.cell? ⟨gb196, 0, none⟩ = some (.bool false) := (blk_cell BK196.out 0).trans rfl; have hcz21_1 : w20.cell? ⟨gb196, 1, none⟩ = some (.int .i64 0) := (blk_cell BK196.out 1).trans rfl; have hfz21_0 := blk_frozen BK196.out 0; have hfz21_1 := blk_frozen BK196.out 1))
            have n0_ : Aside0 (((w20.setCell ⟨gb196, 0, none⟩ (.bool true)).setCell ⟨gb196, 1, none⟩ (.int .i64 0)).heap[gb196]? = some (.cells #[.bool true, .int .i64 0] 67 (0, 0))) := ⟨by (with_reducible repeat (first | refine blk_drewN ?_ _ | refine blk_drew ?_ | refine blk_alloc ?_ _)); refine blk_put (cs := #[.bool true, .int .i64 0]) ?_ 1 _ rfl; (with_reducible repeat (first | refine blk_drewN ?_ _ | refine blk_drew ?_ | refine blk_alloc ?_ _)); refine blk_put (cs := #[.bool false, .int .i64 0]) ?_ 0 _ rfl; (with_reducible repeat (first | refine blk_drewN ?_ _ | refine blk_drew ?_ | refine blk_alloc ?_ _)); exact BK196.out⟩
            have n1_ : Aside0 (Below w.heap.size w ((w20.setCell ⟨gb196, 0, none⟩ (.bool true)).setCell ⟨gb196, 1, none⟩ (.int .i64 0))) := ⟨by repeat (first | (with_reducible first | exact HB.out | apply below_alloc | apply pw_below_drewN | apply below_drew1 | refine below_set ?_ GE196.out) | exact HB.out)⟩
            (try clear BK196)
            (try clear HB)
            generalize ((w20.setCell ⟨gb196, 0, none⟩ (.bool true)).setCell ⟨gb196, 1, none⟩ (.int .i64 0)) = w22 at n0_ n1_ ⊢
            have BK196 := n0_
            have HB := n1_
            clear n0_ n1_
            have n0_ := Aside0.mk (blk_drew BK196.out)
            have n1_ := Aside0.mk (below_drew1 HB.out)
            clear BK196
            clear HB
            have BK196 := n0_
            have HB := n1_
            clear n0_ n1_
            refine start_ (n := 11) (S := fun w' => True) (ds := []) #[false, false, false, false, false, false, false, false, false, false, false] (by kernel_rfl) rfl rfl trivial (fun hHeld => ?_); refine with_tabW wharfagelaw13_awake.tab2 wharfagelaw13_awake.bits2 (fun HT_ HW_ => ?_)
            generalize w22.drew = w23 at BK196 HB hHeld ⊢
            refine inv_at [0, 1, 2, 3, 4, 5, 6, 7, 8, 9, 10] (fun a0_ b a w' => ∃ (v199 : Value) (v202 : Value) (v205 : Value) (m0_ : Value) (m5_ : Value) (m6_ : Value) (m7_ : Value) (m9_ : Value), a = putSel a0_ b [(0, 12, m0_), (1, 13, .agg #[.bool true, .int .i64 0]), (2, 14, .agg #[.bool false, .int .i64 0]), (3, 15, .agg #[.bool true, .int .i64 0]), (4, 16, v202), (5, 17, m5_), (6, 11, m6_), (7, 18, m7_), (8, 19, .int .i64 t207), (9, 2, m9_), (10, 3, .int .i64 t207)] ∧ (w'.heap[gb196]? = some (.cells #[.bool true, .int .i64 0] 67 (0, 0))) ∧ (Below w.heap.size w w') ∧ (b 0 = true → Kd.N k70 70 w' w.heap.size (fun _ => True) v199 t198) ∧ (b 4 = true → Kd.R k67 67 w' w.heap.size (fun _ => True) v202 y201) ∧ (b 5 = true → Kd.R k72 72 w' w.heap.size (fun _ => True) v205 t204) ∧ (b 0 = true → (m0_ : Value) = .agg #[.int .i64 t197, v199]) ∧ (b 5 = true → (m5_ : Value) = .tuple #[v205, .int .i64 t207]) ∧ (b 6 = true → (m6_ : Value) = .tuple #[v205, .int .i64 t207]) ∧ (b 7 = true → (m7_ : Value) = v205) ∧ (b 9 = true → (m9_ : Value) = v205)) HT_.out HW_.out (by kernel_rfl) (by kernel_rfl) ?_ ?_ ?_
            · exact ⟨.bool false, .bool false, .bool false, .bool false, .bool false, .bool false, .bool false, .bool false, by simp only [putSel, Bool.false_eq_true, if_false], BK196.out, HB.out, fun h_ => absurd h_ (by decide), fun h_ => absurd h_ (by decide), fun h_ => absurd h_ (by decide), fun h_ => absurd h_ (by decide), fun h_ => absurd h_ (by decide), fun h_ => absurd h_ (by decide), fun h_ => absurd h_ (by decide), fun h_ => absurd h_ (by decide)⟩
            · skip
              clear BK196 HB
              refine steps_cons ?_ ?_
              · rintro b a w' ⟨v199, v202, v205, m0_, m5_, m6_, m7_, m9_, ha, Q_BK196, Q_HB, Q_HO200, Q_HO203, Q_HO206, Q_X0_, Q_X5_, Q_X6_, Q_X7_, Q_X9_⟩ hb_ hon hoff
                refine ⟨_, rfl, fun K hK => ?_⟩
                replace ha := Aside0.mk ha
                have BK196 := Aside0.mk Q_BK196
                have HB := Aside0.mk Q_HB
                refine goes_ Try.func36 (by kernel_rfl) rfl #[] (by rfl) rfl rfl (by first | (simp only [List.map_toArray, List.map_cons, List.map_nil, Act.eval, Array.getD_eq_getD_getElem?, Option.getD_some]; done) | (simp only [List.map_toArray, List.map_cons, List.map_nil, Act.eval, Array.getD_eq_getD_getElem?, Option.getD_some]; rfl)) ?_
                with_reducible refine (wharfagelaw13_given.calls  t197 t198 _ A1.out).mono ?_
                rintro e w24 ⟨v199, rfl, ho0, hb⟩
                refine ⟨_, rfl, ?_⟩
                have n0_ := Aside0.mk (Kd.N_lower (Kd.N_mono (ok' := fun k_ => k_ ≠ gb196) ho0 (fun k_ hk_ => (Kd.freshB (g := gb196) (o := .cells #[.bool true, .int .i64 0] 67 (0, 0)) (by (with_reducible repeat (first | refine blk_drewN ?_ _ | refine blk_drew ?_ | refine blk_alloc ?_ _)); exact BK196.out) k_ hk_))) (below_size (by repeat (first | (with_reducible first | exact HB.out | apply below_alloc | apply pw_below_drewN | apply below_drew1 | refine below_set ?_ GE196.out) | exact HB.out))))
                have n1_ := Aside0.mk (blk_below (g := gb196) (o := .cells #[.bool true, .int .i64 0] 67 (0, 0)) (by (with_reducible repeat (first | refine blk_drewN ?_ _ | refine blk_drew ?_ | refine blk_alloc ?_ _)); exact BK196.out) hb)
                have n2_ := Aside0.mk (below_step (by repeat (first | (with_reducible first | exact HB.out | apply below_alloc | apply pw_below_drewN | apply below_drew1 | refine below_set ?_ GE196.out) | exact HB.out)) hb)
                have z_HO203 := fun (h0_ : b 4 = true) => (show Kd.R k67 67 w24 w.heap.size (fun _ => True) v202 y201 from by first | exact (Kd.R_below (by (with_reducible repeat (first | apply Kd.R_alloc | apply Kd.R_drewN | apply Kd.R_drew)); exact (Q_HO203 h0_)) hb) | exact Kd.R_mono (Kd.R_below (by (with_reducible repeat (first | apply Kd.R_alloc | apply Kd.R_drewN | apply Kd.R_drew)); exact (Q_HO203 h0_)) hb) (fun _ h_ => by first | trivial | exact h_ | exact h_.1))
                clear BK196
                clear HB
                have HO200 := n0_
                have BK196 := n1_
                have HB := n2_
                clear n0_ n1_ n2_
                (try clear hb)
                (try clear hb2)
                (try clear hk)
                (try clear hi)
                (try clear ho0)
                refine hK.out _ _ ⟨v199, v202, v205, (.agg #[.int .i64 t197, v199]), m5_, m6_, m7_, m9_, (by rw [ha.out]; exact putSel_upk 0 hb_ rfl rfl rfl), (by (with_reducible repeat (first | refine blk_drewN ?_ _ | refine blk_drew ?_ | refine blk_alloc ?_ _)); exact BK196.out), (by repeat (first | (with_reducible first | exact HB.out | apply below_alloc | apply pw_below_drewN | apply below_drew1 | refine below_set ?_ GE196.out) | exact HB.out)), fun _ => (by (with_reducible repeat (first | apply Kd.N_alloc | apply Kd.N_drewN | apply Kd.N_drew)); (first | exact HO200.out | exact Kd.N_mono HO200.out (fun _ _ => trivial) | exact Kd.R_mono HO200.out (fun _ _ => trivial))), z_HO203, fun h0_ => absurd ((hoff 5 (by kernel_rfl)).symm.trans h0_) (by decide), fun _ => rfl, fun h0_ => absurd ((hoff 5 (by kernel_rfl)).symm.trans h0_) (by decide), fun h0_ => absurd ((hoff 6 (by kernel_rfl)).symm.trans h0_) (by decide), fun h0_ => absurd ((hoff 7 (by kernel_rfl)).symm.trans h0_) (by decide), fun h0_ => absurd ((hoff 9 (by kernel_rfl)).symm.trans h0_) (by decide)⟩
              refine steps_cons ?_ ?_
              · rintro b a w' ⟨v199, v202, v205, m0_, m5_, m6_, m7_, m9_, ha, Q_BK196, Q_HB, Q_HO200, Q_HO203, Q_HO206, Q_X0_, Q_X5_, Q_X6_, Q_X7_, Q_X9_⟩ hb_ hon hoff
                refine ⟨_, rfl, fun K hK => ?_⟩
                have e1 : a.tmps[1]? = some (.pointer (some ⟨gb196, 0, none⟩)) := by rw [ha]; exact (putSel_off rfl).trans rfl
                replace ha := Aside0.mk ha
                have BK196 := Aside0.mk Q_BK196
                have HB := Aside0.mk Q_HB
                have hc0_ : w'.cell? ⟨gb196, 0, none⟩ = some (.bool true) := (blk_cell BK196.out 0).trans rfl
                have hc1_ : w'.cell? ⟨gb196, 1, none⟩ = some (.int .i64 0) := (blk_cell BK196.out 1).trans rfl
                refine value_ (w1 := w') (v := .agg #[.bool true, .int .i64 0]) (by rfl) rfl ?_ ?_
                · go_simp
                  (try simp only [i64_w])
                  try rfl
                refine hK.out _ _ ⟨v199, v202, v205, m0_, m5_, m6_, m7_, m9_, (by rw [ha.out]; exact putSel_upk 1 hb_ rfl rfl rfl), Q_BK196, Q_HB, Q_HO200, fun h0_ => absurd ((hoff 4 (by kernel_rfl)).symm.trans h0_) (by decide), fun h0_ => absurd ((hoff 5 (by kernel_rfl)).symm.trans h0_) (by decide), Q_X0_, fun h0_ => absurd ((hoff 5 (by kernel_rfl)).symm.trans h0_) (by decide), fun h0_ => absurd ((hoff 6 (by kernel_rfl)).symm.trans h0_) (by decide), fun h0_ => absurd ((hoff 7 (by kernel_rfl)).symm.trans h0_) (by decide), fun h0_ => absurd ((hoff 9 (by kernel_rfl)).symm.trans h0_) (by decide)⟩
              refine steps_cons ?_ ?_
              · rintro b a w' ⟨v199, v202, v205, m0_, m5_, m6_, m7_, m9_, ha, Q_BK196, Q_HB, Q_HO200, Q_HO203, Q_HO206, Q_X0_, Q_X5_, Q_X6_, Q_X7_, Q_X9_⟩ hb_ hon hoff
                refine ⟨_, rfl, fun K hK => ?_⟩
                replace ha := Aside0.mk ha
                have BK196 := Aside0.mk Q_BK196
                have HB := Aside0.mk Q_HB
                refine value_ (w1 := w') (v := .agg #[.bool false, .int .i64 0]) (by rfl) rfl ?_ ?_
                · go_simp
                  (try simp only [i64_w])
                  try rfl
                refine hK.out _ _ ⟨v199, v202, v205, m0_, m5_, m6_, m7_, m9_, (by rw [ha.out]; exact putSel_upk 2 hb_ rfl rfl rfl), Q_BK196, Q_HB, Q_HO200, fun h0_ => absurd ((hoff 4 (by kernel_rfl)).symm.trans h0_) (by decide), fun h0_ => absurd ((hoff 5 (by kernel_rfl)).symm.trans h0_) (by decide), Q_X0_, fun h0_ => absurd ((hoff 5 (by kernel_rfl)).symm.trans h0_) (by decide), fun h0_ => absurd ((hoff 6 (by kernel_rfl)).symm.trans h0_) (by decide), fun h0_ => absurd ((hoff 7 (by kernel_rfl)).symm.trans h0_) (by decide), fun h0_ => absurd ((hoff 9 (by kernel_rfl)).symm.trans h0_) (by decide)⟩
              refine steps_cons ?_ ?_
              · rintro b a w' ⟨v199, v202, v205, m0_, m5_, m6_, m7_, m9_, ha, Q_BK196, Q_HB, Q_HO200, Q_HO203, Q_HO206, Q_X0_, Q_X5_, Q_X6_, Q_X7_, Q_X9_⟩ hb_ hon hoff
                refine ⟨_, rfl, fun K hK => ?_⟩
                have e1 : a.tmps[1]? = some (.pointer (some ⟨gb196, 0, none⟩)) := by rw [ha]; exact (putSel_off rfl).trans rfl
                replace ha := Aside0.mk ha
                have BK196 := Aside0.mk Q_BK196
                have HB := Aside0.mk Q_HB
                have hc0_ : w'.cell? ⟨gb196, 0, none⟩ = some (.bool true) := (blk_cell BK196.out 0).trans rfl
                have hc1_ : w'.cell? ⟨gb196, 1, none⟩ = some (.int .i64 0) := (blk_cell BK196.out 1).trans rfl
                refine value_ (w1 := w') (v := .agg #[.bool true, .int .i64 0]) (by rfl) rfl ?_ ?_
                · go_simp
                  (try simp only [i64_w])
                  try rfl
                refine hK.out _ _ ⟨v199, v202, v205, m0_, m5_, m6_, m7_, m9_, (by rw [ha.out]; exact putSel_upk 3 hb_ rfl rfl rfl), Q_BK196, Q_HB, Q_HO200, fun h0_ => absurd ((hoff 4 (by kernel_rfl)).symm.trans h0_) (by decide), fun h0_ => absurd ((hoff 5 (by kernel_rfl)).symm.trans h0_) (by decide), Q_X0_, fun h0_ => absurd ((hoff 5 (by kernel_rfl)).symm.trans h0_) (by decide), fun h0_ => absurd ((hoff 6 (by kernel_rfl)).symm.trans h0_) (by decide), fun h0_ => absurd ((hoff 7 (by kernel_rfl)).symm.trans h0_) (by decide), fun h0_ => absurd ((hoff 9 (by kernel_rfl)).symm.trans h0_) (by decide)⟩
              refine steps_cons ?_ ?_
              · rintro b a w' ⟨v199, v202, v205, m0_, m5_, m6_, m7_, m9_, ha, Q_BK196, Q_HB, Q_HO200, Q_HO203, Q_HO206, Q_X0_, Q_X5_, Q_X6_, Q_X7_, Q_X9_⟩ hb_ hon hoff
                refine ⟨_, rfl, fun K hK => ?_⟩
                have e13 : a.tmps[13]? = some (.agg #[.bool true, .int .i64 0]) := by rw [ha]; exact putSel_on (e := (1, 13, .agg #[.bool true, .int .i64 0])) 1 rfl rfl (hon 1 (by kernel_rfl)) rfl
                have e14 : a.tmps[14]? = some (.agg #[.bool false, .int .i64 0]) := by rw [ha]; exact putSel_on (e := (2, 14, .agg #[.bool false, .int .i64 0])) 2 rfl rfl (hon 2 (by kernel_rfl)) rfl
                have e15 : a.tmps[15]? = some (.agg #[.bool true, .int .i64 0]) := by rw [ha]; exact putSel_on (e := (3, 15, .agg #[.bool true, .int .i64 0])) 3 rfl rfl (hon 3 (by kernel_rfl)) rfl
                replace ha := Aside0.mk ha
                have BK196 := Aside0.mk Q_BK196
                have HB := Aside0.mk Q_HB
                refine Kd.R_lit_step k67 _ 67 ?hg (N := 16) ?hd (xs := ([(⟨true, 0⟩ : S67), (⟨false, 0⟩ : S67), (⟨true, 0⟩ : S67)] : List (S67))) (inner := [.bool true, .int .i64 0, .bool false, .int .i64 0, .bool true, .int .i64 0]) (ok := fun _ => True) (okp := fun _ => True) ?hr ?hp (fun _ hk => by first | trivial | exact hk | exact hk | exact hk.1 | exact hk.2 | exact ⟨hk.1.1, hk.2⟩ | exact ⟨hk.1.1, hk.1.2⟩ | simp_all) trivial (Below.refl _ _) (Nat.le_refl _) (by simp) ?_; (case hd => rfl); (case hg => rfl); (case hr => first | (go_simp; done) | (go_simp; rfl)); (case hp => exact (Reps.c2 (show Kd.M k67 _ _ _ (⟨true, 0⟩ : S67) [.bool true, .int .i64 0] from (k67_mkM _ _ _ (⟨true, 0⟩ : S67) )) (Reps.c2 (show Kd.M k67 _ _ _ (⟨false, 0⟩ : S67) [.bool false, .int .i64 0] from (k67_mkM _ _ _ (⟨false, 0⟩ : S67) )) (Reps.c2 (show Kd.M k67 _ _ _ (⟨true, 0⟩ : S67) [.bool true, .int .i64 0] from (k67_mkM _ _ _ (⟨true, 0⟩ : S67) )) (Reps.none _ _)))))
                intro v202 w24 ho25 hb hg_ hnew_
                clear hg_ hnew_
                (first | rw [← Ny201.out] at ho25 | (simp only [Int.reduceToNat] at ho25; rw [← Ny201.out] at ho25))
                have n0_ := Aside0.mk (Kd.R_lower (Kd.R_newB ho25 (g := gb196) (o := .cells #[.bool true, .int .i64 0] 67 (0, 0)) (by (with_reducible repeat (first | refine blk_drewN ?_ _ | refine blk_drew ?_ | refine blk_alloc ?_ _)); exact BK196.out)) (below_size (by repeat (first | (with_reducible first | exact HB.out | apply below_alloc | apply pw_below_drewN | apply below_drew1 | refine below_set ?_ GE196.out) | exact HB.out))))
                have n1_ := Aside0.mk (blk_below (g := gb196) (o := .cells #[.bool true, .int .i64 0] 67 (0, 0)) (by (with_reducible repeat (first | refine blk_drewN ?_ _ | refine blk_drew ?_ | refine blk_alloc ?_ _)); exact BK196.out) hb)
                have n2_ := Aside0.mk (below_step (by repeat (first | (with_reducible first | exact HB.out | apply below_alloc | apply pw_below_drewN | apply below_drew1 | refine below_set ?_ GE196.out) | exact HB.out)) hb)
                have z_HO200 := fun (h0_ : b 0 = true) => (show Kd.N k70 70 w24 w.heap.size (fun _ => True) v199 t198 from by first | exact (Kd.N_elder' (by (with_reducible repeat (first | apply Kd.N_alloc | apply Kd.N_drewN | apply Kd.N_drew)); exact (Q_HO200 h0_)) (Kd.R_base ho25) hb) | exact Kd.N_mono (Kd.N_elder' (by (with_reducible repeat (first | apply Kd.N_alloc | apply Kd.N_drewN | apply Kd.N_drew)); exact (Q_HO200 h0_)) (Kd.R_base ho25) hb) (fun _ h_ => by first | trivial | exact h_ | exact h_.1))
                clear BK196
                clear HB
                have HO203 := n0_
                have BK196 := n1_
                have HB := n2_
                clear n0_ n1_ n2_
                clear hb ho25
                refine hK.out _ _ ⟨v199, v202, v205, m0_, m5_, m6_, m7_, m9_, (by rw [ha.out]; exact putSel_upk 4 hb_ rfl rfl rfl), (by (with_reducible repeat (first | refine blk_drewN ?_ _ | refine blk_drew ?_ | refine blk_alloc ?_ _)); exact BK196.out), (by repeat (first | (with_reducible first | exact HB.out | apply below_alloc | apply pw_below_drewN | apply below_drew1 | refine below_set ?_ GE196.out) | exact HB.out)), z_HO200, fun _ => (by (with_reducible repeat (first | apply Kd.R_alloc | apply Kd.R_drewN | apply Kd.R_drew)); exact Kd.R_mono HO203.out (fun _ hk => by first | trivial | exact hk.2 | exact hk | exact hk.1 | exact hk.2 | exact ⟨hk.1.1, hk.2⟩ | exact ⟨hk.1.1, hk.1.2⟩ | simp_all)), fun h0_ => absurd ((hoff 5 (by kernel_rfl)).symm.trans h0_) (by decide), Q_X0_, fun h0_ => absurd ((hoff 5 (by kernel_rfl)).symm.trans h0_) (by decide), fun h0_ => absurd ((hoff 6 (by kernel_rfl)).symm.trans h0_) (by decide), fun h0_ => absurd ((hoff 7 (by kernel_rfl)).symm.trans h0_) (by decide), fun h0_ => absurd ((hoff 9 (by kernel_rfl)).symm.trans h0_) (by decide)⟩
              refine steps_cons ?_ ?_
              · rintro b a w' ⟨v199, v202, v205, m0_, m5_, m6_, m7_, m9_, ha, Q_BK196, Q_HB, Q_HO200, Q_HO203, Q_HO206, Q_X0_, Q_X5_, Q_X6_, Q_X7_, Q_X9_⟩ hb_ hon hoff
                refine ⟨_, rfl, fun K hK => ?_⟩
                have e12 : a.tmps[12]? = some (m0_) := by rw [ha]; exact putSel_on (e := (0, 12, m0_)) 0 rfl rfl (hon 0 (by kernel_rfl)) rfl
                rw [Q_X0_ (hon 0 (by kernel_rfl))] at e12
                have e16 : a.tmps[16]? = some (v202) := by rw [ha]; exact putSel_on (e := (4, 16, v202)) 4 rfl rfl (hon 4 (by kernel_rfl)) rfl
                replace ha := Aside0.mk ha
                have BK196 := Aside0.mk Q_BK196
                have HB := Aside0.mk Q_HB
                have HO200 := Aside0.mk (Q_HO200 (hon 0 (by kernel_rfl)))
                have HO203 := Aside0.mk (Q_HO203 (hon 4 (by kernel_rfl)))
                obtain ⟨Ao28, co28, eo28⟩ := Kd.N_slice HO200.out
                (first | subst eo28 | (injection eo28 with f1_ f2_ f3_; have f4_ := f1_.symm; have f5_ := f3_.symm; clear f1_ f2_ f3_; subst f4_; subst f5_))
                obtain ⟨Ao29, co29, eo29⟩ := Kd.R_slice HO203.out
                (first | subst eo29 | (injection eo29 with f1_ f2_ f3_; have f4_ := f1_.symm; have f5_ := f3_.symm; clear f1_ f2_ f3_; subst f4_; subst f5_))
                refine goes_ Try.func27 (by kernel_rfl) rfl #[.agg #[.int .i64 t197, .slice Ao28 t198.length co28], .slice Ao29 y201.length co29] (by rfl) rfl rfl (by first | (simp only [List.map_toArray, List.map_cons, List.map_nil, Act.eval, Array.getD_eq_getD_getElem?, Option.getD_some, e12, e16]; done) | (simp only [List.map_toArray, List.map_cons, List.map_nil, Act.eval, Array.getD_eq_getD_getElem?, Option.getD_some, e12, e16]; rfl)) ?_
                with_reducible refine (cand_Sites.calls k t197 _ _ t198 _ _ y201 t204 t207 _ ?side1 ?side2 ?side3 ?side4 A2.out).mono ?_
                (case side1 => repeat (first | exact (Kd.N_reads' HO200.out).2.2 | (with_reducible refine Kd.C_alloc ?_ _) | (with_reducible refine Kd.C_drewN ?_ _) | (with_reducible refine Kd.C_drew ?_)))
                (case side2 => exact (Kd.N_reads' HO200.out).2.1)
                (case side3 => repeat (first | exact (Kd.R_reads' HO203.out).2.2 | (with_reducible refine Kd.C_alloc ?_ _) | (with_reducible refine Kd.C_drewN ?_ _) | (with_reducible refine Kd.C_drew ?_)))
                (case side4 => exact (Kd.R_reads' HO203.out).2.1)
                rintro e w30 ⟨v205, rfl, ho0, hb⟩
                refine ⟨_, rfl, ?_⟩
                have n0_ := Aside0.mk (Kd.N_elder' (by (with_reducible repeat (first | apply Kd.N_alloc | apply Kd.N_drewN | apply Kd.N_drew)); (first | exact HO200.out | exact Kd.N_mono HO200.out (fun _ _ => trivial) | exact Kd.R_mono HO200.out (fun _ _ => trivial))) (Kd.R_base ho0) hb)
                have n1_ := Aside0.mk (Kd.R_below (by (with_reducible repeat (first | apply Kd.R_alloc | apply Kd.R_drewN | apply Kd.R_drew)); (first | exact HO203.out | exact Kd.N_mono HO203.out (fun _ _ => trivial) | exact Kd.R_mono HO203.out (fun _ _ => trivial))) hb)
                have n2_ := Aside0.mk (Kd.R_lower ho0 (below_size (by repeat (first | (with_reducible first | exact HB.out | apply below_alloc | apply pw_below_drewN | apply below_drew1 | refine below_set ?_ GE196.out) | exact HB.out))))
                have n3_ := Aside0.mk (blk_below (g := gb196) (o := .cells #[.bool true, .int .i64 0] 67 (0, 0)) (by (with_reducible repeat (first | refine blk_drewN ?_ _ | refine blk_drew ?_ | refine blk_alloc ?_ _)); exact BK196.out) hb)
                have n4_ := Aside0.mk (below_step (by repeat (first | (with_reducible first | exact HB.out | apply below_alloc | apply pw_below_drewN | apply below_drew1 | refine below_set ?_ GE196.out) | exact HB.out)) hb)
                clear HO200
                clear HO203
                clear BK196
                clear HB
                have HO200 := n0_
                have HO203 := n1_
                have HO206 := n2_
                have BK196 := n3_
                have HB := n4_
                clear n0_ n1_ n2_ n3_ n4_
                (try clear hb)
                (try clear hb2)
                (try clear hk)
                (try clear hi)
                (try clear ho0)
                refine hK.out _ _ ⟨.slice Ao28 t198.length co28, .slice Ao29 y201.length co29, v205, m0_, (.tuple #[v205, .int .i64 t207]), m6_, m7_, m9_, (by rw [ha.out]; exact putSel_upk 5 hb_ rfl rfl rfl), (by (with_reducible repeat (first | refine blk_drewN ?_ _ | refine blk_drew ?_ | refine blk_alloc ?_ _)); exact BK196.out), (by repeat (first | (with_reducible first | exact HB.out | apply below_alloc | apply pw_below_drewN | apply below_drew1 | refine below_set ?_ GE196.out) | exact HB.out)), fun _ => (by (with_reducible repeat (first | apply Kd.N_alloc | apply Kd.N_drewN | apply Kd.N_drew)); exact Kd.N_mono HO200.out (fun _ hk => by first | trivial | exact ⟨hk.1.1, ⟨hk.2, hk.1.2⟩⟩ | exact hk | exact hk.1 | exact hk.2 | exact ⟨hk.1.1, hk.2⟩ | exact ⟨hk.1.1, hk.1.2⟩ | simp_all)), fun _ => (by (with_reducible repeat (first | apply Kd.R_alloc | apply Kd.R_drewN | apply Kd.R_drew)); (first | exact HO203.out | exact Kd.N_mono HO203.out (fun _ _ => trivial) | exact Kd.R_mono HO203.out (fun _ _ => trivial))), fun _ => (by (with_reducible repeat (first | apply Kd.R_alloc | apply Kd.R_drewN | apply Kd.R_drew)); (first | exact HO206.out | exact Kd.N_mono HO206.out (fun _ _ => trivial) | exact Kd.R_mono HO206.out (fun _ _ => trivial))), Q_X0_, fun _ => rfl, fun h0_ => absurd ((hoff 6 (by kernel_rfl)).symm.trans h0_) (by decide), fun h0_ => absurd ((hoff 7 (by kernel_rfl)).symm.trans h0_) (by decide), fun h0_ => absurd ((hoff 9 (by kernel_rfl)).symm.trans h0_) (by decide)⟩
              refine steps_cons ?_ ?_
              · rintro b a w' ⟨v199, v202, v205, m0_, m5_, m6_, m7_, m9_, ha, Q_BK196, Q_HB, Q_HO200, Q_HO203, Q_HO206, Q_X0_, Q_X5_, Q_X6_, Q_X7_, Q_X9_⟩ hb_ hon hoff
                refine ⟨_, rfl, fun K hK => ?_⟩
                have e17 : a.tmps[17]? = some (m5_) := by rw [ha]; exact putSel_on (e := (5, 17, m5_)) 5 rfl rfl (hon 5 (by kernel_rfl)) rfl
                rw [Q_X5_ (hon 5 (by kernel_rfl))] at e17
                replace ha := Aside0.mk ha
                have BK196 := Aside0.mk Q_BK196
                have HB := Aside0.mk Q_HB
                have HO200 := Aside0.mk (Q_HO200 (hon 0 (by kernel_rfl)))
                have HO203 := Aside0.mk (Q_HO203 (hon 4 (by kernel_rfl)))
                have HO206 := Aside0.mk (Q_HO206 (hon 5 (by kernel_rfl)))
                refine value_ (w1 := w') (v := .tuple #[v205, .int .i64 t207]) (by rfl) rfl ?_ ?_
                · go_simp
                  (try simp only [i64_w])
                  try rfl
                refine hK.out _ _ ⟨v199, v202, v205, m0_, m5_, (.tuple #[v205, .int .i64 t207]), m7_, m9_, (by rw [ha.out]; exact putSel_upk 6 hb_ rfl rfl rfl), Q_BK196, Q_HB, Q_HO200, Q_HO203, Q_HO206, Q_X0_, Q_X5_, fun _ => rfl, fun h0_ => absurd ((hoff 7 (by kernel_rfl)).symm.trans h0_) (by decide), fun h0_ => absurd ((hoff 9 (by kernel_rfl)).symm.trans h0_) (by decide)⟩
              refine steps_cons ?_ ?_
              · rintro b a w' ⟨v199, v202, v205, m0_, m5_, m6_, m7_, m9_, ha, Q_BK196, Q_HB, Q_HO200, Q_HO203, Q_HO206, Q_X0_, Q_X5_, Q_X6_, Q_X7_, Q_X9_⟩ hb_ hon hoff
                refine ⟨_, rfl, fun K hK => ?_⟩
                have e11 : a.tmps[11]? = some (m6_) := by rw [ha]; exact putSel_on (e := (6, 11, m6_)) 6 rfl rfl (hon 6 (by kernel_rfl)) rfl
                rw [Q_X6_ (hon 6 (by kernel_rfl))] at e11
                replace ha := Aside0.mk ha
                have BK196 := Aside0.mk Q_BK196
                have HB := Aside0.mk Q_HB
                have HO200 := Aside0.mk (Q_HO200 (hon 0 (by kernel_rfl)))
                have HO203 := Aside0.mk (Q_HO203 (hon 4 (by kernel_rfl)))
                have HO206 := Aside0.mk (Q_HO206 (hon 5 (by kernel_rfl)))
                obtain ⟨Ao7_0, co7_0, eo_⟩ := Kd.R_slice HO206.out
                subst eo_
                refine value_ (w1 := w') (v := .slice Ao7_0 t204.length co7_0) (by rfl) rfl ?_ ?_
                · go_simp
                  (try simp only [i64_w])
                  try rfl
                refine hK.out _ _ ⟨v199, v202, .slice Ao7_0 t204.length co7_0, m0_, m5_, m6_, (.slice Ao7_0 t204.length co7_0), m9_, (by rw [ha.out]; exact putSel_upk 7 hb_ rfl rfl rfl), Q_BK196, Q_HB, Q_HO200, Q_HO203, Q_HO206, Q_X0_, Q_X5_, Q_X6_, fun _ => rfl, fun h0_ => absurd ((hoff 9 (by kernel_rfl)).symm.trans h0_) (by decide)⟩
              refine steps_cons ?_ ?_
              · rintro b a w' ⟨v199, v202, v205, m0_, m5_, m6_, m7_, m9_, ha, Q_BK196, Q_HB, Q_HO200, Q_HO203, Q_HO206, Q_X0_, Q_X5_, Q_X6_, Q_X7_, Q_X9_⟩ hb_ hon hoff
                refine ⟨_, rfl, fun K hK => ?_⟩
                have e11 : a.tmps[11]? = some (m6_) := by rw [ha]; exact putSel_on (e := (6, 11, m6_)) 6 rfl rfl (hon 6 (by kernel_rfl)) rfl
                rw [Q_X6_ (hon 6 (by kernel_rfl))] at e11
                replace ha := Aside0.mk ha
                have BK196 := Aside0.mk Q_BK196
                have HB := Aside0.mk Q_HB
                have HO200 := Aside0.mk (Q_HO200 (hon 0 (by kernel_rfl)))
                have HO203 := Aside0.mk (Q_HO203 (hon 4 (by kernel_rfl)))
                have HO206 := Aside0.mk (Q_HO206 (hon 5 (by kernel_rfl)))
                obtain ⟨Ao8_0, co8_0, eo_⟩ := Kd.R_slice HO206.out
                subst eo_
                refine value_ (w1 := w') (v := .int .i64 t207) (by rfl) rfl ?_ ?_
                · go_simp
                  (try simp only [i64_w])
                  try rfl
                refine hK.out _ _ ⟨v199, v202, .slice Ao8_0 t204.length co8_0, m0_, m5_, m6_, m7_, m9_, (by rw [ha.out]; exact putSel_upk 8 hb_ rfl rfl rfl), Q_BK196, Q_HB, Q_HO200, Q_HO203, Q_HO206, Q_X0_, Q_X5_, Q_X6_, Q_X7_, Q_X9_⟩
              refine steps_cons ?_ ?_
              · rintro b a w' ⟨v199, v202, v205, m0_, m5_, m6_, m7_, m9_, ha, Q_BK196, Q_HB, Q_HO200, Q_HO203, Q_HO206, Q_X0_, Q_X5_, Q_X6_, Q_X7_, Q_X9_⟩ hb_ hon hoff
                refine ⟨_, rfl, fun K hK => ?_⟩
                have e18 : a.tmps[18]? = some (m7_) := by rw [ha]; exact putSel_on (e := (7, 18, m7_)) 7 rfl rfl (hon 7 (by kernel_rfl)) rfl
                rw [Q_X7_ (hon 7 (by kernel_rfl))] at e18
                replace ha := Aside0.mk ha
                have BK196 := Aside0.mk Q_BK196
                have HB := Aside0.mk Q_HB
                have HO200 := Aside0.mk (Q_HO200 (hon 0 (by kernel_rfl)))
                have HO203 := Aside0.mk (Q_HO203 (hon 4 (by kernel_rfl)))
                have HO206 := Aside0.mk (Q_HO206 (hon 5 (by kernel_rfl)))
                refine value_ (w1 := w') (v := v205) (by rfl) rfl ?_ ?_
                · go_simp
                  (try simp only [i64_w])
                  try rfl
                refine hK.out _ _ ⟨v199, v202, v205, m0_, m5_, m6_, m7_, (v205), (by rw [ha.out]; exact putSel_upk 9 hb_ rfl rfl rfl), Q_BK196, Q_HB, Q_HO200, Q_HO203, Q_HO206, Q_X0_, Q_X5_, Q_X6_, Q_X7_, fun _ => rfl⟩
              refine steps_cons ?_ ?_
              · rintro b a w' ⟨v199, v202, v205, m0_, m5_, m6_, m7_, m9_, ha, Q_BK196, Q_HB, Q_HO200, Q_HO203, Q_HO206, Q_X0_, Q_X5_, Q_X6_, Q_X7_, Q_X9_⟩ hb_ hon hoff
                refine ⟨_, rfl, fun K hK => ?_⟩
                have e19 : a.tmps[19]? = some (.int .i64 t207) := by rw [ha]; exact putSel_on (e := (8, 19, .int .i64 t207)) 8 rfl rfl (hon 8 (by kernel_rfl)) rfl
                replace ha := Aside0.mk ha
                have BK196 := Aside0.mk Q_BK196
                have HB := Aside0.mk Q_HB
                have HO200 := Aside0.mk (Q_HO200 (hon 0 (by kernel_rfl)))
                have HO203 := Aside0.mk (Q_HO203 (hon 4 (by kernel_rfl)))
                have HO206 := Aside0.mk (Q_HO206 (hon 5 (by kernel_rfl)))
                refine value_ (w1 := w') (v := .int .i64 t207) (by rfl) rfl ?_ ?_
                · go_simp
                  (try simp only [i64_w])
                  try rfl
                refine hK.out _ _ ⟨v199, v202, v205, m0_, m5_, m6_, m7_, m9_, (by rw [ha.out]; exact putSel_upk 10 hb_ rfl rfl rfl), Q_BK196, Q_HB, Q_HO200, Q_HO203, Q_HO206, Q_X0_, Q_X5_, Q_X6_, Q_X7_, Q_X9_⟩
              exact steps_nil
            rintro b a w30 hall ⟨v199, v202, v205, m0_, m5_, m6_, m7_, m9_, ha, Q_BK196, Q_HB, Q_HO200, Q_HO203, Q_HO206, Q_X0_, Q_X5_, Q_X6_, Q_X7_, Q_X9_⟩
            clear BK196 HB
            have hb0_ := hall 0 (by kernel_rfl)
            have hb1_ := hall 1 (by kernel_rfl)
            have hb2_ := hall 2 (by kernel_rfl)
            have hb3_ := hall 3 (by kernel_rfl)
            have hb4_ := hall 4 (by kernel_rfl)
            have hb5_ := hall 5 (by kernel_rfl)
            have hb6_ := hall 6 (by kernel_rfl)
            have hb7_ := hall 7 (by kernel_rfl)
            have hb8_ := hall 8 (by kernel_rfl)
            have hb9_ := hall 9 (by kernel_rfl)
            have hb10_ := hall 10 (by kernel_rfl)
            subst ha
            obtain rfl := (Q_X0_ hb0_).symm
            obtain rfl := (Q_X5_ hb5_).symm
            obtain rfl := (Q_X6_ hb6_).symm
            obtain rfl := (Q_X7_ hb7_).symm
            obtain rfl := (Q_X9_ hb9_).symm
            simp only [putSel, hb0_, hb1_, hb2_, hb3_, hb4_, hb5_, hb6_, hb7_, hb8_, hb9_, hb10_, if_true, Act.put, List.setIfInBounds_toArray, List.set_cons_zero, List.set_cons_succ]
            have BK196 := Aside0.mk Q_BK196
            clear Q_BK196
            have HB := Aside0.mk Q_HB
            clear Q_HB
            have HO200 := Aside0.mk (Q_HO200 hb0_)
            clear Q_HO200
            have HO203 := Aside0.mk (Q_HO203 hb4_)
            clear Q_HO203
            have HO206 := Aside0.mk (Q_HO206 hb5_)
            clear Q_HO206
            clear hall hb0_ hb1_ hb2_ hb3_ hb4_ hb5_ hb6_ hb7_ hb8_ hb9_ hb10_
            try go_wp2
            have n0_ := Aside0.mk (Kd.N_drew HO200.out)
            have n1_ := Aside0.mk (Kd.R_drew HO203.out)
            have n2_ := Aside0.mk (Kd.R_drew HO206.out)
            have n3_ := Aside0.mk (blk_drew BK196.out)
            have n4_ := Aside0.mk (below_drew1 HB.out)
            clear HO200
            clear HO203
            clear HO206
            clear BK196
            clear HB
            have HO200 := n0_
            have HO203 := n1_
            have HO206 := n2_
            have BK196 := n3_
            have HB := n4_
            clear n0_ n1_ n2_ n3_ n4_
            refine start_ (n := 12) (S := fun w' => True) (ds := []) #[false, false, false, false, false, false, false, false, false, false, false, false] (by kernel_rfl) rfl rfl trivial (fun hHeld => ?_); refine with_tabW wharfagelaw13_awake.tab3 wharfagelaw13_awake.bits3 (fun HT_ HW_ => ?_)
            generalize w30.drew = w31 at HO200 HO203 HO206 BK196 HB hHeld ⊢
            refine inv_at [0, 1, 2, 3, 4, 5, 6, 7, 8, 9, 10, 11] (fun a0_ b a w' => ∃ (v210 : Value) (v213 : Value) (v216 : Value) (m0_ : Value) (m6_ : Value) (m7_ : Value) (m8_ : Value) (m10_ : Value), a = putSel a0_ b [(0, 21, m0_), (1, 22, .agg #[.bool true, .int .i64 0]), (2, 23, .agg #[.bool true, .int .i64 0]), (3, 24, .agg #[.bool true, .int .i64 0]), (4, 25, .agg #[.bool true, .int .i64 0]), (5, 26, v213), (6, 27, m6_), (7, 20, m7_), (8, 28, m8_), (9, 29, .int .i64 t218), (10, 4, m10_), (11, 5, .int .i64 t218)] ∧ (Kd.N k70 70 w' w.heap.size (fun _ => True) v199 t198) ∧ (Kd.R k67 67 w' w.heap.size (fun _ => True) v202 y201) ∧ (Kd.R k72 72 w' w.heap.size (fun _ => True) v205 t204) ∧ (w'.heap[gb196]? = some (.cells #[.bool true, .int .i64 0] 67 (0, 0))) ∧ (Below w.heap.size w w') ∧ (b 0 = true → Kd.N k70 70 w' w.heap.size (fun _ => True) v210 t209) ∧ (b 5 = true → Kd.R k67 67 w' w.heap.size (fun _ => True) v213 y212) ∧ (b 6 = true → Kd.R k72 72 w' w.heap.size (fun _ => True) v216 t215) ∧ (b 0 = true → (m0_ : Value) = .agg #[.int .i64 t208, v210]) ∧ (b 6 = true → (m6_ : Value) = .tuple #[v216, .int .i64 t218]) ∧ (b 7 = true → (m7_ : Value) = .tuple #[v216, .int .i64 t218]) ∧ (b 8 = true → (m8_ : Value) = v216) ∧ (b 10 = true → (m10_ : Value) = v216)) HT_.out HW_.out (by kernel_rfl) (by kernel_rfl) ?_ ?_ ?_
            · exact ⟨.bool false, .bool false, .bool false, .bool false, .bool false, .bool false, .bool false, .bool false, by simp only [putSel, Bool.false_eq_true, if_false], (by first | (first | exact HO200.out | exact Kd.N_mono HO200.out (fun _ _ => trivial) | exact Kd.R_mono HO200.out (fun _ _ => trivial)) | exact Kd.N_mono HO200.out (fun _ _ => trivial) | exact Kd.R_mono HO200.out (fun _ _ => trivial)), (by first | (first | exact HO203.out | exact Kd.N_mono HO203.out (fun _ _ => trivial) | exact Kd.R_mono HO203.out (fun _ _ => trivial)) | exact Kd.N_mono HO203.out (fun _ _ => trivial) | exact Kd.R_mono HO203.out (fun _ _ => trivial)), (by first | (first | exact HO206.out | exact Kd.N_mono HO206.out (fun _ _ => trivial) | exact Kd.R_mono HO206.out (fun _ _ => trivial)) | exact Kd.N_mono HO206.out (fun _ _ => trivial) | exact Kd.R_mono HO206.out (fun _ _ => trivial)), BK196.out, HB.out, fun h_ => absurd h_ (by decide), fun h_ => absurd h_ (by decide), fun h_ => absurd h_ (by decide), fun h_ => absurd h_ (by decide), fun h_ => absurd h_ (by decide), fun h_ => absurd h_ (by decide), fun h_ => absurd h_ (by decide), fun h_ => absurd h_ (by decide)⟩
            · skip
              clear BK196 HB HO200 HO203 HO206
              refine steps_cons ?_ ?_
              · rintro b a w' ⟨v210, v213, v216, m0_, m6_, m7_, m8_, m10_, ha, Q_HO200, Q_HO203, Q_HO206, Q_BK196, Q_HB, Q_HO211, Q_HO214, Q_HO217, Q_X0_, Q_X6_, Q_X7_, Q_X8_, Q_X10_⟩ hb_ hon hoff
                refine ⟨_, rfl, fun K hK => ?_⟩
                replace ha := Aside0.mk ha
                have HO200 := Aside0.mk Q_HO200
                have HO203 := Aside0.mk Q_HO203
                have HO206 := Aside0.mk Q_HO206
                have BK196 := Aside0.mk Q_BK196
                have HB := Aside0.mk Q_HB
                refine goes_ Try.func36 (by kernel_rfl) rfl #[] (by rfl) rfl rfl (by first | (simp only [List.map_toArray, List.map_cons, List.map_nil, Act.eval, Array.getD_eq_getD_getElem?, Option.getD_some]; done) | (simp only [List.map_toArray, List.map_cons, List.map_nil, Act.eval, Array.getD_eq_getD_getElem?, Option.getD_some]; rfl)) ?_
                with_reducible refine (wharfagelaw13_given.calls  t208 t209 _ A3.out).mono ?_
                rintro e w32 ⟨v210, rfl, ho0, hb⟩
                refine ⟨_, rfl, ?_⟩
                have n0_ := Aside0.mk (Kd.N_elder' (by (with_reducible repeat (first | apply Kd.N_alloc | apply Kd.N_drewN | apply Kd.N_drew)); (first | exact HO200.out | exact Kd.N_mono HO200.out (fun _ _ => trivial) | exact Kd.R_mono HO200.out (fun _ _ => trivial))) (Kd.N_base ho0) hb)
                have n1_ := Aside0.mk (Kd.R_below (by (with_reducible repeat (first | apply Kd.R_alloc | apply Kd.R_drewN | apply Kd.R_drew)); (first | exact HO203.out | exact Kd.N_mono HO203.out (fun _ _ => trivial) | exact Kd.R_mono HO203.out (fun _ _ => trivial))) hb)
                have n2_ := Aside0.mk (Kd.R_below (by (with_reducible repeat (first | apply Kd.R_alloc | apply Kd.R_drewN | apply Kd.R_drew)); (first | exact HO206.out | exact Kd.N_mono HO206.out (fun _ _ => trivial) | exact Kd.R_mono HO206.out (fun _ _ => trivial))) hb)
                have n3_ := Aside0.mk (Kd.N_lower (Kd.N_mono (ok' := fun k_ => some k_ ≠ (v199 : Value).ownBlock ∧ some k_ ≠ (v202 : Value).ownBlock ∧ some k_ ≠ (v205 : Value).ownBlock ∧ k_ ≠ gb196) ho0 (fun k_ hk_ => ⟨(Kd.fresh' (Kd.N_lt (by (with_reducible repeat (first | apply Kd.N_alloc | apply Kd.N_drewN | apply Kd.N_drew)); (first | exact HO200.out | exact Kd.N_mono HO200.out (fun _ _ => trivial) | exact Kd.R_mono HO200.out (fun _ _ => trivial)))) k_ hk_), (Kd.fresh' (Kd.R_lt (by (with_reducible repeat (first | apply Kd.R_alloc | apply Kd.R_drewN | apply Kd.R_drew)); (first | exact HO203.out | exact Kd.N_mono HO203.out (fun _ _ => trivial) | exact Kd.R_mono HO203.out (fun _ _ => trivial)))) k_ hk_), (Kd.fresh' (Kd.R_lt (by (with_reducible repeat (first | apply Kd.R_alloc | apply Kd.R_drewN | apply Kd.R_drew)); (first | exact HO206.out | exact Kd.N_mono HO206.out (fun _ _ => trivial) | exact Kd.R_mono HO206.out (fun _ _ => trivial)))) k_ hk_), (Kd.freshB (g := gb196) (o := .cells #[.bool true, .int .i64 0] 67 (0, 0)) (by (with_reducible repeat (first | refine blk_drewN ?_ _ | refine blk_drew ?_ | refine blk_alloc ?_ _)); exact BK196.out) k_ hk_)⟩)) (below_size (by repeat (first | (with_reducible first | exact HB.out | apply below_alloc | apply pw_below_drewN | apply below_drew1 | refine below_set ?_ GE196.out) | exact HB.out))))
                have n4_ := Aside0.mk (blk_below (g := gb196) (o := .cells #[.bool true, .int .i64 0] 67 (0, 0)) (by (with_reducible repeat (first | refine blk_drewN ?_ _ | refine blk_drew ?_ | refine blk_alloc ?_ _)); exact BK196.out) hb)
                have n5_ := Aside0.mk (below_step (by repeat (first | (with_reducible first | exact HB.out | apply below_alloc | apply pw_below_drewN | apply below_drew1 | refine below_set ?_ GE196.out) | exact HB.out)) hb)
                have z_HO214 := fun (h0_ : b 5 = true) => (show Kd.R k67 67 w32 w.heap.size (fun _ => True) v213 y212 from by first | exact (Kd.R_below (by (with_reducible repeat (first | apply Kd.R_alloc | apply Kd.R_drewN | apply Kd.R_drew)); exact (Q_HO214 h0_)) hb) | exact Kd.R_mono (Kd.R_below (by (with_reducible repeat (first | apply Kd.R_alloc | apply Kd.R_drewN | apply Kd.R_drew)); exact (Q_HO214 h0_)) hb) (fun _ h_ => by first | trivial | exact h_ | exact h_.1))
                clear HO200
                clear HO203
                clear HO206
                clear BK196
                clear HB
                have HO200 := n0_
                have HO203 := n1_
                have HO206 := n2_
                have HO211 := n3_
                have BK196 := n4_
                have HB := n5_
                clear n0_ n1_ n2_ n3_ n4_ n5_
                (try clear hb)
                (try clear hb2)
                (try clear hk)
                (try clear hi)
                (try clear ho0)
                refine hK.out _ _ ⟨v210, v213, v216, (.agg #[.int .i64 t208, v210]), m6_, m7_, m8_, m10_, (by rw [ha.out]; exact putSel_upk 0 hb_ rfl rfl rfl), (by (with_reducible repeat (first | apply Kd.N_alloc | apply Kd.N_drewN | apply Kd.N_drew)); exact Kd.N_mono HO200.out (fun _ hk => by first | trivial | exact ⟨hk.1.1, ⟨hk.1.2.1, ⟨hk.2, hk.1.2.2⟩⟩⟩ | exact hk | exact hk.1 | exact hk.2 | exact ⟨hk.1.1, hk.2⟩ | exact ⟨hk.1.1, hk.1.2⟩ | simp_all)), (by (with_reducible repeat (first | apply Kd.R_alloc | apply Kd.R_drewN | apply Kd.R_drew)); (first | exact HO203.out | exact Kd.N_mono HO203.out (fun _ _ => trivial) | exact Kd.R_mono HO203.out (fun _ _ => trivial))), (by (with_reducible repeat (first | apply Kd.R_alloc | apply Kd.R_drewN | apply Kd.R_drew)); (first | exact HO206.out | exact Kd.N_mono HO206.out (fun _ _ => trivial) | exact Kd.R_mono HO206.out (fun _ _ => trivial))), (by (with_reducible repeat (first | refine blk_drewN ?_ _ | refine blk_drew ?_ | refine blk_alloc ?_ _)); exact BK196.out), (by repeat (first | (with_reducible first | exact HB.out | apply below_alloc | apply pw_below_drewN | apply below_drew1 | refine below_set ?_ GE196.out) | exact HB.out)), fun _ => (by (with_reducible repeat (first | apply Kd.N_alloc | apply Kd.N_drewN | apply Kd.N_drew)); (first | exact HO211.out | exact Kd.N_mono HO211.out (fun _ _ => trivial) | exact Kd.R_mono HO211.out (fun _ _ => trivial))), z_HO214, fun h0_ => absurd ((hoff 6 (by kernel_rfl)).symm.trans h0_) (by decide), fun _ => rfl, fun h0_ => absurd ((hoff 6 (by kernel_rfl)).symm.trans h0_) (by decide), fun h0_ => absurd ((hoff 7 (by kernel_rfl)).symm.trans h0_) (by decide), fun h0_ => absurd ((hoff 8 (by kernel_rfl)).symm.trans h0_) (by decide), fun h0_ => absurd ((hoff 10 (by kernel_rfl)).symm.trans h0_) (by decide)⟩
              refine steps_cons ?_ ?_
              · rintro b a w' ⟨v210, v213, v216, m0_, m6_, m7_, m8_, m10_, ha, Q_HO200, Q_HO203, Q_HO206, Q_BK196, Q_HB, Q_HO211, Q_HO214, Q_HO217, Q_X0_, Q_X6_, Q_X7_, Q_X8_, Q_X10_⟩ hb_ hon hoff
                refine ⟨_, rfl, fun K hK => ?_⟩
                have e1 : a.tmps[1]? = some (.pointer (some ⟨gb196, 0, none⟩)) := by rw [ha]; exact (putSel_off rfl).trans rfl
                replace ha := Aside0.mk ha
                have HO200 := Aside0.mk Q_HO200
                have HO203 := Aside0.mk Q_HO203
                have HO206 := Aside0.mk Q_HO206
                have BK196 := Aside0.mk Q_BK196
                have HB := Aside0.mk Q_HB
                have hc0_ : w'.cell? ⟨gb196, 0, none⟩ = some (.bool true) := (blk_cell BK196.out 0).trans rfl
                have hc1_ : w'.cell? ⟨gb196, 1, none⟩ = some (.int .i64 0) := (blk_cell BK196.out 1).trans rfl
                refine value_ (w1 := w') (v := .agg #[.bool true, .int .i64 0]) (by rfl) rfl ?_ ?_
                · go_simp
                  (try simp only [i64_w])
                  try rfl
                refine hK.out _ _ ⟨v210, v213, v216, m0_, m6_, m7_, m8_, m10_, (by rw [ha.out]; exact putSel_upk 1 hb_ rfl rfl rfl), Q_HO200, Q_HO203, Q_HO206, Q_BK196, Q_HB, Q_HO211, fun h0_ => absurd ((hoff 5 (by kernel_rfl)).symm.trans h0_) (by decide), fun h0_ => absurd ((hoff 6 (by kernel_rfl)).symm.trans h0_) (by decide), Q_X0_, fun h0_ => absurd ((hoff 6 (by kernel_rfl)).symm.trans h0_) (by decide), fun h0_ => absurd ((hoff 7 (by kernel_rfl)).symm.trans h0_) (by decide), fun h0_ => absurd ((hoff 8 (by kernel_rfl)).symm.trans h0_) (by decide), fun h0_ => absurd ((hoff 10 (by kernel_rfl)).symm.trans h0_) (by decide)⟩
              refine steps_cons ?_ ?_
              · rintro b a w' ⟨v210, v213, v216, m0_, m6_, m7_, m8_, m10_, ha, Q_HO200, Q_HO203, Q_HO206, Q_BK196, Q_HB, Q_HO211, Q_HO214, Q_HO217, Q_X0_, Q_X6_, Q_X7_, Q_X8_, Q_X10_⟩ hb_ hon hoff
                refine ⟨_, rfl, fun K hK => ?_⟩
                have e1 : a.tmps[1]? = some (.pointer (some ⟨gb196, 0, none⟩)) := by rw [ha]; exact (putSel_off rfl).trans rfl
                replace ha := Aside0.mk ha
                have HO200 := Aside0.mk Q_HO200
                have HO203 := Aside0.mk Q_HO203
                have HO206 := Aside0.mk Q_HO206
                have BK196 := Aside0.mk Q_BK196
                have HB := Aside0.mk Q_HB
                have hc0_ : w'.cell? ⟨gb196, 0, none⟩ = some (.bool true) := (blk_cell BK196.out 0).trans rfl
                have hc1_ : w'.cell? ⟨gb196, 1, none⟩ = some (.int .i64 0) := (blk_cell BK196.out 1).trans rfl
                refine value_ (w1 := w') (v := .agg #[.bool true, .int .i64 0]) (by rfl) rfl ?_ ?_
                · go_simp
                  (try simp only [i64_w])
                  try rfl
                refine hK.out _ _ ⟨v210, v213, v216, m0_, m6_, m7_, m8_, m10_, (by rw [ha.out]; exact putSel_upk 2 hb_ rfl rfl rfl), Q_HO200, Q_HO203, Q_HO206, Q_BK196, Q_HB, Q_HO211, fun h0_ => absurd ((hoff 5 (by kernel_rfl)).symm.trans h0_) (by decide), fun h0_ => absurd ((hoff 6 (by kernel_rfl)).symm.trans h0_) (by decide), Q_X0_, fun h0_ => absurd ((hoff 6 (by kernel_rfl)).symm.trans h0_) (by decide), fun h0_ => absurd ((hoff 7 (by kernel_rfl)).symm.trans h0_) (by decide), fun h0_ => absurd ((hoff 8 (by kernel_rfl)).symm.trans h0_) (by decide), fun h0_ => absurd ((hoff 10 (by kernel_rfl)).symm.trans h0_) (by decide)⟩
              refine steps_cons ?_ ?_
              · rintro b a w' ⟨v210, v213, v216, m0_, m6_, m7_, m8_, m10_, ha, Q_HO200, Q_HO203, Q_HO206, Q_BK196, Q_HB, Q_HO211, Q_HO214, Q_HO217, Q_X0_, Q_X6_, Q_X7_, Q_X8_, Q_X10_⟩ hb_ hon hoff
                refine ⟨_, rfl, fun K hK => ?_⟩
                have e1 : a.tmps[1]? = some (.pointer (some ⟨gb196, 0, none⟩)) := by rw [ha]; exact (putSel_off rfl).trans rfl
                replace ha := Aside0.mk ha
                have HO200 := Aside0.mk Q_HO200
                have HO203 := Aside0.mk Q_HO203
                have HO206 := Aside0.mk Q_HO206
                have BK196 := Aside0.mk Q_BK196
                have HB := Aside0.mk Q_HB
                have hc0_ : w'.cell? ⟨gb196, 0, none⟩ = some (.bool true) := (blk_cell BK196.out 0).trans rfl
                have hc1_ : w'.cell? ⟨gb196, 1, none⟩ = some (.int .i64 0) := (blk_cell BK196.out 1).trans rfl
                refine value_ (w1 := w') (v := .agg #[.bool true, .int .i64 0]) (by rfl) rfl ?_ ?_
                · go_simp
                  (try simp only [i64_w])
                  try rfl
                refine hK.out _ _ ⟨v210, v213, v216, m0_, m6_, m7_, m8_, m10_, (by rw [ha.out]; exact putSel_upk 3 hb_ rfl rfl rfl), Q_HO200, Q_HO203, Q_HO206, Q_BK196, Q_HB, Q_HO211, fun h0_ => absurd ((hoff 5 (by kernel_rfl)).symm.trans h0_) (by decide), fun h0_ => absurd ((hoff 6 (by kernel_rfl)).symm.trans h0_) (by decide), Q_X0_, fun h0_ => absurd ((hoff 6 (by kernel_rfl)).symm.trans h0_) (by decide), fun h0_ => absurd ((hoff 7 (by kernel_rfl)).symm.trans h0_) (by decide), fun h0_ => absurd ((hoff 8 (by kernel_rfl)).symm.trans h0_) (by decide), fun h0_ => absurd ((hoff 10 (by kernel_rfl)).symm.trans h0_) (by decide)⟩
              refine steps_cons ?_ ?_
              · rintro b a w' ⟨v210, v213, v216, m0_, m6_, m7_, m8_, m10_, ha, Q_HO200, Q_HO203, Q_HO206, Q_BK196, Q_HB, Q_HO211, Q_HO214, Q_HO217, Q_X0_, Q_X6_, Q_X7_, Q_X8_, Q_X10_⟩ hb_ hon hoff
                refine ⟨_, rfl, fun K hK => ?_⟩
                have e1 : a.tmps[1]? = some (.pointer (some ⟨gb196, 0, none⟩)) := by rw [ha]; exact (putSel_off rfl).trans rfl
                replace ha := Aside0.mk ha
                have HO200 := Aside0.mk Q_HO200
                have HO203 := Aside0.mk Q_HO203
                have HO206 := Aside0.mk Q_HO206
                have BK196 := Aside0.mk Q_BK196
                have HB := Aside0.mk Q_HB
                have hc0_ : w'.cell? ⟨gb196, 0, none⟩ = some (.bool true) := (blk_cell BK196.out 0).trans rfl
                have hc1_ : w'.cell? ⟨gb196, 1, none⟩ = some (.int .i64 0) := (blk_cell BK196.out 1).trans rfl
                refine value_ (w1 := w') (v := .agg #[.bool true, .int .i64 0]) (by rfl) rfl ?_ ?_
                · go_simp
                  (try simp only [i64_w])
                  try rfl
                refine hK.out _ _ ⟨v210, v213, v216, m0_, m6_, m7_, m8_, m10_, (by rw [ha.out]; exact putSel_upk 4 hb_ rfl rfl rfl), Q_HO200, Q_HO203, Q_HO206, Q_BK196, Q_HB, Q_HO211, fun h0_ => absurd ((hoff 5 (by kernel_rfl)).symm.trans h0_) (by decide), fun h0_ => absurd ((hoff 6 (by kernel_rfl)).symm.trans h0_) (by decide), Q_X0_, fun h0_ => absurd ((hoff 6 (by kernel_rfl)).symm.trans h0_) (by decide), fun h0_ => absurd ((hoff 7 (by kernel_rfl)).symm.trans h0_) (by decide), fun h0_ => absurd ((hoff 8 (by kernel_rfl)).symm.trans h0_) (by decide), fun h0_ => absurd ((hoff 10 (by kernel_rfl)).symm.trans h0_) (by decide)⟩
              refine steps_cons ?_ ?_
              · rintro b a w' ⟨v210, v213, v216, m0_, m6_, m7_, m8_, m10_, ha, Q_HO200, Q_HO203, Q_HO206, Q_BK196, Q_HB, Q_HO211, Q_HO214, Q_HO217, Q_X0_, Q_X6_, Q_X7_, Q_X8_, Q_X10_⟩ hb_ hon hoff
                refine ⟨_, rfl, fun K hK => ?_⟩
                have e22 : a.tmps[22]? = some (.agg #[.bool true, .int .i64 0]) := by rw [ha]; exact putSel_on (e := (1, 22, .agg #[.bool true, .int .i64 0])) 1 rfl rfl (hon 1 (by kernel_rfl)) rfl
                have e23 : a.tmps[23]? = some (.agg #[.bool true, .int .i64 0]) := by rw [ha]; exact putSel_on (e := (2, 23, .agg #[.bool true, .int .i64 0])) 2 rfl rfl (hon 2 (by kernel_rfl)) rfl
                have e24 : a.tmps[24]? = some (.agg #[.bool true, .int .i64 0]) := by rw [ha]; exact putSel_on (e := (3, 24, .agg #[.bool true, .int .i64 0])) 3 rfl rfl (hon 3 (by kernel_rfl)) rfl
                have e25 : a.tmps[25]? = some (.agg #[.bool true, .int .i64 0]) := by rw [ha]; exact putSel_on (e := (4, 25, .agg #[.bool true, .int .i64 0])) 4 rfl rfl (hon 4 (by kernel_rfl)) rfl
                replace ha := Aside0.mk ha
                have HO200 := Aside0.mk Q_HO200
                have HO203 := Aside0.mk Q_HO203
                have HO206 := Aside0.mk Q_HO206
                have BK196 := Aside0.mk Q_BK196
                have HB := Aside0.mk Q_HB
                refine Kd.R_lit_step k67 _ 67 ?hg (N := 26) ?hd (xs := ([(⟨true, 0⟩ : S67), (⟨true, 0⟩ : S67), (⟨true, 0⟩ : S67), (⟨true, 0⟩ : S67)] : List (S67))) (inner := [.bool true, .int .i64 0, .bool true, .int .i64 0, .bool true, .int .i64 0, .bool true, .int .i64 0]) (ok := fun _ => True) (okp := fun _ => True) ?hr ?hp (fun _ hk => by first | trivial | exact hk | exact hk | exact hk.1 | exact hk.2 | exact ⟨hk.1.1, hk.2⟩ | exact ⟨hk.1.1, hk.1.2⟩ | simp_all) trivial (Below.refl _ _) (Nat.le_refl _) (by simp) ?_; (case hd => rfl); (case hg => rfl); (case hr => first | (go_simp; done) | (go_simp; rfl)); (case hp => exact (Reps.c2 (show Kd.M k67 _ _ _ (⟨true, 0⟩ : S67) [.bool true, .int .i64 0] from (k67_mkM _ _ _ (⟨true, 0⟩ : S67) )) (Reps.c2 (show Kd.M k67 _ _ _ (⟨true, 0⟩ : S67) [.bool true, .int .i64 0] from (k67_mkM _ _ _ (⟨true, 0⟩ : S67) )) (Reps.c2 (show Kd.M k67 _ _ _ (⟨true, 0⟩ : S67) [.bool true, .int .i64 0] from (k67_mkM _ _ _ (⟨true, 0⟩ : S67) )) (Reps.c2 (show Kd.M k67 _ _ _ (⟨true, 0⟩ : S67) [.bool true, .int .i64 0] from (k67_mkM _ _ _ (⟨true, 0⟩ : S67) )) (Reps.none _ _))))))
                intro v213 w32 ho33 hb hg_ hnew_
                clear hg_ hnew_
                (first | rw [← Ny212.out] at ho33 | (simp only [Int.reduceToNat] at ho33; rw [← Ny212.out] at ho33))
                have n0_ := Aside0.mk (Kd.N_elder' (by (with_reducible repeat (first | apply Kd.N_alloc | apply Kd.N_drewN | apply Kd.N_drew)); (first | exact HO200.out | exact Kd.N_mono HO200.out (fun _ _ => trivial) | exact Kd.R_mono HO200.out (fun _ _ => trivial))) (Kd.R_base ho33) hb)
                have n1_ := Aside0.mk (Kd.R_elder' (by (with_reducible repeat (first | apply Kd.R_alloc | apply Kd.R_drewN | apply Kd.R_drew)); (first | exact HO203.out | exact Kd.N_mono HO203.out (fun _ _ => trivial) | exact Kd.R_mono HO203.out (fun _ _ => trivial))) (Kd.R_base ho33) hb)
                have n2_ := Aside0.mk (Kd.R_below (by (with_reducible repeat (first | apply Kd.R_alloc | apply Kd.R_drewN | apply Kd.R_drew)); (first | exact HO206.out | exact Kd.N_mono HO206.out (fun _ _ => trivial) | exact Kd.R_mono HO206.out (fun _ _ => trivial))) hb)
                have n3_ := Aside0.mk (Kd.R_lower (Kd.R_newB (Kd.R_new' ho33 (Kd.R_lt (by (with_reducible repeat (first | apply Kd.R_alloc | apply Kd.R_drewN | apply Kd.R_drew)); (first | exact HO203.out | exact Kd.N_mono HO203.out (fun _ _ => trivial) | exact Kd.R_mono HO203.out (fun _ _ => trivial))))) (g := gb196) (o := .cells #[.bool true, .int .i64 0] 67 (0, 0)) (by (with_reducible repeat (first | refine blk_drewN ?_ _ | refine blk_drew ?_ | refine blk_alloc ?_ _)); exact BK196.out)) (below_size (by repeat (first | (with_reducible first | exact HB.out | apply below_alloc | apply pw_below_drewN | apply below_drew1 | refine below_set ?_ GE196.out) | exact HB.out))))
                have n4_ := Aside0.mk (blk_below (g := gb196) (o := .cells #[.bool true, .int .i64 0] 67 (0, 0)) (by (with_reducible repeat (first | refine blk_drewN ?_ _ | refine blk_drew ?_ | refine blk_alloc ?_ _)); exact BK196.out) hb)
                have n5_ := Aside0.mk (below_step (by repeat (first | (with_reducible first | exact HB.out | apply below_alloc | apply pw_below_drewN | apply below_drew1 | refine below_set ?_ GE196.out) | exact HB.out)) hb)
                have z_HO211 := fun (h0_ : b 0 = true) => (show Kd.N k70 70 w32 w.heap.size (fun _ => True) v210 t209 from by first | exact (Kd.N_elder' (by (with_reducible repeat (first | apply Kd.N_alloc | apply Kd.N_drewN | apply Kd.N_drew)); exact (Q_HO211 h0_)) (Kd.R_base ho33) hb) | exact Kd.N_mono (Kd.N_elder' (by (with_reducible repeat (first | apply Kd.N_alloc | apply Kd.N_drewN | apply Kd.N_drew)); exact (Q_HO211 h0_)) (Kd.R_base ho33) hb) (fun _ h_ => by first | trivial | exact h_ | exact h_.1))
                clear HO200
                clear HO203
                clear HO206
                clear BK196
                clear HB
                have HO200 := n0_
                have HO203 := n1_
                have HO206 := n2_
                have HO214 := n3_
                have BK196 := n4_
                have HB := n5_
                clear n0_ n1_ n2_ n3_ n4_ n5_
                clear hb ho33
                refine hK.out _ _ ⟨v210, v213, v216, m0_, m6_, m7_, m8_, m10_, (by rw [ha.out]; exact putSel_upk 5 hb_ rfl rfl rfl), (by (with_reducible repeat (first | apply Kd.N_alloc | apply Kd.N_drewN | apply Kd.N_drew)); exact Kd.N_mono HO200.out (fun _ hk => by first | trivial | exact ⟨hk.1.1, ⟨hk.1.2.1, ⟨hk.2, hk.1.2.2⟩⟩⟩ | exact hk | exact hk.1 | exact hk.2 | exact ⟨hk.1.1, hk.2⟩ | exact ⟨hk.1.1, hk.1.2⟩ | simp_all)), (by (with_reducible repeat (first | apply Kd.R_alloc | apply Kd.R_drewN | apply Kd.R_drew)); exact Kd.R_mono HO203.out (fun _ hk => by first | trivial | exact ⟨hk.2, hk.1⟩ | exact hk | exact hk.1 | exact hk.2 | exact ⟨hk.1.1, hk.2⟩ | exact ⟨hk.1.1, hk.1.2⟩ | simp_all)), (by (with_reducible repeat (first | apply Kd.R_alloc | apply Kd.R_drewN | apply Kd.R_drew)); (first | exact HO206.out | exact Kd.N_mono HO206.out (fun _ _ => trivial) | exact Kd.R_mono HO206.out (fun _ _ => trivial))), (by (with_reducible repeat (first | refine blk_drewN ?_ _ | refine blk_drew ?_ | refine blk_alloc ?_ _)); exact BK196.out), (by repeat (first | (with_reducible first | exact HB.out | apply below_alloc | apply pw_below_drewN | apply below_drew1 | refine below_set ?_ GE196.out) | exact HB.out)), z_HO211, fun _ => (by (with_reducible repeat (first | apply Kd.R_alloc | apply Kd.R_drewN | apply Kd.R_drew)); exact Kd.R_mono HO214.out (fun _ hk => by first | trivial | exact ⟨hk.1.2, hk.2⟩ | exact hk | exact hk.1 | exact hk.2 | exact ⟨hk.1.1, hk.2⟩ | exact ⟨hk.1.1, hk.1.2⟩ | simp_all)), fun h0_ => absurd ((hoff 6 (by kernel_rfl)).symm.trans h0_) (by decide), Q_X0_, fun h0_ => absurd ((hoff 6 (by kernel_rfl)).symm.trans h0_) (by decide), fun h0_ => absurd ((hoff 7 (by kernel_rfl)).symm.trans h0_) (by decide), fun h0_ => absurd ((hoff 8 (by kernel_rfl)).symm.trans h0_) (by decide), fun h0_ => absurd ((hoff 10 (by kernel_rfl)).symm.trans h0_) (by decide)⟩
              refine steps_cons ?_ ?_
              · rintro b a w' ⟨v210, v213, v216, m0_, m6_, m7_, m8_, m10_, ha, Q_HO200, Q_HO203, Q_HO206, Q_BK196, Q_HB, Q_HO211, Q_HO214, Q_HO217, Q_X0_, Q_X6_, Q_X7_, Q_X8_, Q_X10_⟩ hb_ hon hoff
                refine ⟨_, rfl, fun K hK => ?_⟩
                have e21 : a.tmps[21]? = some (m0_) := by rw [ha]; exact putSel_on (e := (0, 21, m0_)) 0 rfl rfl (hon 0 (by kernel_rfl)) rfl
                rw [Q_X0_ (hon 0 (by kernel_rfl))] at e21
                have e26 : a.tmps[26]? = some (v213) := by rw [ha]; exact putSel_on (e := (5, 26, v213)) 5 rfl rfl (hon 5 (by kernel_rfl)) rfl
                replace ha := Aside0.mk ha
                have HO200 := Aside0.mk Q_HO200
                have HO203 := Aside0.mk Q_HO203
                have HO206 := Aside0.mk Q_HO206
                have BK196 := Aside0.mk Q_BK196
                have HB := Aside0.mk Q_HB
                have HO211 := Aside0.mk (Q_HO211 (hon 0 (by kernel_rfl)))
                have HO214 := Aside0.mk (Q_HO214 (hon 5 (by kernel_rfl)))
                obtain ⟨Ao36, co36, eo36⟩ := Kd.N_slice HO211.out
                (first | subst eo36 | (injection eo36 with f1_ f2_ f3_; have f4_ := f1_.symm; have f5_ := f3_.symm; clear f1_ f2_ f3_; subst f4_; subst f5_))
                obtain ⟨Ao37, co37, eo37⟩ := Kd.R_slice HO214.out
                (first | subst eo37 | (injection eo37 with f1_ f2_ f3_; have f4_ := f1_.symm; have f5_ := f3_.symm; clear f1_ f2_ f3_; subst f4_; subst f5_))
                refine goes_ Try.func29 (by kernel_rfl) rfl #[.agg #[.int .i64 t208, .slice Ao36 t209.length co36], .int .i64 0, .slice Ao37 y212.length co37] (by rfl) rfl rfl (by first | (simp only [List.map_toArray, List.map_cons, List.map_nil, Act.eval, Array.getD_eq_getD_getElem?, Option.getD_some, e21, e26]; done) | (simp only [List.map_toArray, List.map_cons, List.map_nil, Act.eval, Array.getD_eq_getD_getElem?, Option.getD_some, e21, e26]; rfl)) ?_
                with_reducible refine (cand_Backs.calls t208 _ _ t209 0 _ _ y212 t215 t218 _ ?side1 ?side2 ?side3 ?side4 A4.out).mono ?_
                (case side1 => repeat (first | exact (Kd.N_reads' HO211.out).2.2 | (with_reducible refine Kd.C_alloc ?_ _) | (with_reducible refine Kd.C_drewN ?_ _) | (with_reducible refine Kd.C_drew ?_)))
                (case side2 => exact (Kd.N_reads' HO211.out).2.1)
                (case side3 => repeat (first | exact (Kd.R_reads' HO214.out).2.2 | (with_reducible refine Kd.C_alloc ?_ _) | (with_reducible refine Kd.C_drewN ?_ _) | (with_reducible refine Kd.C_drew ?_)))
                (case side4 => exact (Kd.R_reads' HO214.out).2.1)
                rintro e w38 ⟨v216, rfl, ho0, hb⟩
                refine ⟨_, rfl, ?_⟩
                have n0_ := Aside0.mk (Kd.N_elder' (by (with_reducible repeat (first | apply Kd.N_alloc | apply Kd.N_drewN | apply Kd.N_drew)); (first | exact HO200.out | exact Kd.N_mono HO200.out (fun _ _ => trivial) | exact Kd.R_mono HO200.out (fun _ _ => trivial))) (Kd.R_base ho0) hb)
                have n1_ := Aside0.mk (Kd.R_below (by (with_reducible repeat (first | apply Kd.R_alloc | apply Kd.R_drewN | apply Kd.R_drew)); (first | exact HO203.out | exact Kd.N_mono HO203.out (fun _ _ => trivial) | exact Kd.R_mono HO203.out (fun _ _ => trivial))) hb)
                have n2_ := Aside0.mk (Kd.R_elder' (by (with_reducible repeat (first | apply Kd.R_alloc | apply Kd.R_drewN | apply Kd.R_drew)); (first | exact HO206.out | exact Kd.N_mono HO206.out (fun _ _ => trivial) | exact Kd.R_mono HO206.out (fun _ _ => trivial))) (Kd.R_base ho0) hb)
                have n3_ := Aside0.mk (Kd.N_elder' (by (with_reducible repeat (first | apply Kd.N_alloc | apply Kd.N_drewN | apply Kd.N_drew)); (first | exact HO211.out | exact Kd.N_mono HO211.out (fun _ _ => trivial) | exact Kd.R_mono HO211.out (fun _ _ => trivial))) (Kd.R_base ho0) hb)
                have n4_ := Aside0.mk (Kd.R_below (by (with_reducible repeat (first | apply Kd.R_alloc | apply Kd.R_drewN | apply Kd.R_drew)); (first | exact HO214.out | exact Kd.N_mono HO214.out (fun _ _ => trivial) | exact Kd.R_mono HO214.out (fun _ _ => trivial))) hb)
                have n5_ := Aside0.mk (Kd.R_lower (Kd.R_new' ho0 (Kd.R_lt (by (with_reducible repeat (first | apply Kd.R_alloc | apply Kd.R_drewN | apply Kd.R_drew)); (first | exact HO206.out | exact Kd.N_mono HO206.out (fun _ _ => trivial) | exact Kd.R_mono HO206.out (fun _ _ => trivial))))) (below_size (by repeat (first | (with_reducible first | exact HB.out | apply below_alloc | apply pw_below_drewN | apply below_drew1 | refine below_set ?_ GE196.out) | exact HB.out))))
                have n6_ := Aside0.mk (blk_below (g := gb196) (o := .cells #[.bool true, .int .i64 0] 67 (0, 0)) (by (with_reducible repeat (first | refine blk_drewN ?_ _ | refine blk_drew ?_ | refine blk_alloc ?_ _)); exact BK196.out) hb)
                have n7_ := Aside0.mk (below_step (by repeat (first | (with_reducible first | exact HB.out | apply below_alloc | apply pw_below_drewN | apply below_drew1 | refine below_set ?_ GE196.out) | exact HB.out)) hb)
                clear HO200
                clear HO203
                clear HO206
                clear HO211
                clear HO214
                clear BK196
                clear HB
                have HO200 := n0_
                have HO203 := n1_
                have HO206 := n2_
                have HO211 := n3_
                have HO214 := n4_
                have HO217 := n5_
                have BK196 := n6_
                have HB := n7_
                clear n0_ n1_ n2_ n3_ n4_ n5_ n6_ n7_
                (try clear hb)
                (try clear hb2)
                (try clear hk)
                (try clear hi)
                (try clear ho0)
                refine hK.out _ _ ⟨.slice Ao36 t209.length co36, .slice Ao37 y212.length co37, v216, m0_, (.tuple #[v216, .int .i64 t218]), m7_, m8_, m10_, (by rw [ha.out]; exact putSel_upk 6 hb_ rfl rfl rfl), (by (with_reducible repeat (first | apply Kd.N_alloc | apply Kd.N_drewN | apply Kd.N_drew)); exact Kd.N_mono HO200.out (fun _ hk => by first | trivial | exact ⟨hk.1.1, ⟨hk.1.2.1, ⟨hk.1.2.2.1, ⟨hk.1.2.2.2.1, ⟨hk.2, hk.1.2.2.2.2⟩⟩⟩⟩⟩ | exact hk | exact hk.1 | exact hk.2 | exact ⟨hk.1.1, hk.2⟩ | exact ⟨hk.1.1, hk.1.2⟩ | simp_all)), (by (with_reducible repeat (first | apply Kd.R_alloc | apply Kd.R_drewN | apply Kd.R_drew)); (first | exact HO203.out | exact Kd.N_mono HO203.out (fun _ _ => trivial) | exact Kd.R_mono HO203.out (fun _ _ => trivial))), (by (with_reducible repeat (first | apply Kd.R_alloc | apply Kd.R_drewN | apply Kd.R_drew)); exact Kd.R_mono HO206.out (fun _ hk => by first | trivial | exact hk.2 | exact hk | exact hk.1 | exact hk.2 | exact ⟨hk.1.1, hk.2⟩ | exact ⟨hk.1.1, hk.1.2⟩ | simp_all)), (by (with_reducible repeat (first | refine blk_drewN ?_ _ | refine blk_drew ?_ | refine blk_alloc ?_ _)); exact BK196.out), (by repeat (first | (with_reducible first | exact HB.out | apply below_alloc | apply pw_below_drewN | apply below_drew1 | refine below_set ?_ GE196.out) | exact HB.out)), fun _ => (by (with_reducible repeat (first | apply Kd.N_alloc | apply Kd.N_drewN | apply Kd.N_drew)); exact Kd.N_mono HO211.out (fun _ hk => by first | trivial | exact ⟨hk.1.1, ⟨hk.1.2.1, ⟨hk.1.2.2.1, ⟨hk.1.2.2.2.1, ⟨hk.2, hk.1.2.2.2.2⟩⟩⟩⟩⟩ | exact hk | exact hk.1 | exact hk.2 | exact ⟨hk.1.1, hk.2⟩ | exact ⟨hk.1.1, hk.1.2⟩ | simp_all)), fun _ => (by (with_reducible repeat (first | apply Kd.R_alloc | apply Kd.R_drewN | apply Kd.R_drew)); (first | exact HO214.out | exact Kd.N_mono HO214.out (fun _ _ => trivial) | exact Kd.R_mono HO214.out (fun _ _ => trivial))), fun _ => (by (with_reducible repeat (first | apply Kd.R_alloc | apply Kd.R_drewN | apply Kd.R_drew)); exact Kd.R_mono HO217.out (fun _ hk => by first | trivial | exact hk.2 | exact hk | exact hk.1 | exact hk.2 | exact ⟨hk.1.1, hk.2⟩ | exact ⟨hk.1.1, hk.1.2⟩ | simp_all)), Q_X0_, fun _ => rfl, fun h0_ => absurd ((hoff 7 (by kernel_rfl)).symm.trans h0_) (by decide), fun h0_ => absurd ((hoff 8 (by kernel_rfl)).symm.trans h0_) (by decide), fun h0_ => absurd ((hoff 10 (by kernel_rfl)).symm.trans h0_) (by decide)⟩
              refine steps_cons ?_ ?_
              · rintro b a w' ⟨v210, v213, v216, m0_, m6_, m7_, m8_, m10_, ha, Q_HO200, Q_HO203, Q_HO206, Q_BK196, Q_HB, Q_HO211, Q_HO214, Q_HO217, Q_X0_, Q_X6_, Q_X7_, Q_X8_, Q_X10_⟩ hb_ hon hoff
                refine ⟨_, rfl, fun K hK => ?_⟩
                have e27 : a.tmps[27]? = some (m6_) := by rw [ha]; exact putSel_on (e := (6, 27, m6_)) 6 rfl rfl (hon 6 (by kernel_rfl)) rfl
                rw [Q_X6_ (hon 6 (by kernel_rfl))] at e27
                replace ha := Aside0.mk ha
                have HO200 := Aside0.mk Q_HO200
                have HO203 := Aside0.mk Q_HO203
                have HO206 := Aside0.mk Q_HO206
                have BK196 := Aside0.mk Q_BK196
                have HB := Aside0.mk Q_HB
                have HO211 := Aside0.mk (Q_HO211 (hon 0 (by kernel_rfl)))
                have HO214 := Aside0.mk (Q_HO214 (hon 5 (by kernel_rfl)))
                have HO217 := Aside0.mk (Q_HO217 (hon 6 (by kernel_rfl)))
                refine value_ (w1 := w') (v := .tuple #[v216, .int .i64 t218]) (by rfl) rfl ?_ ?_
                · go_simp
                  (try simp only [i64_w])
                  try rfl
                refine hK.out _ _ ⟨v210, v213, v216, m0_, m6_, (.tuple #[v216, .int .i64 t218]), m8_, m10_, (by rw [ha.out]; exact putSel_upk 7 hb_ rfl rfl rfl), Q_HO200, Q_HO203, Q_HO206, Q_BK196, Q_HB, Q_HO211, Q_HO214, Q_HO217, Q_X0_, Q_X6_, fun _ => rfl, fun h0_ => absurd ((hoff 8 (by kernel_rfl)).symm.trans h0_) (by decide), fun h0_ => absurd ((hoff 10 (by kernel_rfl)).symm.trans h0_) (by decide)⟩
              refine steps_cons ?_ ?_
              · rintro b a w' ⟨v210, v213, v216, m0_, m6_, m7_, m8_, m10_, ha, Q_HO200, Q_HO203, Q_HO206, Q_BK196, Q_HB, Q_HO211, Q_HO214, Q_HO217, Q_X0_, Q_X6_, Q_X7_, Q_X8_, Q_X10_⟩ hb_ hon hoff
                refine ⟨_, rfl, fun K hK => ?_⟩
                have e20 : a.tmps[20]? = some (m7_) := by rw [ha]; exact putSel_on (e := (7, 20, m7_)) 7 rfl rfl (hon 7 (by kernel_rfl)) rfl
                rw [Q_X7_ (hon 7 (by kernel_rfl))] at e20
                replace ha := Aside0.mk ha
                have HO200 := Aside0.mk Q_HO200
                have HO203 := Aside0.mk Q_HO203
                have HO206 := Aside0.mk Q_HO206
                have BK196 := Aside0.mk Q_BK196
                have HB := Aside0.mk Q_HB
                have HO211 := Aside0.mk (Q_HO211 (hon 0 (by kernel_rfl)))
                have HO214 := Aside0.mk (Q_HO214 (hon 5 (by kernel_rfl)))
                have HO217 := Aside0.mk (Q_HO217 (hon 6 (by kernel_rfl)))
                obtain ⟨Ao8_0, co8_0, eo_⟩ := Kd.R_slice HO217.out
                subst eo_
                refine value_ (w1 := w') (v := .slice Ao8_0 t215.length co8_0) (by rfl) rfl ?_ ?_
                · go_simp
                  (try simp only [i64_w])
                  try rfl
                refine hK.out _ _ ⟨v210, v213, .slice Ao8_0 t215.length co8_0, m0_, m6_, m7_, (.slice Ao8_0 t215.length co8_0), m10_, (by rw [ha.out]; exact putSel_upk 8 hb_ rfl rfl rfl), Q_HO200, Q_HO203, Q_HO206, Q_BK196, Q_HB, Q_HO211, Q_HO214, Q_HO217, Q_X0_, Q_X6_, Q_X7_, fun _ => rfl, fun h0_ => absurd ((hoff 10 (by kernel_rfl)).symm.trans h0_) (by decide)⟩
              refine steps_cons ?_ ?_
              · rintro b a w' ⟨v210, v213, v216, m0_, m6_, m7_, m8_, m10_, ha, Q_HO200, Q_HO203, Q_HO206, Q_BK196, Q_HB, Q_HO211, Q_HO214, Q_HO217, Q_X0_, Q_X6_, Q_X7_, Q_X8_, Q_X10_⟩ hb_ hon hoff
                refine ⟨_, rfl, fun K hK => ?_⟩
                have e20 : a.tmps[20]? = some (m7_) := by rw [ha]; exact putSel_on (e := (7, 20, m7_)) 7 rfl rfl (hon 7 (by kernel_rfl)) rfl
                rw [Q_X7_ (hon 7 (by kernel_rfl))] at e20
                replace ha := Aside0.mk ha
                have HO200 := Aside0.mk Q_HO200
                have HO203 := Aside0.mk Q_HO203
                have HO206 := Aside0.mk Q_HO206
                have BK196 := Aside0.mk Q_BK196
                have HB := Aside0.mk Q_HB
                have HO211 := Aside0.mk (Q_HO211 (hon 0 (by kernel_rfl)))
                have HO214 := Aside0.mk (Q_HO214 (hon 5 (by kernel_rfl)))
                have HO217 := Aside0.mk (Q_HO217 (hon 6 (by kernel_rfl)))
                obtain ⟨Ao9_0, co9_0, eo_⟩ := Kd.R_slice HO217.out
                subst eo_
                refine value_ (w1 := w') (v := .int .i64 t218) (by rfl) rfl ?_ ?_
                · go_simp
                  (try simp only [i64_w])
                  try rfl
                refine hK.out _ _ ⟨v210, v213, .slice Ao9_0 t215.length co9_0, m0_, m6_, m7_, m8_, m10_, (by rw [ha.out]; exact putSel_upk 9 hb_ rfl rfl rfl), Q_HO200, Q_HO203, Q_HO206, Q_BK196, Q_HB, Q_HO211, Q_HO214, Q_HO217, Q_X0_, Q_X6_, Q_X7_, Q_X8_, Q_X10_⟩
              refine steps_cons ?_ ?_
              · rintro b a w' ⟨v210, v213, v216, m0_, m6_, m7_, m8_, m10_, ha, Q_HO200, Q_HO203, Q_HO206, Q_BK196, Q_HB, Q_HO211, Q_HO214, Q_HO217, Q_X0_, Q_X6_, Q_X7_, Q_X8_, Q_X10_⟩ hb_ hon hoff
                refine ⟨_, rfl, fun K hK => ?_⟩
                have e28 : a.tmps[28]? = some (m8_) := by rw [ha]; exact putSel_on (e := (8, 28, m8_)) 8 rfl rfl (hon 8 (by kernel_rfl)) rfl
                rw [Q_X8_ (hon 8 (by kernel_rfl))] at e28
                replace ha := Aside0.mk ha
                have HO200 := Aside0.mk Q_HO200
                have HO203 := Aside0.mk Q_HO203
                have HO206 := Aside0.mk Q_HO206
                have BK196 := Aside0.mk Q_BK196
                have HB := Aside0.mk Q_HB
                have HO211 := Aside0.mk (Q_HO211 (hon 0 (by kernel_rfl)))
                have HO214 := Aside0.mk (Q_HO214 (hon 5 (by kernel_rfl)))
                have HO217 := Aside0.mk (Q_HO217 (hon 6 (by kernel_rfl)))
                refine value_ (w1 := w') (v := v216) (by rfl) rfl ?_ ?_
                · go_simp
                  (try simp only [i64_w])
                  try rfl
                refine hK.out _ _ ⟨v210, v213, v216, m0_, m6_, m7_, m8_, (v216), (by rw [ha.out]; exact putSel_upk 10 hb_ rfl rfl rfl), Q_HO200, Q_HO203, Q_HO206, Q_BK196, Q_HB, Q_HO211, Q_HO214, Q_HO217, Q_X0_, Q_X6_, Q_X7_, Q_X8_, fun _ => rfl⟩
              refine steps_cons ?_ ?_
              · rintro b a w' ⟨v210, v213, v216, m0_, m6_, m7_, m8_, m10_, ha, Q_HO200, Q_HO203, Q_HO206, Q_BK196, Q_HB, Q_HO211, Q_HO214, Q_HO217, Q_X0_, Q_X6_, Q_X7_, Q_X8_, Q_X10_⟩ hb_ hon hoff
                refine ⟨_, rfl, fun K hK => ?_⟩
                have e29 : a.tmps[29]? = some (.int .i64 t218) := by rw [ha]; exact putSel_on (e := (9, 29, .int .i64 t218)) 9 rfl rfl (hon 9 (by kernel_rfl)) rfl
                replace ha := Aside0.mk ha
                have HO200 := Aside0.mk Q_HO200
                have HO203 := Aside0.mk Q_HO203
                have HO206 := Aside0.mk Q_HO206
                have BK196 := Aside0.mk Q_BK196
                have HB := Aside0.mk Q_HB
                have HO211 := Aside0.mk (Q_HO211 (hon 0 (by kernel_rfl)))
                have HO214 := Aside0.mk (Q_HO214 (hon 5 (by kernel_rfl)))
                have HO217 := Aside0.mk (Q_HO217 (hon 6 (by kernel_rfl)))
                refine value_ (w1 := w') (v := .int .i64 t218) (by rfl) rfl ?_ ?_
                · go_simp
                  (try simp only [i64_w])
                  try rfl
                refine hK.out _ _ ⟨v210, v213, v216, m0_, m6_, m7_, m8_, m10_, (by rw [ha.out]; exact putSel_upk 11 hb_ rfl rfl rfl), Q_HO200, Q_HO203, Q_HO206, Q_BK196, Q_HB, Q_HO211, Q_HO214, Q_HO217, Q_X0_, Q_X6_, Q_X7_, Q_X8_, Q_X10_⟩
              exact steps_nil
            rintro b a w38 hall ⟨v210, v213, v216, m0_, m6_, m7_, m8_, m10_, ha, Q_HO200, Q_HO203, Q_HO206, Q_BK196, Q_HB, Q_HO211, Q_HO214, Q_HO217, Q_X0_, Q_X6_, Q_X7_, Q_X8_, Q_X10_⟩
            clear BK196 HB HO200 HO203 HO206
            have hb0_ := hall 0 (by kernel_rfl)
            have hb1_ := hall 1 (by kernel_rfl)
            have hb2_ := hall 2 (by kernel_rfl)
            have hb3_ := hall 3 (by kernel_rfl)
            have hb4_ := hall 4 (by kernel_rfl)
            have hb5_ := hall 5 (by kernel_rfl)
            have hb6_ := hall 6 (by kernel_rfl)
            have hb7_ := hall 7 (by kernel_rfl)
            have hb8_ := hall 8 (by kernel_rfl)
            have hb9_ := hall 9 (by kernel_rfl)
            have hb10_ := hall 10 (by kernel_rfl)
            have hb11_ := hall 11 (by kernel_rfl)
            subst ha
            obtain rfl := (Q_X0_ hb0_).symm
            obtain rfl := (Q_X6_ hb6_).symm
            obtain rfl := (Q_X7_ hb7_).symm
            obtain rfl := (Q_X8_ hb8_).symm
            obtain rfl := (Q_X10_ hb10_).symm
            simp only [putSel, hb0_, hb1_, hb2_, hb3_, hb4_, hb5_, hb6_, hb7_, hb8_, hb9_, hb10_, hb11_, if_true, Act.put, List.setIfInBounds_toArray, List.set_cons_zero, List.set_cons_succ]
            have HO200 := Aside0.mk Q_HO200
            clear Q_HO200
            have HO203 := Aside0.mk Q_HO203
            clear Q_HO203
            have HO206 := Aside0.mk Q_HO206
            clear Q_HO206
            have BK196 := Aside0.mk Q_BK196
            clear Q_BK196
            have HB := Aside0.mk Q_HB
            clear Q_HB
            have HO211 := Aside0.mk (Q_HO211 hb0_)
            clear Q_HO211
            have HO214 := Aside0.mk (Q_HO214 hb5_)
            clear Q_HO214
            have HO217 := Aside0.mk (Q_HO217 hb6_)
            clear Q_HO217
            clear hall hb0_ hb1_ hb2_ hb3_ hb4_ hb5_ hb6_ hb7_ hb8_ hb9_ hb10_ hb11_
            try go_wp2
            have n0_ := Aside0.mk (Kd.N_drew HO200.out)
            have n1_ := Aside0.mk (Kd.R_drew HO203.out)
            have n2_ := Aside0.mk (Kd.R_drew HO206.out)
            have n3_ := Aside0.mk (Kd.N_drew HO211.out)
            have n4_ := Aside0.mk (Kd.R_drew HO214.out)
            have n5_ := Aside0.mk (Kd.R_drew HO217.out)
            have n6_ := Aside0.mk (blk_drew BK196.out)
            have n7_ := Aside0.mk (below_drew1 HB.out)
            clear HO200
            clear HO203
            clear HO206
            clear HO211
            clear HO214
            clear HO217
            clear BK196
            clear HB
            have HO200 := n0_
            have HO203 := n1_
            have HO206 := n2_
            have HO211 := n3_
            have HO214 := n4_
            have HO217 := n5_
            have BK196 := n6_
            have HB := n7_
            clear n0_ n1_ n2_ n3_ n4_ n5_ n6_ n7_
            refine start_ (n := 12) (S := fun w' => True) (ds := []) #[false, false, false, false, false, false, false, false, false, false, false, false] (by kernel_rfl) rfl rfl trivial (fun hHeld => ?_); refine with_tabW wharfagelaw13_awake.tab4 wharfagelaw13_awake.bits4 (fun HT_ HW_ => ?_)
            generalize w38.drew = w39 at HO200 HO203 HO206 HO211 HO214 HO217 BK196 HB hHeld ⊢
            refine inv_at [0, 1, 2, 3, 4, 5, 6, 7, 8, 9, 10, 11] (fun a0_ b a w' => ∃ (v221 : Value) (v224 : Value) (v227 : Value) (m0_ : Value) (m6_ : Value) (m7_ : Value) (m8_ : Value) (m10_ : Value), a = putSel a0_ b [(0, 31, m0_), (1, 32, .agg #[.bool true, .int .i64 0]), (2, 33, .agg #[.bool true, .int .i64 0]), (3, 34, .agg #[.bool true, .int .i64 0]), (4, 35, .agg #[.bool true, .int .i64 0]), (5, 36, v224), (6, 37, m6_), (7, 30, m7_), (8, 38, m8_), (9, 39, .int .i64 t229), (10, 6, m10_), (11, 7, .int .i64 t229)] ∧ (Kd.N k70 70 w' w.heap.size (fun _ => True) v199 t198) ∧ (Kd.R k67 67 w' w.heap.size (fun _ => True) v202 y201) ∧ (Kd.R k72 72 w' w.heap.size (fun _ => True) v205 t204) ∧ (Kd.N k70 70 w' w.heap.size (fun _ => True) v210 t209) ∧ (Kd.R k67 67 w' w.heap.size (fun _ => True) v213 y212) ∧ (Kd.R k72 72 w' w.heap.size (fun _ => True) v216 t215) ∧ (w'.heap[gb196]? = some (.cells #[.bool true, .int .i64 0] 67 (0, 0))) ∧ (Below w.heap.size w w') ∧ (b 0 = true → Kd.N k70 70 w' w.heap.size (fun _ => True) v221 t220) ∧ (b 5 = true → Kd.R k67 67 w' w.heap.size (fun _ => True) v224 y223) ∧ (b 6 = true → Kd.R k72 72 w' w.heap.size (fun _ => True) v227 t226) ∧ (b 0 = true → (m0_ : Value) = .agg #[.int .i64 t219, v221]) ∧ (b 6 = true → (m6_ : Value) = .tuple #[v227, .int .i64 t229]) ∧ (b 7 = true → (m7_ : Value) = .tuple #[v227, .int .i64 t229]) ∧ (b 8 = true → (m8_ : Value) = v227) ∧ (b 10 = true → (m10_ : Value) = v227)) HT_.out HW_.out (by kernel_rfl) (by kernel_rfl) ?_ ?_ ?_
            · exact ⟨.bool false, .bool false, .bool false, .bool false, .bool false, .bool false, .bool false, .bool false, by simp only [putSel, Bool.false_eq_true, if_false], (by first | (first | exact HO200.out | exact Kd.N_mono HO200.out (fun _ _ => trivial) | exact Kd.R_mono HO200.out (fun _ _ => trivial)) | exact Kd.N_mono HO200.out (fun _ _ => trivial) | exact Kd.R_mono HO200.out (fun _ _ => trivial)), (by first | (first | exact HO203.out | exact Kd.N_mono HO203.out (fun _ _ => trivial) | exact Kd.R_mono HO203.out (fun _ _ => trivial)) | exact Kd.N_mono HO203.out (fun _ _ => trivial) | exact Kd.R_mono HO203.out (fun _ _ => trivial)), (by first | (first | exact HO206.out | exact Kd.N_mono HO206.out (fun _ _ => trivial) | exact Kd.R_mono HO206.out (fun _ _ => trivial)) | exact Kd.N_mono HO206.out (fun _ _ => trivial) | exact Kd.R_mono HO206.out (fun _ _ => trivial)), (by first | (first | exact HO211.out | exact Kd.N_mono HO211.out (fun _ _ => trivial) | exact Kd.R_mono HO211.out (fun _ _ => trivial)) | exact Kd.N_mono HO211.out (fun _ _ => trivial) | exact Kd.R_mono HO211.out (fun _ _ => trivial)), (by first | (first | exact HO214.out | exact Kd.N_mono HO214.out (fun _ _ => trivial) | exact Kd.R_mono HO214.out (fun _ _ => trivial)) | exact Kd.N_mono HO214.out (fun _ _ => trivial) | exact Kd.R_mono HO214.out (fun _ _ => trivial)), (by first | (first | exact HO217.out | exact Kd.N_mono HO217.out (fun _ _ => trivial) | exact Kd.R_mono HO217.out (fun _ _ => trivial)) | exact Kd.N_mono HO217.out (fun _ _ => trivial) | exact Kd.R_mono HO217.out (fun _ _ => trivial)), BK196.out, HB.out, fun h_ => absurd h_ (by decide), fun h_ => absurd h_ (by decide), fun h_ => absurd h_ (by decide), fun h_ => absurd h_ (by decide), fun h_ => absurd h_ (by decide), fun h_ => absurd h_ (by decide), fun h_ => absurd h_ (by decide), fun h_ => absurd h_ (by decide)⟩
            · skip
              clear BK196 HB HO200 HO203 HO206 HO211 HO214 HO217
              refine steps_cons ?_ ?_
              · rintro b a w' ⟨v221, v224, v227, m0_, m6_, m7_, m8_, m10_, ha, Q_HO200, Q_HO203, Q_HO206, Q_HO211, Q_HO214, Q_HO217, Q_BK196, Q_HB, Q_HO222, Q_HO225, Q_HO228, Q_X0_, Q_X6_, Q_X7_, Q_X8_, Q_X10_⟩ hb_ hon hoff
                refine ⟨_, rfl, fun K hK => ?_⟩
                replace ha := Aside0.mk ha
                have HO200 := Aside0.mk Q_HO200
                have HO203 := Aside0.mk Q_HO203
                have HO206 := Aside0.mk Q_HO206
                have HO211 := Aside0.mk Q_HO211
                have HO214 := Aside0.mk Q_HO214
                have HO217 := Aside0.mk Q_HO217
                have BK196 := Aside0.mk Q_BK196
                have HB := Aside0.mk Q_HB
                refine goes_ Try.func36 (by kernel_rfl) rfl #[] (by rfl) rfl rfl (by first | (simp only [List.map_toArray, List.map_cons, List.map_nil, Act.eval, Array.getD_eq_getD_getElem?, Option.getD_some]; done) | (simp only [List.map_toArray, List.map_cons, List.map_nil, Act.eval, Array.getD_eq_getD_getElem?, Option.getD_some]; rfl)) ?_
                with_reducible refine (wharfagelaw13_given.calls  t219 t220 _ A5.out).mono ?_
                rintro e w40 ⟨v221, rfl, ho0, hb⟩
                refine ⟨_, rfl, ?_⟩
                have n0_ := Aside0.mk (Kd.N_elder' (by (with_reducible repeat (first | apply Kd.N_alloc | apply Kd.N_drewN | apply Kd.N_drew)); (first | exact HO200.out | exact Kd.N_mono HO200.out (fun _ _ => trivial) | exact Kd.R_mono HO200.out (fun _ _ => trivial))) (Kd.N_base ho0) hb)
                have n1_ := Aside0.mk (Kd.R_below (by (with_reducible repeat (first | apply Kd.R_alloc | apply Kd.R_drewN | apply Kd.R_drew)); (first | exact HO203.out | exact Kd.N_mono HO203.out (fun _ _ => trivial) | exact Kd.R_mono HO203.out (fun _ _ => trivial))) hb)
                have n2_ := Aside0.mk (Kd.R_below (by (with_reducible repeat (first | apply Kd.R_alloc | apply Kd.R_drewN | apply Kd.R_drew)); (first | exact HO206.out | exact Kd.N_mono HO206.out (fun _ _ => trivial) | exact Kd.R_mono HO206.out (fun _ _ => trivial))) hb)
                have n3_ := Aside0.mk (Kd.N_elder' (by (with_reducible repeat (first | apply Kd.N_alloc | apply Kd.N_drewN | apply Kd.N_drew)); (first | exact HO211.out | exact Kd.N_mono HO211.out (fun _ _ => trivial) | exact Kd.R_mono HO211.out (fun _ _ => trivial))) (Kd.N_base ho0) hb)
                have n4_ := Aside0.mk (Kd.R_below (by (with_reducible repeat (first | apply Kd.R_alloc | apply Kd.R_drewN | apply Kd.R_drew)); (first | exact HO214.out | exact Kd.N_mono HO214.out (fun _ _ => trivial) | exact Kd.R_mono HO214.out (fun _ _ => trivial))) hb)
                have n5_ := Aside0.mk (Kd.R_below (by (with_reducible repeat (first | apply Kd.R_alloc | apply Kd.R_drewN | apply Kd.R_drew)); (first | exact HO217.out | exact Kd.N_mono HO217.out (fun _ _ => trivial) | exact Kd.R_mono HO217.out (fun _ _ => trivial))) hb)
                have n6_ := Aside0.mk (Kd.N_lower (Kd.N_mono (ok' := fun k_ => some k_ ≠ (v199 : Value).ownBlock ∧ some k_ ≠ (v202 : Value).ownBlock ∧ some k_ ≠ (v205 : Value).ownBlock ∧ some k_ ≠ (v210 : Value).ownBlock ∧ some k_ ≠ (v213 : Value).ownBlock ∧ some k_ ≠ (v216 : Value).ownBlock ∧ k_ ≠ gb196) ho0 (fun k_ hk_ => ⟨(Kd.fresh' (Kd.N_lt (by (with_reducible repeat (first | apply Kd.N_alloc | apply Kd.N_drewN | apply Kd.N_drew)); (first | exact HO200.out | exact Kd.N_mono HO200.out (fun _ _ => trivial) | exact Kd.R_mono HO200.out (fun _ _ => trivial)))) k_ hk_), (Kd.fresh' (Kd.R_lt (by (with_reducible repeat (first | apply Kd.R_alloc | apply Kd.R_drewN | apply Kd.R_drew)); (first | exact HO203.out | exact Kd.N_mono HO203.out (fun _ _ => trivial) | exact Kd.R_mono HO203.out (fun _ _ => trivial)))) k_ hk_), (Kd.fresh' (Kd.R_lt (by (with_reducible repeat (first | apply Kd.R_alloc | apply Kd.R_drewN | apply Kd.R_drew)); (first | exact HO206.out | exact Kd.N_mono HO206.out (fun _ _ => trivial) | exact Kd.R_mono HO206.out (fun _ _ => trivial)))) k_ hk_), (Kd.fresh' (Kd.N_lt (by (with_reducible repeat (first | apply Kd.N_alloc | apply Kd.N_drewN | apply Kd.N_drew)); (first | exact HO211.out | exact Kd.N_mono HO211.out (fun _ _ => trivial) | exact Kd.R_mono HO211.out (fun _ _ => trivial)))) k_ hk_), (Kd.fresh' (Kd.R_lt (by (with_reducible repeat (first | apply Kd.R_alloc | apply Kd.R_drewN | apply Kd.R_drew)); (first | exact HO214.out | exact Kd.N_mono HO214.out (fun _ _ => trivial) | exact Kd.R_mono HO214.out (fun _ _ => trivial)))) k_ hk_), (Kd.fresh' (Kd.R_lt (by (with_reducible repeat (first | apply Kd.R_alloc | apply Kd.R_drewN | apply Kd.R_drew)); (first | exact HO217.out | exact Kd.N_mono HO217.out (fun _ _ => trivial) | exact Kd.R_mono HO217.out (fun _ _ => trivial)))) k_ hk_), (Kd.freshB (g := gb196) (o := .cells #[.bool true, .int .i64 0] 67 (0, 0)) (by (with_reducible repeat (first | refine blk_drewN ?_ _ | refine blk_drew ?_ | refine blk_alloc ?_ _)); exact BK196.out) k_ hk_)⟩)) (below_size (by repeat (first | (with_reducible first | exact HB.out | apply below_alloc | apply pw_below_drewN | apply below_drew1 | refine below_set ?_ GE196.out) | exact HB.out))))
                have n7_ := Aside0.mk (blk_below (g := gb196) (o := .cells #[.bool true, .int .i64 0] 67 (0, 0)) (by (with_reducible repeat (first | refine blk_drewN ?_ _ | refine blk_drew ?_ | refine blk_alloc ?_ _)); exact BK196.out) hb)
                have n8_ := Aside0.mk (below_step (by repeat (first | (with_reducible first | exact HB.out | apply below_alloc | apply pw_below_drewN | apply below_drew1 | refine below_set ?_ GE196.out) | exact HB.out)) hb)
                have z_HO225 := fun (h0_ : b 5 = true) => (show Kd.R k67 67 w40 w.heap.size (fun _ => True) v224 y223 from by first | exact (Kd.R_below (by (with_reducible repeat (first | apply Kd.R_alloc | apply Kd.R_drewN | apply Kd.R_drew)); exact (Q_HO225 h0_)) hb) | exact Kd.R_mono (Kd.R_below (by (with_reducible repeat (first | apply Kd.R_alloc | apply Kd.R_drewN | apply Kd.R_drew)); exact (Q_HO225 h0_)) hb) (fun _ h_ => by first | trivial | exact h_ | exact h_.1))
                clear HO200
                clear HO203
                clear HO206
                clear HO211
                clear HO214
                clear HO217
                clear BK196
                clear HB
                have HO200 := n0_
                have HO203 := n1_
                have HO206 := n2_
                have HO211 := n3_
                have HO214 := n4_
                have HO217 := n5_
                have HO222 := n6_
                have BK196 := n7_
                have HB := n8_
                clear n0_ n1_ n2_ n3_ n4_ n5_ n6_ n7_ n8_
                (try clear hb)
                (try clear hb2)
                (try clear hk)
                (try clear hi)
                (try clear ho0)
                refine hK.out _ _ ⟨v221, v224, v227, (.agg #[.int .i64 t219, v221]), m6_, m7_, m8_, m10_, (by rw [ha.out]; exact putSel_upk 0 hb_ rfl rfl rfl), (by (with_reducible repeat (first | apply Kd.N_alloc | apply Kd.N_drewN | apply Kd.N_drew)); exact Kd.N_mono HO200.out (fun _ hk => by first | trivial | exact ⟨hk.1.1, ⟨hk.1.2.1, ⟨hk.1.2.2.1, ⟨hk.1.2.2.2.1, ⟨hk.1.2.2.2.2.1, ⟨hk.2, hk.1.2.2.2.2.2⟩⟩⟩⟩⟩⟩ | exact hk | exact hk.1 | exact hk.2 | exact ⟨hk.1.1, hk.2⟩ | exact ⟨hk.1.1, hk.1.2⟩ | simp_all)), (by (with_reducible repeat (first | apply Kd.R_alloc | apply Kd.R_drewN | apply Kd.R_drew)); (first | exact HO203.out | exact Kd.N_mono HO203.out (fun _ _ => trivial) | exact Kd.R_mono HO203.out (fun _ _ => trivial))), (by (with_reducible repeat (first | apply Kd.R_alloc | apply Kd.R_drewN | apply Kd.R_drew)); (first | exact HO206.out | exact Kd.N_mono HO206.out (fun _ _ => trivial) | exact Kd.R_mono HO206.out (fun _ _ => trivial))), (by (with_reducible repeat (first | apply Kd.N_alloc | apply Kd.N_drewN | apply Kd.N_drew)); exact Kd.N_mono HO211.out (fun _ hk => by first | trivial | exact ⟨hk.1.1, ⟨hk.1.2.1, ⟨hk.1.2.2.1, ⟨hk.1.2.2.2.1, ⟨hk.1.2.2.2.2.1, ⟨hk.2, hk.1.2.2.2.2.2⟩⟩⟩⟩⟩⟩ | exact hk | exact hk.1 | exact hk.2 | exact ⟨hk.1.1, hk.2⟩ | exact ⟨hk.1.1, hk.1.2⟩ | simp_all)), (by (with_reducible repeat (first | apply Kd.R_alloc | apply Kd.R_drewN | apply Kd.R_drew)); (first | exact HO214.out | exact Kd.N_mono HO214.out (fun _ _ => trivial) | exact Kd.R_mono HO214.out (fun _ _ => trivial))), (by (with_reducible repeat (first | apply Kd.R_alloc | apply Kd.R_drewN | apply Kd.R_drew)); (first | exact HO217.out | exact Kd.N_mono HO217.out (fun _ _ => trivial) | exact Kd.R_mono HO217.out (fun _ _ => trivial))), (by (with_reducible repeat (first | refine blk_drewN ?_ _ | refine blk_drew ?_ | refine blk_alloc ?_ _)); exact BK196.out), (by repeat (first | (with_reducible first | exact HB.out | apply below_alloc | apply pw_below_drewN | apply below_drew1 | refine below_set ?_ GE196.out) | exact HB.out)), fun _ => (by (with_reducible repeat (first | apply Kd.N_alloc | apply Kd.N_drewN | apply Kd.N_drew)); (first | exact HO222.out | exact Kd.N_mono HO222.out (fun _ _ => trivial) | exact Kd.R_mono HO222.out (fun _ _ => trivial))), z_HO225, fun h0_ => absurd ((hoff 6 (by kernel_rfl)).symm.trans h0_) (by decide), fun _ => rfl, fun h0_ => absurd ((hoff 6 (by kernel_rfl)).symm.trans h0_) (by decide), fun h0_ => absurd ((hoff 7 (by kernel_rfl)).symm.trans h0_) (by decide), fun h0_ => absurd ((hoff 8 (by kernel_rfl)).symm.trans h0_) (by decide), fun h0_ => absurd ((hoff 10 (by kernel_rfl)).symm.trans h0_) (by decide)⟩
              refine steps_cons ?_ ?_
              · rintro b a w' ⟨v221, v224, v227, m0_, m6_, m7_, m8_, m10_, ha, Q_HO200, Q_HO203, Q_HO206, Q_HO211, Q_HO214, Q_HO217, Q_BK196, Q_HB, Q_HO222, Q_HO225, Q_HO228, Q_X0_, Q_X6_, Q_X7_, Q_X8_, Q_X10_⟩ hb_ hon hoff
                refine ⟨_, rfl, fun K hK => ?_⟩
                have e1 : a.tmps[1]? = some (.pointer (some ⟨gb196, 0, none⟩)) := by rw [ha]; exact (putSel_off rfl).trans rfl
                replace ha := Aside0.mk ha
                have HO200 := Aside0.mk Q_HO200
                have HO203 := Aside0.mk Q_HO203
                have HO206 := Aside0.mk Q_HO206
                have HO211 := Aside0.mk Q_HO211
                have HO214 := Aside0.mk Q_HO214
                have HO217 := Aside0.mk Q_HO217
                have BK196 := Aside0.mk Q_BK196
                have HB := Aside0.mk Q_HB
                have hc0_ : w'.cell? ⟨gb196, 0, none⟩ = some (.bool true) := (blk_cell BK196.out 0).trans rfl
                have hc1_ : w'.cell? ⟨gb196, 1, none⟩ = some (.int .i64 0) := (blk_cell BK196.out 1).trans rfl
                refine value_ (w1 := w') (v := .agg #[.bool true, .int .i64 0]) (by rfl) rfl ?_ ?_
                · go_simp
                  (try simp only [i64_w])
                  try rfl
                refine hK.out _ _ ⟨v221, v224, v227, m0_, m6_, m7_, m8_, m10_, (by rw [ha.out]; exact putSel_upk 1 hb_ rfl rfl rfl), Q_HO200, Q_HO203, Q_HO206, Q_HO211, Q_HO214, Q_HO217, Q_BK196, Q_HB, Q_HO222, fun h0_ => absurd ((hoff 5 (by kernel_rfl)).symm.trans h0_) (by decide), fun h0_ => absurd ((hoff 6 (by kernel_rfl)).symm.trans h0_) (by decide), Q_X0_, fun h0_ => absurd ((hoff 6 (by kernel_rfl)).symm.trans h0_) (by decide), fun h0_ => absurd ((hoff 7 (by kernel_rfl)).symm.trans h0_) (by decide), fun h0_ => absurd ((hoff 8 (by kernel_rfl)).symm.trans h0_) (by decide), fun h0_ => absurd ((hoff 10 (by kernel_rfl)).symm.trans h0_) (by decide)⟩
              refine steps_cons ?_ ?_
              · rintro b a w' ⟨v221, v224, v227, m0_, m6_, m7_, m8_, m10_, ha, Q_HO200, Q_HO203, Q_HO206, Q_HO211, Q_HO214, Q_HO217, Q_BK196, Q_HB, Q_HO222, Q_HO225, Q_HO228, Q_X0_, Q_X6_, Q_X7_, Q_X8_, Q_X10_⟩ hb_ hon hoff
                refine ⟨_, rfl, fun K hK => ?_⟩
                have e1 : a.tmps[1]? = some (.pointer (some ⟨gb196, 0, none⟩)) := by rw [ha]; exact (putSel_off rfl).trans rfl
                replace ha := Aside0.mk ha
                have HO200 := Aside0.mk Q_HO200
                have HO203 := Aside0.mk Q_HO203
                have HO206 := Aside0.mk Q_HO206
                have HO211 := Aside0.mk Q_HO211
                have HO214 := Aside0.mk Q_HO214
                have HO217 := Aside0.mk Q_HO217
                have BK196 := Aside0.mk Q_BK196
                have HB := Aside0.mk Q_HB
                have hc0_ : w'.cell? ⟨gb196, 0, none⟩ = some (.bool true) := (blk_cell BK196.out 0).trans rfl
                have hc1_ : w'.cell? ⟨gb196, 1, none⟩ = some (.int .i64 0) := (blk_cell BK196.out 1).trans rfl
                refine value_ (w1 := w') (v := .agg #[.bool true, .int .i64 0]) (by rfl) rfl ?_ ?_
                · go_simp
                  (try simp only [i64_w])
                  try rfl
                refine hK.out _ _ ⟨v221, v224, v227, m0_, m6_, m7_, m8_, m10_, (by rw [ha.out]; exact putSel_upk 2 hb_ rfl rfl rfl), Q_HO200, Q_HO203, Q_HO206, Q_HO211, Q_HO214, Q_HO217, Q_BK196, Q_HB, Q_HO222, fun h0_ => absurd ((hoff 5 (by kernel_rfl)).symm.trans h0_) (by decide), fun h0_ => absurd ((hoff 6 (by kernel_rfl)).symm.trans h0_) (by decide), Q_X0_, fun h0_ => absurd ((hoff 6 (by kernel_rfl)).symm.trans h0_) (by decide), fun h0_ => absurd ((hoff 7 (by kernel_rfl)).symm.trans h0_) (by decide), fun h0_ => absurd ((hoff 8 (by kernel_rfl)).symm.trans h0_) (by decide), fun h0_ => absurd ((hoff 10 (by kernel_rfl)).symm.trans h0_) (by decide)⟩
              refine steps_cons ?_ ?_
              · rintro b a w' ⟨v221, v224, v227, m0_, m6_, m7_, m8_, m10_, ha, Q_HO200, Q_HO203, Q_HO206, Q_HO211, Q_HO214, Q_HO217, Q_BK196, Q_HB, Q_HO222, Q_HO225, Q_HO228, Q_X0_, Q_X6_, Q_X7_, Q_X8_, Q_X10_⟩ hb_ hon hoff
                refine ⟨_, rfl, fun K hK => ?_⟩
                have e1 : a.tmps[1]? = some (.pointer (some ⟨gb196, 0, none⟩)) := by rw [ha]; exact (putSel_off rfl).trans rfl
                replace ha := Aside0.mk ha
                have HO200 := Aside0.mk Q_HO200
                have HO203 := Aside0.mk Q_HO203
                have HO206 := Aside0.mk Q_HO206
                have HO211 := Aside0.mk Q_HO211
                have HO214 := Aside0.mk Q_HO214
                have HO217 := Aside0.mk Q_HO217
                have BK196 := Aside0.mk Q_BK196
                have HB := Aside0.mk Q_HB
                have hc0_ : w'.cell? ⟨gb196, 0, none⟩ = some (.bool true) := (blk_cell BK196.out 0).trans rfl
                have hc1_ : w'.cell? ⟨gb196, 1, none⟩ = some (.int .i64 0) := (blk_cell BK196.out 1).trans rfl
                refine value_ (w1 := w') (v := .agg #[.bool true, .int .i64 0]) (by rfl) rfl ?_ ?_
                · go_simp
                  (try simp only [i64_w])
                  try rfl
                refine hK.out _ _ ⟨v221, v224, v227, m0_, m6_, m7_, m8_, m10_, (by rw [ha.out]; exact putSel_upk 3 hb_ rfl rfl rfl), Q_HO200, Q_HO203, Q_HO206, Q_HO211, Q_HO214, Q_HO217, Q_BK196, Q_HB, Q_HO222, fun h0_ => absurd ((hoff 5 (by kernel_rfl)).symm.trans h0_) (by decide), fun h0_ => absurd ((hoff 6 (by kernel_rfl)).symm.trans h0_) (by decide), Q_X0_, fun h0_ => absurd ((hoff 6 (by kernel_rfl)).symm.trans h0_) (by decide), fun h0_ => absurd ((hoff 7 (by kernel_rfl)).symm.trans h0_) (by decide), fun h0_ => absurd ((hoff 8 (by kernel_rfl)).symm.trans h0_) (by decide), fun h0_ => absurd ((hoff 10 (by kernel_rfl)).symm.trans h0_) (by decide)⟩
              refine steps_cons ?_ ?_
              · rintro b a w' ⟨v221, v224, v227, m0_, m6_, m7_, m8_, m10_, ha, Q_HO200, Q_HO203, Q_HO206, Q_HO211, Q_HO214, Q_HO217, Q_BK196, Q_HB, Q_HO222, Q_HO225, Q_HO228, Q_X0_, Q_X6_, Q_X7_, Q_X8_, Q_X10_⟩ hb_ hon hoff
                refine ⟨_, rfl, fun K hK => ?_⟩
                have e1 : a.tmps[1]? = some (.pointer (some ⟨gb196, 0, none⟩)) := by rw [ha]; exact (putSel_off rfl).trans rfl
                replace ha := Aside0.mk ha
                have HO200 := Aside0.mk Q_HO200
                have HO203 := Aside0.mk Q_HO203
                have HO206 := Aside0.mk Q_HO206
                have HO211 := Aside0.mk Q_HO211
                have HO214 := Aside0.mk Q_HO214
                have HO217 := Aside0.mk Q_HO217
                have BK196 := Aside0.mk Q_BK196
                have HB := Aside0.mk Q_HB
                have hc0_ : w'.cell? ⟨gb196, 0, none⟩ = some (.bool true) := (blk_cell BK196.out 0).trans rfl
                have hc1_ : w'.cell? ⟨gb196, 1, none⟩ = some (.int .i64 0) := (blk_cell BK196.out 1).trans rfl
                refine value_ (w1 := w') (v := .agg #[.bool true, .int .i64 0]) (by rfl) rfl ?_ ?_
                · go_simp
                  (try simp only [i64_w])
                  try rfl
                refine hK.out _ _ ⟨v221, v224, v227, m0_, m6_, m7_, m8_, m10_, (by rw [ha.out]; exact putSel_upk 4 hb_ rfl rfl rfl), Q_HO200, Q_HO203, Q_HO206, Q_HO211, Q_HO214, Q_HO217, Q_BK196, Q_HB, Q_HO222, fun h0_ => absurd ((hoff 5 (by kernel_rfl)).symm.trans h0_) (by decide), fun h0_ => absurd ((hoff 6 (by kernel_rfl)).symm.trans h0_) (by decide), Q_X0_, fun h0_ => absurd ((hoff 6 (by kernel_rfl)).symm.trans h0_) (by decide), fun h0_ => absurd ((hoff 7 (by kernel_rfl)).symm.trans h0_) (by decide), fun h0_ => absurd ((hoff 8 (by kernel_rfl)).symm.trans h0_) (by decide), fun h0_ => absurd ((hoff 10 (by kernel_rfl)).symm.trans h0_) (by decide)⟩
              refine steps_cons ?_ ?_
              · rintro b a w' ⟨v221, v224, v227, m0_, m6_, m7_, m8_, m10_, ha, Q_HO200, Q_HO203, Q_HO206, Q_HO211, Q_HO214, Q_HO217, Q_BK196, Q_HB, Q_HO222, Q_HO225, Q_HO228, Q_X0_, Q_X6_, Q_X7_, Q_X8_, Q_X10_⟩ hb_ hon hoff
                refine ⟨_, rfl, fun K hK => ?_⟩
                have e32 : a.tmps[32]? = some (.agg #[.bool true, .int .i64 0]) := by rw [ha]; exact putSel_on (e := (1, 32, .agg #[.bool true, .int .i64 0])) 1 rfl rfl (hon 1 (by kernel_rfl)) rfl
                have e33 : a.tmps[33]? = some (.agg #[.bool true, .int .i64 0]) := by rw [ha]; exact putSel_on (e := (2, 33, .agg #[.bool true, .int .i64 0])) 2 rfl rfl (hon 2 (by kernel_rfl)) rfl
                have e34 : a.tmps[34]? = some (.agg #[.bool true, .int .i64 0]) := by rw [ha]; exact putSel_on (e := (3, 34, .agg #[.bool true, .int .i64 0])) 3 rfl rfl (hon 3 (by kernel_rfl)) rfl
                have e35 : a.tmps[35]? = some (.agg #[.bool true, .int .i64 0]) := by rw [ha]; exact putSel_on (e := (4, 35, .agg #[.bool true, .int .i64 0])) 4 rfl rfl (hon 4 (by kernel_rfl)) rfl
                replace ha := Aside0.mk ha
                have HO200 := Aside0.mk Q_HO200
                have HO203 := Aside0.mk Q_HO203
                have HO206 := Aside0.mk Q_HO206
                have HO211 := Aside0.mk Q_HO211
                have HO214 := Aside0.mk Q_HO214
                have HO217 := Aside0.mk Q_HO217
                have BK196 := Aside0.mk Q_BK196
                have HB := Aside0.mk Q_HB
                refine Kd.R_lit_step k67 _ 67 ?hg (N := 36) ?hd (xs := ([(⟨true, 0⟩ : S67), (⟨true, 0⟩ : S67), (⟨true, 0⟩ : S67), (⟨true, 0⟩ : S67)] : List (S67))) (inner := [.bool true, .int .i64 0, .bool true, .int .i64 0, .bool true, .int .i64 0, .bool true, .int .i64 0]) (ok := fun _ => True) (okp := fun _ => True) ?hr ?hp (fun _ hk => by first | trivial | exact hk | exact hk | exact hk.1 | exact hk.2 | exact ⟨hk.1.1, hk.2⟩ | exact ⟨hk.1.1, hk.1.2⟩ | simp_all) trivial (Below.refl _ _) (Nat.le_refl _) (by simp) ?_; (case hd => rfl); (case hg => rfl); (case hr => first | (go_simp; done) | (go_simp; rfl)); (case hp => exact (Reps.c2 (show Kd.M k67 _ _ _ (⟨true, 0⟩ : S67) [.bool true, .int .i64 0] from (k67_mkM _ _ _ (⟨true, 0⟩ : S67) )) (Reps.c2 (show Kd.M k67 _ _ _ (⟨true, 0⟩ : S67) [.bool true, .int .i64 0] from (k67_mkM _ _ _ (⟨true, 0⟩ : S67) )) (Reps.c2 (show Kd.M k67 _ _ _ (⟨true, 0⟩ : S67) [.bool true, .int .i64 0] from (k67_mkM _ _ _ (⟨true, 0⟩ : S67) )) (Reps.c2 (show Kd.M k67 _ _ _ (⟨true, 0⟩ : S67) [.bool true, .int .i64 0] from (k67_mkM _ _ _ (⟨true, 0⟩ : S67) )) (Reps.none _ _))))))
                intro v224 w40 ho41 hb hg_ hnew_
                clear hg_ hnew_
                (first | rw [← Ny223.out] at ho41 | (simp only [Int.reduceToNat] at ho41; rw [← Ny223.out] at ho41))
                have n0_ := Aside0.mk (Kd.N_elder' (by (with_reducible repeat (first | apply Kd.N_alloc | apply Kd.N_drewN | apply Kd.N_drew)); (first | exact HO200.out | exact Kd.N_mono HO200.out (fun _ _ => trivial) | exact Kd.R_mono HO200.out (fun _ _ => trivial))) (Kd.R_base ho41) hb)
                have n1_ := Aside0.mk (Kd.R_elder' (by (with_reducible repeat (first | apply Kd.R_alloc | apply Kd.R_drewN | apply Kd.R_drew)); (first | exact HO203.out | exact Kd.N_mono HO203.out (fun _ _ => trivial) | exact Kd.R_mono HO203.out (fun _ _ => trivial))) (Kd.R_base ho41) hb)
                have n2_ := Aside0.mk (Kd.R_below (by (with_reducible repeat (first | apply Kd.R_alloc | apply Kd.R_drewN | apply Kd.R_drew)); (first | exact HO206.out | exact Kd.N_mono HO206.out (fun _ _ => trivial) | exact Kd.R_mono HO206.out (fun _ _ => trivial))) hb)
                have n3_ := Aside0.mk (Kd.N_elder' (by (with_reducible repeat (first | apply Kd.N_alloc | apply Kd.N_drewN | apply Kd.N_drew)); (first | exact HO211.out | exact Kd.N_mono HO211.out (fun _ _ => trivial) | exact Kd.R_mono HO211.out (fun _ _ => trivial))) (Kd.R_base ho41) hb)
                have n4_ := Aside0.mk (Kd.R_elder' (by (with_reducible repeat (first | apply Kd.R_alloc | apply Kd.R_drewN | apply Kd.R_drew)); (first | exact HO214.out | exact Kd.N_mono HO214.out (fun _ _ => trivial) | exact Kd.R_mono HO214.out (fun _ _ => trivial))) (Kd.R_base ho41) hb)
                have n5_ := Aside0.mk (Kd.R_below (by (with_reducible repeat (first | apply Kd.R_alloc | apply Kd.R_drewN | apply Kd.R_drew)); (first | exact HO217.out | exact Kd.N_mono HO217.out (fun _ _ => trivial) | exact Kd.R_mono HO217.out (fun _ _ => trivial))) hb)
                have n6_ := Aside0.mk (Kd.R_lower (Kd.R_newB (Kd.R_new' (Kd.R_new' ho41 (Kd.R_lt (by (with_reducible repeat (first | apply Kd.R_alloc | apply Kd.R_drewN | apply Kd.R_drew)); (first | exact HO203.out | exact Kd.N_mono HO203.out (fun _ _ => trivial) | exact Kd.R_mono HO203.out (fun _ _ => trivial))))) (Kd.R_lt (by (with_reducible repeat (first | apply Kd.R_alloc | apply Kd.R_drewN | apply Kd.R_drew)); (first | exact HO214.out | exact Kd.N_mono HO214.out (fun _ _ => trivial) | exact Kd.R_mono HO214.out (fun _ _ => trivial))))) (g := gb196) (o := .cells #[.bool true, .int .i64 0] 67 (0, 0)) (by (with_reducible repeat (first | refine blk_drewN ?_ _ | refine blk_drew ?_ | refine blk_alloc ?_ _)); exact BK196.out)) (below_size (by repeat (first | (with_reducible first | exact HB.out | apply below_alloc | apply pw_below_drewN | apply below_drew1 | refine below_set ?_ GE196.out) | exact HB.out))))
                have n7_ := Aside0.mk (blk_below (g := gb196) (o := .cells #[.bool true, .int .i64 0] 67 (0, 0)) (by (with_reducible repeat (first | refine blk_drewN ?_ _ | refine blk_drew ?_ | refine blk_alloc ?_ _)); exact BK196.out) hb)
                have n8_ := Aside0.mk (below_step (by repeat (first | (with_reducible first | exact HB.out | apply below_alloc | apply pw_below_drewN | apply below_drew1 | refine below_set ?_ GE196.out) | exact HB.out)) hb)
                have z_HO222 := fun (h0_ : b 0 = true) => (show Kd.N k70 70 w40 w.heap.size (fun _ => True) v221 t220 from by first | exact (Kd.N_elder' (by (with_reducible repeat (first | apply Kd.N_alloc | apply Kd.N_drewN | apply Kd.N_drew)); exact (Q_HO222 h0_)) (Kd.R_base ho41) hb) | exact Kd.N_mono (Kd.N_elder' (by (with_reducible repeat (first | apply Kd.N_alloc | apply Kd.N_drewN | apply Kd.N_drew)); exact (Q_HO222 h0_)) (Kd.R_base ho41) hb) (fun _ h_ => by first | trivial | exact h_ | exact h_.1))
                clear HO200
                clear HO203
                clear HO206
                clear HO211
                clear HO214
                clear HO217
                clear BK196
                clear HB
                have HO200 := n0_
                have HO203 := n1_
                have HO206 := n2_
                have HO211 := n3_
                have HO214 := n4_
                have HO217 := n5_
                have HO225 := n6_
                have BK196 := n7_
                have HB := n8_
                clear n0_ n1_ n2_ n3_ n4_ n5_ n6_ n7_ n8_
                clear hb ho41
                refine hK.out _ _ ⟨v221, v224, v227, m0_, m6_, m7_, m8_, m10_, (by rw [ha.out]; exact putSel_upk 5 hb_ rfl rfl rfl), (by (with_reducible repeat (first | apply Kd.N_alloc | apply Kd.N_drewN | apply Kd.N_drew)); exact Kd.N_mono HO200.out (fun _ hk => by first | trivial | exact ⟨hk.1.1, ⟨hk.1.2.1, ⟨hk.1.2.2.1, ⟨hk.1.2.2.2.1, ⟨hk.1.2.2.2.2.1, ⟨hk.2, hk.1.2.2.2.2.2⟩⟩⟩⟩⟩⟩ | exact hk | exact hk.1 | exact hk.2 | exact ⟨hk.1.1, hk.2⟩ | exact ⟨hk.1.1, hk.1.2⟩ | simp_all)), (by (with_reducible repeat (first | apply Kd.R_alloc | apply Kd.R_drewN | apply Kd.R_drew)); exact Kd.R_mono HO203.out (fun _ hk => by first | trivial | exact ⟨hk.1.1, ⟨hk.2, hk.1.2⟩⟩ | exact hk | exact hk.1 | exact hk.2 | exact ⟨hk.1.1, hk.2⟩ | exact ⟨hk.1.1, hk.1.2⟩ | simp_all)), (by (with_reducible repeat (first | apply Kd.R_alloc | apply Kd.R_drewN | apply Kd.R_drew)); (first | exact HO206.out | exact Kd.N_mono HO206.out (fun _ _ => trivial) | exact Kd.R_mono HO206.out (fun _ _ => trivial))), (by (with_reducible repeat (first | apply Kd.N_alloc | apply Kd.N_drewN | apply Kd.N_drew)); exact Kd.N_mono HO211.out (fun _ hk => by first | trivial | exact ⟨hk.1.1, ⟨hk.1.2.1, ⟨hk.1.2.2.1, ⟨hk.1.2.2.2.1, ⟨hk.1.2.2.2.2.1, ⟨hk.2, hk.1.2.2.2.2.2⟩⟩⟩⟩⟩⟩ | exact hk | exact hk.1 | exact hk.2 | exact ⟨hk.1.1, hk.2⟩ | exact ⟨hk.1.1, hk.1.2⟩ | simp_all)), (by (with_reducible repeat (first | apply Kd.R_alloc | apply Kd.R_drewN | apply Kd.R_drew)); exact Kd.R_mono HO214.out (fun _ hk => by first | trivial | exact ⟨hk.1.1, ⟨hk.2, hk.1.2⟩⟩ | exact hk | exact hk.1 | exact hk.2 | exact ⟨hk.1.1, hk.2⟩ | exact ⟨hk.1.1, hk.1.2⟩ | simp_all)), (by (with_reducible repeat (first | apply Kd.R_alloc | apply Kd.R_drewN | apply Kd.R_drew)); (first | exact HO217.out | exact Kd.N_mono HO217.out (fun _ _ => trivial) | exact Kd.R_mono HO217.out (fun _ _ => trivial))), (by (with_reducible repeat (first | refine blk_drewN ?_ _ | refine blk_drew ?_ | refine blk_alloc ?_ _)); exact BK196.out), (by repeat (first | (with_reducible first | exact HB.out | apply below_alloc | apply pw_below_drewN | apply below_drew1 | refine below_set ?_ GE196.out) | exact HB.out)), z_HO222, fun _ => (by (with_reducible repeat (first | apply Kd.R_alloc | apply Kd.R_drewN | apply Kd.R_drew)); exact Kd.R_mono HO225.out (fun _ hk => by first | trivial | exact ⟨hk.1.1.2, ⟨hk.1.2, hk.2⟩⟩ | exact hk | exact hk.1 | exact hk.2 | exact ⟨hk.1.1, hk.2⟩ | exact ⟨hk.1.1, hk.1.2⟩ | simp_all)), fun h0_ => absurd ((hoff 6 (by kernel_rfl)).symm.trans h0_) (by decide), Q_X0_, fun h0_ => absurd ((hoff 6 (by kernel_rfl)).symm.trans h0_) (by decide), fun h0_ => absurd ((hoff 7 (by kernel_rfl)).symm.trans h0_) (by decide), fun h0_ => absurd ((hoff 8 (by kernel_rfl)).symm.trans h0_) (by decide), fun h0_ => absurd ((hoff 10 (by kernel_rfl)).symm.trans h0_) (by decide)⟩
              refine steps_cons ?_ ?_
              · rintro b a w' ⟨v221, v224, v227, m0_, m6_, m7_, m8_, m10_, ha, Q_HO200, Q_HO203, Q_HO206, Q_HO211, Q_HO214, Q_HO217, Q_BK196, Q_HB, Q_HO222, Q_HO225, Q_HO228, Q_X0_, Q_X6_, Q_X7_, Q_X8_, Q_X10_⟩ hb_ hon hoff
                refine ⟨_, rfl, fun K hK => ?_⟩
                have e31 : a.tmps[31]? = some (m0_) := by rw [ha]; exact putSel_on (e := (0, 31, m0_)) 0 rfl rfl (hon 0 (by kernel_rfl)) rfl
                rw [Q_X0_ (hon 0 (by kernel_rfl))] at e31
                have e36 : a.tmps[36]? = some (v224) := by rw [ha]; exact putSel_on (e := (5, 36, v224)) 5 rfl rfl (hon 5 (by kernel_rfl)) rfl
                replace ha := Aside0.mk ha
                have HO200 := Aside0.mk Q_HO200
                have HO203 := Aside0.mk Q_HO203
                have HO206 := Aside0.mk Q_HO206
                have HO211 := Aside0.mk Q_HO211
                have HO214 := Aside0.mk Q_HO214
                have HO217 := Aside0.mk Q_HO217
                have BK196 := Aside0.mk Q_BK196
                have HB := Aside0.mk Q_HB
                have HO222 := Aside0.mk (Q_HO222 (hon 0 (by kernel_rfl)))
                have HO225 := Aside0.mk (Q_HO225 (hon 5 (by kernel_rfl)))
                obtain ⟨Ao44, co44, eo44⟩ := Kd.N_slice HO222.out
                (first | subst eo44 | (injection eo44 with f1_ f2_ f3_; have f4_ := f1_.symm; have f5_ := f3_.symm; clear f1_ f2_ f3_; subst f4_; subst f5_))
                obtain ⟨Ao45, co45, eo45⟩ := Kd.R_slice HO225.out
                (first | subst eo45 | (injection eo45 with f1_ f2_ f3_; have f4_ := f1_.symm; have f5_ := f3_.symm; clear f1_ f2_ f3_; subst f4_; subst f5_))
                refine goes_ Try.func29 (by kernel_rfl) rfl #[.agg #[.int .i64 t219, .slice Ao44 t220.length co44], .int .i64 2, .slice Ao45 y223.length co45] (by rfl) rfl rfl (by first | (simp only [List.map_toArray, List.map_cons, List.map_nil, Act.eval, Array.getD_eq_getD_getElem?, Option.getD_some, e31, e36]; done) | (simp only [List.map_toArray, List.map_cons, List.map_nil, Act.eval, Array.getD_eq_getD_getElem?, Option.getD_some, e31, e36]; rfl)) ?_
                with_reducible refine (cand_Backs.calls t219 _ _ t220 2 _ _ y223 t226 t229 _ ?side1 ?side2 ?side3 ?side4 A6.out).mono ?_
                (case side1 => repeat (first | exact (Kd.N_reads' HO222.out).2.2 | (with_reducible refine Kd.C_alloc ?_ _) | (with_reducible refine Kd.C_drewN ?_ _) | (with_reducible refine Kd.C_drew ?_)))
                (case side2 => exact (Kd.N_reads' HO222.out).2.1)
                (case side3 => repeat (first | exact (Kd.R_reads' HO225.out).2.2 | (with_reducible refine Kd.C_alloc ?_ _) | (with_reducible refine Kd.C_drewN ?_ _) | (with_reducible refine Kd.C_drew ?_)))
                (case side4 => exact (Kd.R_reads' HO225.out).2.1)
                rintro e w46 ⟨v227, rfl, ho0, hb⟩
                refine ⟨_, rfl, ?_⟩
                have n0_ := Aside0.mk (Kd.N_elder' (by (with_reducible repeat (first | apply Kd.N_alloc | apply Kd.N_drewN | apply Kd.N_drew)); (first | exact HO200.out | exact Kd.N_mono HO200.out (fun _ _ => trivial) | exact Kd.R_mono HO200.out (fun _ _ => trivial))) (Kd.R_base ho0) hb)
                have n1_ := Aside0.mk (Kd.R_below (by (with_reducible repeat (first | apply Kd.R_alloc | apply Kd.R_drewN | apply Kd.R_drew)); (first | exact HO203.out | exact Kd.N_mono HO203.out (fun _ _ => trivial) | exact Kd.R_mono HO203.out (fun _ _ => trivial))) hb)
                have n2_ := Aside0.mk (Kd.R_elder' (by (with_reducible repeat (first | apply Kd.R_alloc | apply Kd.R_drewN | apply Kd.R_drew)); (first | exact HO206.out | exact Kd.N_mono HO206.out (fun _ _ => trivial) | exact Kd.R_mono HO206.out (fun _ _ => trivial))) (Kd.R_base ho0) hb)
                have n3_ := Aside0.mk (Kd.N_elder' (by (with_reducible repeat (first | apply Kd.N_alloc | apply Kd.N_drewN | apply Kd.N_drew)); (first | exact HO211.out | exact Kd.N_mono HO211.out (fun _ _ => trivial) | exact Kd.R_mono HO211.out (fun _ _ => trivial))) (Kd.R_base ho0) hb)
                have n4_ := Aside0.mk (Kd.R_below (by (with_reducible repeat (first | apply Kd.R_alloc | apply Kd.R_drewN | apply Kd.R_drew)); (first | exact HO214.out | exact Kd.N_mono HO214.out (fun _ _ => trivial) | exact Kd.R_mono HO214.out (fun _ _ => trivial))) hb)
                have n5_ := Aside0.mk (Kd.R_elder' (by (with_reducible repeat (first | apply Kd.R_alloc | apply Kd.R_drewN | apply Kd.R_drew)); (first | exact HO217.out | exact Kd.N_mono HO217.out (fun _ _ => trivial) | exact Kd.R_mono HO217.out (fun _ _ => trivial))) (Kd.R_base ho0) hb)
                have n6_ := Aside0.mk (Kd.N_elder' (by (with_reducible repeat (first | apply Kd.N_alloc | apply Kd.N_drewN | apply Kd.N_drew)); (first | exact HO222.out | exact Kd.N_mono HO222.out (fun _ _ => trivial) | exact Kd.R_mono HO222.out (fun _ _ => trivial))) (Kd.R_base ho0) hb)
                have n7_ := Aside0.mk (Kd.R_below (by (with_reducible repeat (first | apply Kd.R_alloc | apply Kd.R_drewN | apply Kd.R_drew)); (first | exact HO225.out | exact Kd.N_mono HO225.out (fun _ _ => trivial) | exact Kd.R_mono HO225.out (fun _ _ => trivial))) hb)
                have n8_ := Aside0.mk (Kd.R_lower (Kd.R_new' (Kd.R_new' ho0 (Kd.R_lt (by (with_reducible repeat (first | apply Kd.R_alloc | apply Kd.R_drewN | apply Kd.R_drew)); (first | exact HO206.out | exact Kd.N_mono HO206.out (fun _ _ => trivial) | exact Kd.R_mono HO206.out (fun _ _ => trivial))))) (Kd.R_lt (by (with_reducible repeat (first | apply Kd.R_alloc | apply Kd.R_drewN | apply Kd.R_drew)); (first | exact HO217.out | exact Kd.N_mono HO217.out (fun _ _ => trivial) | exact Kd.R_mono HO217.out (fun _ _ => trivial))))) (below_size (by repeat (first | (with_reducible first | exact HB.out | apply below_alloc | apply pw_below_drewN | apply below_drew1 | refine below_set ?_ GE196.out) | exact HB.out))))
                have n9_ := Aside0.mk (blk_below (g := gb196) (o := .cells #[.bool true, .int .i64 0] 67 (0, 0)) (by (with_reducible repeat (first | refine blk_drewN ?_ _ | refine blk_drew ?_ | refine blk_alloc ?_ _)); exact BK196.out) hb)
                have n10_ := Aside0.mk (below_step (by repeat (first | (with_reducible first | exact HB.out | apply below_alloc | apply pw_below_drewN | apply below_drew1 | refine below_set ?_ GE196.out) | exact HB.out)) hb)
                clear HO200
                clear HO203
                clear HO206
                clear HO211
                clear HO214
                clear HO217
                clear HO222
                clear HO225
                clear BK196
                clear HB
                have HO200 := n0_
                have HO203 := n1_
                have HO206 := n2_
                have HO211 := n3_
                have HO214 := n4_
                have HO217 := n5_
                have HO222 := n6_
                have HO225 := n7_
                have HO228 := n8_
                have BK196 := n9_
                have HB := n10_
                clear n0_ n1_ n2_ n3_ n4_ n5_ n6_ n7_ n8_ n9_ n10_
                (try clear hb)
                (try clear hb2)
                (try clear hk)
                (try clear hi)
                (try clear ho0)
                refine hK.out _ _ ⟨.slice Ao44 t220.length co44, .slice Ao45 y223.length co45, v227, m0_, (.tuple #[v227, .int .i64 t229]), m7_, m8_, m10_, (by rw [ha.out]; exact putSel_upk 6 hb_ rfl rfl rfl), (by (with_reducible repeat (first | apply Kd.N_alloc | apply Kd.N_drewN | apply Kd.N_drew)); exact Kd.N_mono HO200.out (fun _ hk => by first | trivial | exact ⟨hk.1.1, ⟨hk.1.2.1, ⟨hk.1.2.2.1, ⟨hk.1.2.2.2.1, ⟨hk.1.2.2.2.2.1, ⟨hk.1.2.2.2.2.2.1, ⟨hk.1.2.2.2.2.2.2.1, ⟨hk.2, hk.1.2.2.2.2.2.2.2⟩⟩⟩⟩⟩⟩⟩⟩ | exact hk | exact hk.1 | exact hk.2 | exact ⟨hk.1.1, hk.2⟩ | exact ⟨hk.1.1, hk.1.2⟩ | simp_all)), (by (with_reducible repeat (first | apply Kd.R_alloc | apply Kd.R_drewN | apply Kd.R_drew)); (first | exact HO203.out | exact Kd.N_mono HO203.out (fun _ _ => trivial) | exact Kd.R_mono HO203.out (fun _ _ => trivial))), (by (with_reducible repeat (first | apply Kd.R_alloc | apply Kd.R_drewN | apply Kd.R_drew)); (first | exact HO206.out | exact Kd.N_mono HO206.out (fun _ _ => trivial) | exact Kd.R_mono HO206.out (fun _ _ => trivial))), (by (with_reducible repeat (first | apply Kd.N_alloc | apply Kd.N_drewN | apply Kd.N_drew)); exact Kd.N_mono HO211.out (fun _ hk => by first | trivial | exact ⟨hk.1.1, ⟨hk.1.2.1, ⟨hk.1.2.2.1, ⟨hk.1.2.2.2.1, ⟨hk.1.2.2.2.2.1, ⟨hk.1.2.2.2.2.2.1, ⟨hk.1.2.2.2.2.2.2.1, ⟨hk.2, hk.1.2.2.2.2.2.2.2⟩⟩⟩⟩⟩⟩⟩⟩ | exact hk | exact hk.1 | exact hk.2 | exact ⟨hk.1.1, hk.2⟩ | exact ⟨hk.1.1, hk.1.2⟩ | simp_all)), (by (with_reducible repeat (first | apply Kd.R_alloc | apply Kd.R_drewN | apply Kd.R_drew)); (first | exact HO214.out | exact Kd.N_mono HO214.out (fun _ _ => trivial) | exact Kd.R_mono HO214.out (fun _ _ => trivial))), (by (with_reducible repeat (first | apply Kd.R_alloc | apply Kd.R_drewN | apply Kd.R_drew)); (first | exact HO217.out | exact Kd.N_mono HO217.out (fun _ _ => trivial) | exact Kd.R_mono HO217.out (fun _ _ => trivial))), (by (with_reducible repeat (first | refine blk_drewN ?_ _ | refine blk_drew ?_ | refine blk_alloc ?_ _)); exact BK196.out), (by repeat (first | (with_reducible first | exact HB.out | apply below_alloc | apply pw_below_drewN | apply below_drew1 | refine below_set ?_ GE196.out) | exact HB.out)), fun _ => (by (with_reducible repeat (first | apply Kd.N_alloc | apply Kd.N_drewN | apply Kd.N_drew)); exact Kd.N_mono HO222.out (fun _ hk => by first | trivial | exact ⟨hk.1.1, ⟨hk.1.2.1, ⟨hk.1.2.2.1, ⟨hk.1.2.2.2.1, ⟨hk.1.2.2.2.2.1, ⟨hk.1.2.2.2.2.2.1, ⟨hk.1.2.2.2.2.2.2.1, ⟨hk.2, hk.1.2.2.2.2.2.2.2⟩⟩⟩⟩⟩⟩⟩⟩ | exact hk | exact hk.1 | exact hk.2 | exact ⟨hk.1.1, hk.2⟩ | exact ⟨hk.1.1, hk.1.2⟩ | simp_all)), fun _ => (by (with_reducible repeat (first | apply Kd.R_alloc | apply Kd.R_drewN | apply Kd.R_drew)); (first | exact HO225.out | exact Kd.N_mono HO225.out (fun _ _ => trivial) | exact Kd.R_mono HO225.out (fun _ _ => trivial))), fun _ => (by (with_reducible repeat (first | apply Kd.R_alloc | apply Kd.R_drewN | apply Kd.R_drew)); exact Kd.R_mono HO228.out (fun _ hk => by first | trivial | exact ⟨hk.1.2, hk.2⟩ | exact hk | exact hk.1 | exact hk.2 | exact ⟨hk.1.1, hk.2⟩ | exact ⟨hk.1.1, hk.1.2⟩ | simp_all)), Q_X0_, fun _ => rfl, fun h0_ => absurd ((hoff 7 (by kernel_rfl)).symm.trans h0_) (by decide), fun h0_ => absurd ((hoff 8 (by kernel_rfl)).symm.trans h0_) (by decide), fun h0_ => absurd ((hoff 10 (by kernel_rfl)).symm.trans h0_) (by decide)⟩
              refine steps_cons ?_ ?_
              · rintro b a w' ⟨v221, v224, v227, m0_, m6_, m7_, m8_, m10_, ha, Q_HO200, Q_HO203, Q_HO206, Q_HO211, Q_HO214, Q_HO217, Q_BK196, Q_HB, Q_HO222, Q_HO225, Q_HO228, Q_X0_, Q_X6_, Q_X7_, Q_X8_, Q_X10_⟩ hb_ hon hoff
                refine ⟨_, rfl, fun K hK => ?_⟩
                have e37 : a.tmps[37]? = some (m6_) := by rw [ha]; exact putSel_on (e := (6, 37, m6_)) 6 rfl rfl (hon 6 (by kernel_rfl)) rfl
                rw [Q_X6_ (hon 6 (by kernel_rfl))] at e37
                replace ha := Aside0.mk ha
                have HO200 := Aside0.mk Q_HO200
                have HO203 := Aside0.mk Q_HO203
                have HO206 := Aside0.mk Q_HO206
                have HO211 := Aside0.mk Q_HO211
                have HO214 := Aside0.mk Q_HO214
                have HO217 := Aside0.mk Q_HO217
                have BK196 := Aside0.mk Q_BK196
                have HB := Aside0.mk Q_HB
                have HO222 := Aside0.mk (Q_HO222 (hon 0 (by kernel_rfl)))
                have HO225 := Aside0.mk (Q_HO225 (hon 5 (by kernel_rfl)))
                have HO228 := Aside0.mk (Q_HO228 (hon 6 (by kernel_rfl)))
                refine value_ (w1 := w') (v := .tuple #[v227, .int .i64 t229]) (by rfl) rfl ?_ ?_
                · go_simp
                  (try simp only [i64_w])
                  try rfl
                refine hK.out _ _ ⟨v221, v224, v227, m0_, m6_, (.tuple #[v227, .int .i64 t229]), m8_, m10_, (by rw [ha.out]; exact putSel_upk 7 hb_ rfl rfl rfl), Q_HO200, Q_HO203, Q_HO206, Q_HO211, Q_HO214, Q_HO217, Q_BK196, Q_HB, Q_HO222, Q_HO225, Q_HO228, Q_X0_, Q_X6_, fun _ => rfl, fun h0_ => absurd ((hoff 8 (by kernel_rfl)).symm.trans h0_) (by decide), fun h0_ => absurd ((hoff 10 (by kernel_rfl)).symm.trans h0_) (by decide)⟩
              refine steps_cons ?_ ?_
              · rintro b a w' ⟨v221, v224, v227, m0_, m6_, m7_, m8_, m10_, ha, Q_HO200, Q_HO203, Q_HO206, Q_HO211, Q_HO214, Q_HO217, Q_BK196, Q_HB, Q_HO222, Q_HO225, Q_HO228, Q_X0_, Q_X6_, Q_X7_, Q_X8_, Q_X10_⟩ hb_ hon hoff
                refine ⟨_, rfl, fun K hK => ?_⟩
                have e30 : a.tmps[30]? = some (m7_) := by rw [ha]; exact putSel_on (e := (7, 30, m7_)) 7 rfl rfl (hon 7 (by kernel_rfl)) rfl
                rw [Q_X7_ (hon 7 (by kernel_rfl))] at e30
                replace ha := Aside0.mk ha
                have HO200 := Aside0.mk Q_HO200
                have HO203 := Aside0.mk Q_HO203
                have HO206 := Aside0.mk Q_HO206
                have HO211 := Aside0.mk Q_HO211
                have HO214 := Aside0.mk Q_HO214
                have HO217 := Aside0.mk Q_HO217
                have BK196 := Aside0.mk Q_BK196
                have HB := Aside0.mk Q_HB
                have HO222 := Aside0.mk (Q_HO222 (hon 0 (by kernel_rfl)))
                have HO225 := Aside0.mk (Q_HO225 (hon 5 (by kernel_rfl)))
                have HO228 := Aside0.mk (Q_HO228 (hon 6 (by kernel_rfl)))
                obtain ⟨Ao8_0, co8_0, eo_⟩ := Kd.R_slice HO228.out
                subst eo_
                refine value_ (w1 := w') (v := .slice Ao8_0 t226.length co8_0) (by rfl) rfl ?_ ?_
                · go_simp
                  (try simp only [i64_w])
                  try rfl
                refine hK.out _ _ ⟨v221, v224, .slice Ao8_0 t226.length co8_0, m0_, m6_, m7_, (.slice Ao8_0 t226.length co8_0), m10_, (by rw [ha.out]; exact putSel_upk 8 hb_ rfl rfl rfl), Q_HO200, Q_HO203, Q_HO206, Q_HO211, Q_HO214, Q_HO217, Q_BK196, Q_HB, Q_HO222, Q_HO225, Q_HO228, Q_X0_, Q_X6_, Q_X7_, fun _ => rfl, fun h0_ => absurd ((hoff 10 (by kernel_rfl)).symm.trans h0_) (by decide)⟩
              refine steps_cons ?_ ?_
              · rintro b a w' ⟨v221, v224, v227, m0_, m6_, m7_, m8_, m10_, ha, Q_HO200, Q_HO203, Q_HO206, Q_HO211, Q_HO214, Q_HO217, Q_BK196, Q_HB, Q_HO222, Q_HO225, Q_HO228, Q_X0_, Q_X6_, Q_X7_, Q_X8_, Q_X10_⟩ hb_ hon hoff
                refine ⟨_, rfl, fun K hK => ?_⟩
                have e30 : a.tmps[30]? = some (m7_) := by rw [ha]; exact putSel_on (e := (7, 30, m7_)) 7 rfl rfl (hon 7 (by kernel_rfl)) rfl
                rw [Q_X7_ (hon 7 (by kernel_rfl))] at e30
                replace ha := Aside0.mk ha
                have HO200 := Aside0.mk Q_HO200
                have HO203 := Aside0.mk Q_HO203
                have HO206 := Aside0.mk Q_HO206
                have HO211 := Aside0.mk Q_HO211
                have HO214 := Aside0.mk Q_HO214
                have HO217 := Aside0.mk Q_HO217
                have BK196 := Aside0.mk Q_BK196
                have HB := Aside0.mk Q_HB
                have HO222 := Aside0.mk (Q_HO222 (hon 0 (by kernel_rfl)))
                have HO225 := Aside0.mk (Q_HO225 (hon 5 (by kernel_rfl)))
                have HO228 := Aside0.mk (Q_HO228 (hon 6 (by kernel_rfl)))
                obtain ⟨Ao9_0, co9_0, eo_⟩ := Kd.R_slice HO228.out
                subst eo_
                refine value_ (w1 := w') (v := .int .i64 t229) (by rfl) rfl ?_ ?_
                · go_simp
                  (try simp only [i64_w])
                  try rfl
                refine hK.out _ _ ⟨v221, v224, .slice Ao9_0 t226.length co9_0, m0_, m6_, m7_, m8_, m10_, (by rw [ha.out]; exact putSel_upk 9 hb_ rfl rfl rfl), Q_HO200, Q_HO203, Q_HO206, Q_HO211, Q_HO214, Q_HO217, Q_BK196, Q_HB, Q_HO222, Q_HO225, Q_HO228, Q_X0_, Q_X6_, Q_X7_, Q_X8_, Q_X10_⟩
              refine steps_cons ?_ ?_
              · rintro b a w' ⟨v221, v224, v227, m0_, m6_, m7_, m8_, m10_, ha, Q_HO200, Q_HO203, Q_HO206, Q_HO211, Q_HO214, Q_HO217, Q_BK196, Q_HB, Q_HO222, Q_HO225, Q_HO228, Q_X0_, Q_X6_, Q_X7_, Q_X8_, Q_X10_⟩ hb_ hon hoff
                refine ⟨_, rfl, fun K hK => ?_⟩
                have e38 : a.tmps[38]? = some (m8_) := by rw [ha]; exact putSel_on (e := (8, 38, m8_)) 8 rfl rfl (hon 8 (by kernel_rfl)) rfl
                rw [Q_X8_ (hon 8 (by kernel_rfl))] at e38
                replace ha := Aside0.mk ha
                have HO200 := Aside0.mk Q_HO200
                have HO203 := Aside0.mk Q_HO203
                have HO206 := Aside0.mk Q_HO206
                have HO211 := Aside0.mk Q_HO211
                have HO214 := Aside0.mk Q_HO214
                have HO217 := Aside0.mk Q_HO217
                have BK196 := Aside0.mk Q_BK196
                have HB := Aside0.mk Q_HB
                have HO222 := Aside0.mk (Q_HO222 (hon 0 (by kernel_rfl)))
                have HO225 := Aside0.mk (Q_HO225 (hon 5 (by kernel_rfl)))
                have HO228 := Aside0.mk (Q_HO228 (hon 6 (by kernel_rfl)))
                refine value_ (w1 := w') (v := v227) (by rfl) rfl ?_ ?_
                · go_simp
                  (try simp only [i64_w])
                  try rfl
                refine hK.out _ _ ⟨v221, v224, v227, m0_, m6_, m7_, m8_, (v227), (by rw [ha.out]; exact putSel_upk 10 hb_ rfl rfl rfl), Q_HO200, Q_HO203, Q_HO206, Q_HO211, Q_HO214, Q_HO217, Q_BK196, Q_HB, Q_HO222, Q_HO225, Q_HO228, Q_X0_, Q_X6_, Q_X7_, Q_X8_, fun _ => rfl⟩
              refine steps_cons ?_ ?_
              · rintro b a w' ⟨v221, v224, v227, m0_, m6_, m7_, m8_, m10_, ha, Q_HO200, Q_HO203, Q_HO206, Q_HO211, Q_HO214, Q_HO217, Q_BK196, Q_HB, Q_HO222, Q_HO225, Q_HO228, Q_X0_, Q_X6_, Q_X7_, Q_X8_, Q_X10_⟩ hb_ hon hoff
                refine ⟨_, rfl, fun K hK => ?_⟩
                have e39 : a.tmps[39]? = some (.int .i64 t229) := by rw [ha]; exact putSel_on (e := (9, 39, .int .i64 t229)) 9 rfl rfl (hon 9 (by kernel_rfl)) rfl
                replace ha := Aside0.mk ha
                have HO200 := Aside0.mk Q_HO200
                have HO203 := Aside0.mk Q_HO203
                have HO206 := Aside0.mk Q_HO206
                have HO211 := Aside0.mk Q_HO211
                have HO214 := Aside0.mk Q_HO214
                have HO217 := Aside0.mk Q_HO217
                have BK196 := Aside0.mk Q_BK196
                have HB := Aside0.mk Q_HB
                have HO222 := Aside0.mk (Q_HO222 (hon 0 (by kernel_rfl)))
                have HO225 := Aside0.mk (Q_HO225 (hon 5 (by kernel_rfl)))
                have HO228 := Aside0.mk (Q_HO228 (hon 6 (by kernel_rfl)))
                refine value_ (w1 := w') (v := .int .i64 t229) (by rfl) rfl ?_ ?_
                · go_simp
                  (try simp only [i64_w])
                  try rfl
                refine hK.out _ _ ⟨v221, v224, v227, m0_, m6_, m7_, m8_, m10_, (by rw [ha.out]; exact putSel_upk 11 hb_ rfl rfl rfl), Q_HO200, Q_HO203, Q_HO206, Q_HO211, Q_HO214, Q_HO217, Q_BK196, Q_HB, Q_HO222, Q_HO225, Q_HO228, Q_X0_, Q_X6_, Q_X7_, Q_X8_, Q_X10_⟩
              exact steps_nil
            rintro b a w46 hall ⟨v221, v224, v227, m0_, m6_, m7_, m8_, m10_, ha, Q_HO200, Q_HO203, Q_HO206, Q_HO211, Q_HO214, Q_HO217, Q_BK196, Q_HB, Q_HO222, Q_HO225, Q_HO228, Q_X0_, Q_X6_, Q_X7_, Q_X8_, Q_X10_⟩
            clear BK196 HB HO200 HO203 HO206 HO211 HO214 HO217
            have hb0_ := hall 0 (by kernel_rfl)
            have hb1_ := hall 1 (by kernel_rfl)
            have hb2_ := hall 2 (by kernel_rfl)
            have hb3_ := hall 3 (by kernel_rfl)
            have hb4_ := hall 4 (by kernel_rfl)
            have hb5_ := hall 5 (by kernel_rfl)
            have hb6_ := hall 6 (by kernel_rfl)
            have hb7_ := hall 7 (by kernel_rfl)
            have hb8_ := hall 8 (by kernel_rfl)
            have hb9_ := hall 9 (by kernel_rfl)
            have hb10_ := hall 10 (by kernel_rfl)
            have hb11_ := hall 11 (by kernel_rfl)
            subst ha
            obtain rfl := (Q_X0_ hb0_).symm
            obtain rfl := (Q_X6_ hb6_).symm
            obtain rfl := (Q_X7_ hb7_).symm
            obtain rfl := (Q_X8_ hb8_).symm
            obtain rfl := (Q_X10_ hb10_).symm
            simp only [putSel, hb0_, hb1_, hb2_, hb3_, hb4_, hb5_, hb6_, hb7_, hb8_, hb9_, hb10_, hb11_, if_true, Act.put, List.setIfInBounds_toArray, List.set_cons_zero, List.set_cons_succ]
            have HO200 := Aside0.mk Q_HO200
            clear Q_HO200
            have HO203 := Aside0.mk Q_HO203
            clear Q_HO203
            have HO206 := Aside0.mk Q_HO206
            clear Q_HO206
            have HO211 := Aside0.mk Q_HO211
            clear Q_HO211
            have HO214 := Aside0.mk Q_HO214
            clear Q_HO214
            have HO217 := Aside0.mk Q_HO217
            clear Q_HO217
            have BK196 := Aside0.mk Q_BK196
            clear Q_BK196
            have HB := Aside0.mk Q_HB
            clear Q_HB
            have HO222 := Aside0.mk (Q_HO222 hb0_)
            clear Q_HO222
            have HO225 := Aside0.mk (Q_HO225 hb5_)
            clear Q_HO225
            have HO228 := Aside0.mk (Q_HO228 hb6_)
            clear Q_HO228
            clear hall hb0_ hb1_ hb2_ hb3_ hb4_ hb5_ hb6_ hb7_ hb8_ hb9_ hb10_ hb11_
            try go_wp2_with (first | ((with_reducible refine gate_callee (f := 36) rfl ?_); refine goesL_ (some 41) rfl rfl Try.func36 (by kernel_rfl) rfl #[] rfl (by (try simp only [List.map_toArray, List.map_cons, List.map_nil]); first | done | rfl | (simp only [List.length_drop, List.length_take]; rfl)) ?_; (with_reducible refine (wharfagelaw13_given.calls  t230 t231 _ A7.out).mono ?_); rintro e w47 ⟨v232, rfl, ho0, hb⟩; refine ⟨_, rfl, ?_⟩; have n0_ := Aside0.mk (Kd.N_elder' (by (with_reducible repeat (first | apply Kd.N_alloc | apply Kd.N_drewN | apply Kd.N_drew)); (first | exact HO200.out | exact Kd.N_mono HO200.out (fun _ _ => trivial) | exact Kd.R_mono HO200.out (fun _ _ => trivial))) (Kd.N_base ho0) hb); have n1_ := Aside0.mk (Kd.R_below (by (with_reducible repeat (first | apply Kd.R_alloc | apply Kd.R_drewN | apply Kd.R_drew)); (first | exact HO203.out | exact Kd.N_mono HO203.out (fun _ _ => trivial) | exact Kd.R_mono HO203.out (fun _ _ => trivial))) hb); have n2_ := Aside0.mk (Kd.R_below (by (with_reducible repeat (first | apply Kd.R_alloc | apply Kd.R_drewN | apply Kd.R_drew)); (first | exact HO206.out | exact Kd.N_mono HO206.out (fun _ _ => trivial) | exact Kd.R_mono HO206.out (fun _ _ => trivial))) hb); have n3_ := Aside0.mk (Kd.N_elder' (by (with_reducible repeat (first | apply Kd.N_alloc | apply Kd.N_drewN | apply Kd.N_drew)); (first | exact HO211.out | exact Kd.N_mono HO211.out (fun _ _ => trivial) | exact Kd.R_mono HO211.out (fun _ _ => trivial))) (Kd.N_base ho0) hb); have n4_ := Aside0.mk (Kd.R_below (by (with_reducible repeat (first | apply Kd.R_alloc | apply Kd.R_drewN | apply Kd.R_drew)); (first | exact HO214.out | exact Kd.N_mono HO214.out (fun _ _ => trivial) | exact Kd.R_mono HO214.out (fun _ _ => trivial))) hb); have n5_ := Aside0.mk (Kd.R_below (by (with_reducible repeat (first | apply Kd.R_alloc | apply Kd.R_drewN | apply Kd.R_drew)); (first | exact HO217.out | exact Kd.N_mono HO217.out (fun _ _ => trivial) | exact Kd.R_mono HO217.out (fun _ _ => trivial))) hb); have n6_ := Aside0.mk (Kd.N_elder' (by (with_reducible repeat (first | apply Kd.N_alloc | apply Kd.N_drewN | apply Kd.N_drew)); (first | exact HO222.out | exact Kd.N_mono HO222.out (fun _ _ => trivial) | exact Kd.R_mono HO222.out (fun _ _ => trivial))) (Kd.N_base ho0) hb); have n7_ := Aside0.mk (Kd.R_below (by (with_reducible repeat (first | apply Kd.R_alloc | apply Kd.R_drewN | apply Kd.R_drew)); (first | exact HO225.out | exact Kd.N_mono HO225.out (fun _ _ => trivial) | exact Kd.R_mono HO225.out (fun _ _ => trivial))) hb); have n8_ := Aside0.mk (Kd.R_below (by (with_reducible repeat (first | apply Kd.R_alloc | apply Kd.R_drewN | apply Kd.R_drew)); (first | exact HO228.out | exact Kd.N_mono HO228.out (fun _ _ => trivial) | exact Kd.R_mono HO228.out (fun _ _ => trivial))) hb); have n9_ := Aside0.mk (Kd.N_lower (Kd.N_mono (ok' := fun k_ => some k_ ≠ (v199 : Value).ownBlock ∧ some k_ ≠ (v202 : Value).ownBlock ∧ some k_ ≠ (v205 : Value).ownBlock ∧ some k_ ≠ (v210 : Value).ownBlock ∧ some k_ ≠ (v213 : Value).ownBlock ∧ some k_ ≠ (v216 : Value).ownBlock ∧ some k_ ≠ (v221 : Value).ownBlock ∧ some k_ ≠ (v224 : Value).ownBlock ∧ some k_ ≠ (v227 : Value).ownBlock ∧ k_ ≠ gb196) ho0 (fun k_ hk_ => ⟨(Kd.fresh' (Kd.N_lt (by (with_reducible repeat (first | apply Kd.N_alloc | apply Kd.N_drewN | apply Kd.N_drew)); (first | exact HO200.out | exact Kd.N_mono HO200.out (fun _ _ => trivial) | exact Kd.R_mono HO200.out (fun _ _ => trivial)))) k_ hk_), (Kd.fresh' (Kd.R_lt (by (with_reducible repeat (first | apply Kd.R_alloc | apply Kd.R_drewN | apply Kd.R_drew)); (first | exact HO203.out | exact Kd.N_mono HO203.out (fun _ _ => trivial) | exact Kd.R_mono HO203.out (fun _ _ => trivial)))) k_ hk_), (Kd.fresh' (Kd.R_lt (by (with_reducible repeat (first | apply Kd.R_alloc | apply Kd.R_drewN | apply Kd.R_drew)); (first | exact HO206.out | exact Kd.N_mono HO206.out (fun _ _ => trivial) | exact Kd.R_mono HO206.out (fun _ _ => trivial)))) k_ hk_), (Kd.fresh' (Kd.N_lt (by (with_reducible repeat (first | apply Kd.N_alloc | apply Kd.N_drewN | apply Kd.N_drew)); (first | exact HO211.out | exact Kd.N_mono HO211.out (fun _ _ => trivial) | exact Kd.R_mono HO211.out (fun _ _ => trivial)))) k_ hk_), (Kd.fresh' (Kd.R_lt (by (with_reducible repeat (first | apply Kd.R_alloc | apply Kd.R_drewN | apply Kd.R_drew)); (first | exact HO214.out | exact Kd.N_mono HO214.out (fun _ _ => trivial) | exact Kd.R_mono HO214.out (fun _ _ => trivial)))) k_ hk_), (Kd.fresh' (Kd.R_lt (by (with_reducible repeat (first | apply Kd.R_alloc | apply Kd.R_drewN | apply Kd.R_drew)); (first | exact HO217.out | exact Kd.N_mono HO217.out (fun _ _ => trivial) | exact Kd.R_mono HO217.out (fun _ _ => trivial)))) k_ hk_), (Kd.fresh' (Kd.N_lt (by (with_reducible repeat (first | apply Kd.N_alloc | apply Kd.N_drewN | apply Kd.N_drew)); (first | exact HO222.out | exact Kd.N_mono HO222.out (fun _ _ => trivial) | exact Kd.R_mono HO222.out (fun _ _ => trivial)))) k_ hk_), (Kd.fresh' (Kd.R_lt (by (with_reducible repeat (first | apply Kd.R_alloc | apply Kd.R_drewN | apply Kd.R_drew)); (first | exact HO225.out | exact Kd.N_mono HO225.out (fun _ _ => trivial) | exact Kd.R_mono HO225.out (fun _ _ => trivial)))) k_ hk_), (Kd.fresh' (Kd.R_lt (by (with_reducible repeat (first | apply Kd.R_alloc | apply Kd.R_drewN | apply Kd.R_drew)); (first | exact HO228.out | exact Kd.N_mono HO228.out (fun _ _ => trivial) | exact Kd.R_mono HO228.out (fun _ _ => trivial)))) k_ hk_), (Kd.freshB (g := gb196) (o := .cells #[.bool true, .int .i64 0] 67 (0, 0)) (by (with_reducible repeat (first | refine blk_drewN ?_ _ | refine blk_drew ?_ | refine blk_alloc ?_ _)); exact BK196.out) k_ hk_)⟩)) (below_size (by repeat (first | (with_reducible first | exact HB.out | apply below_alloc | apply pw_below_drewN | apply below_drew1 | refine below_set ?_ GE196.out) | exact HB.out)))); have n10_ := Aside0.mk (blk_below (g := gb196) (o := .cells #[.bool true, .int .i64 0] 67 (0, 0)) (by (with_reducible repeat (first | refine blk_drewN ?_ _ | refine blk_drew ?_ | refine blk_alloc ?_ _)); exact BK196.out) hb); have n11_ := Aside0.mk (below_step (by repeat (first | (with_reducible first | exact HB.out | apply below_alloc | apply pw_below_drewN | apply below_drew1 | refine below_set ?_ GE196.out) | exact HB.out)) hb); clear HO200; clear HO203; clear HO206; clear HO211; clear HO214; clear HO217; clear HO222; clear HO225; clear HO228; clear BK196; clear HB; have HO200 := n0_; have HO203 := n1_; have HO206 := n2_; have HO211 := n3_; have HO214 := n4_; have HO217 := n5_; have HO222 := n6_; have HO225 := n7_; have HO228 := n8_; have HO233 := n9_; have BK196 := n10_; have HB := n11_; clear n0_ n1_ n2_ n3_ n4_ n5_ n6_ n7_ n8_ n9_ n10_ n11_; (try clear hb); (try clear hb2); (try clear hk); (try clear hi); (try clear ho0); obtain ⟨Ao48, co48, eo48⟩ := Kd.N_slice HO233.out; subst eo48) | ((with_reducible refine gate_callee (f := 27) rfl ?_); refine goesL_ (some 42) rfl rfl Try.func27 (by kernel_rfl) rfl #[.agg #[.int .i64 t230, .slice Ao48 t231.length co48], .slice none 0 0] rfl (by (try simp only [List.map_toArray, List.map_cons, List.map_nil]); first | done | rfl | (simp only [List.length_drop, List.length_take]; rfl)) ?_; (refine (cand_Sites.calls k t230 _ _ t231 _ _ ([] : List (S67)) t234 t237 _ ?side1 ?side2 ?side3 ?side4 A8.out).mono ?_); (case side1 => repeat (first | exact (Kd.N_reads' HO233.out).2.2 | (with_reducible refine Kd.C_alloc ?_ _) | (with_reducible refine Kd.C_drewN ?_ _) | (with_reducible refine Kd.C_drew ?_))); (case side2 => exact (Kd.N_reads' HO233.out).2.1); (case side3 => exact Kd.C_nil _ _); (case side4 => exact Nat.le_refl _); rintro e w49 ⟨v235, rfl, ho0, hb⟩; refine ⟨_, rfl, ?_⟩; have n0_ := Aside0.mk (Kd.N_elder' (by (with_reducible repeat (first | apply Kd.N_alloc | apply Kd.N_drewN | apply Kd.N_drew)); (first | exact HO200.out | exact Kd.N_mono HO200.out (fun _ _ => trivial) | exact Kd.R_mono HO200.out (fun _ _ => trivial))) (Kd.R_base ho0) hb); have n1_ := Aside0.mk (Kd.R_below (by (with_reducible repeat (first | apply Kd.R_alloc | apply Kd.R_drewN | apply Kd.R_drew)); (first | exact HO203.out | exact Kd.N_mono HO203.out (fun _ _ => trivial) | exact Kd.R_mono HO203.out (fun _ _ => trivial))) hb); have n2_ := Aside0.mk (Kd.R_elder' (by (with_reducible repeat (first | apply Kd.R_alloc | apply Kd.R_drewN | apply Kd.R_drew)); (first | exact HO206.out | exact Kd.N_mono HO206.out (fun _ _ => trivial) | exact Kd.R_mono HO206.out (fun _ _ => trivial))) (Kd.R_base ho0) hb); have n3_ := Aside0.mk (Kd.N_elder' (by (with_reducible repeat (first | apply Kd.N_alloc | apply Kd.N_drewN | apply Kd.N_drew)); (first | exact HO211.out | exact Kd.N_mono HO211.out (fun _ _ => trivial) | exact Kd.R_mono HO211.out (fun _ _ => trivial))) (Kd.R_base ho0) hb); have n4_ := Aside0.mk (Kd.R_below (by (with_reducible repeat (first | apply Kd.R_alloc | apply Kd.R_drewN | apply Kd.R_drew)); (first | exact HO214.out | exact Kd.N_mono HO214.out (fun _ _ => trivial) | exact Kd.R_mono HO214.out (fun _ _ => trivial))) hb); have n5_ := Aside0.mk (Kd.R_elder' (by (with_reducible repeat (first | apply Kd.R_alloc | apply Kd.R_drewN | apply Kd.R_drew)); (first | exact HO217.out | exact Kd.N_mono HO217.out (fun _ _ => trivial) | exact Kd.R_mono HO217.out (fun _ _ => trivial))) (Kd.R_base ho0) hb); have n6_ := Aside0.mk (Kd.N_elder' (by (with_reducible repeat (first | apply Kd.N_alloc | apply Kd.N_drewN | apply Kd.N_drew)); (first | exact HO222.out | exact Kd.N_mono HO222.out (fun _ _ => trivial) | exact Kd.R_mono HO222.out (fun _ _ => trivial))) (Kd.R_base ho0) hb); have n7_ := Aside0.mk (Kd.R_below (by (with_reducible repeat (first | apply Kd.R_alloc | apply Kd.R_drewN | apply Kd.R_drew)); (first | exact HO225.out | exact Kd.N_mono HO225.out (fun _ _ => trivial) | exact Kd.R_mono HO225.out (fun _ _ => trivial))) hb); have n8_ := Aside0.mk (Kd.R_elder' (by (with_reducible repeat (first | apply Kd.R_alloc | apply Kd.R_drewN | apply Kd.R_drew)); (first | exact HO228.out | exact Kd.N_mono HO228.out (fun _ _ => trivial) | exact Kd.R_mono HO228.out (fun _ _ => trivial))) (Kd.R_base ho0) hb); have n9_ := Aside0.mk (Kd.N_elder' (by (with_reducible repeat (first | apply Kd.N_alloc | apply Kd.N_drewN | apply Kd.N_drew)); (first | exact HO233.out | exact Kd.N_mono HO233.out (fun _ _ => trivial) | exact Kd.R_mono HO233.out (fun _ _ => trivial))) (Kd.R_base ho0) hb); have n10_ := Aside0.mk (Kd.R_lower (Kd.R_new' (Kd.R_new' (Kd.R_new' ho0 (Kd.R_lt (by (with_reducible repeat (first | apply Kd.R_alloc | apply Kd.R_drewN | apply Kd.R_drew)); (first | exact HO206.out | exact Kd.N_mono HO206.out (fun _ _ => trivial) | exact Kd.R_mono HO206.out (fun _ _ => trivial))))) (Kd.R_lt (by (with_reducible repeat (first | apply Kd.R_alloc | apply Kd.R_drewN | apply Kd.R_drew)); (first | exact HO217.out | exact Kd.N_mono HO217.out (fun _ _ => trivial) | exact Kd.R_mono HO217.out (fun _ _ => trivial))))) (Kd.R_lt (by (with_reducible repeat (first | apply Kd.R_alloc | apply Kd.R_drewN | apply Kd.R_drew)); (first | exact HO228.out | exact Kd.N_mono HO228.out (fun _ _ => trivial) | exact Kd.R_mono HO228.out (fun _ _ => trivial))))) (below_size (by repeat (first | (with_reducible first | exact HB.out | apply below_alloc | apply pw_below_drewN | apply below_drew1 | refine below_set ?_ GE196.out) | exact HB.out)))); have n11_ := Aside0.mk (blk_below (g := gb196) (o := .cells #[.bool true, .int .i64 0] 67 (0, 0)) (by (with_reducible repeat (first | refine blk_drewN ?_ _ | refine blk_drew ?_ | refine blk_alloc ?_ _)); exact BK196.out) hb); have n12_ := Aside0.mk (below_step (by repeat (first | (with_reducible first | exact HB.out | apply below_alloc | apply pw_below_drewN | apply below_drew1 | refine below_set ?_ GE196.out) | exact HB.out)) hb); clear HO200; clear HO203; clear HO206; clear HO211; clear HO214; clear HO217; clear HO222; clear HO225; clear HO228; clear HO233; clear BK196; clear HB; have HO200 := n0_; have HO203 := n1_; have HO206 := n2_; have HO211 := n3_; have HO214 := n4_; have HO217 := n5_; have HO222 := n6_; have HO225 := n7_; have HO228 := n8_; have HO233 := n9_; have HO236 := n10_; have BK196 := n11_; have HB := n12_; clear n0_ n1_ n2_ n3_ n4_ n5_ n6_ n7_ n8_ n9_ n10_ n11_ n12_; (try clear hb); (try clear hb2); (try clear hk); (try clear hi); (try clear ho0)) | ((with_reducible refine gate_dst (N := 47) rfl ?_); (try (refine gate_guard (by rfl) ?_; dsimp only)); refine Kd.R_lit k72 _ 72 ?hg (N := 47) ?hd (xs := ([(⟨0, 2⟩ : S72)] : List (S72))) (inner := [.int .i64 0, .int .i64 2]) (ok := fun _ => True) (okp := fun _ => True) ?hr ?hp (fun _ hk => by first | trivial | exact hk | exact hk | exact hk.1 | exact hk.2 | exact ⟨hk.1.1, hk.2⟩ | exact ⟨hk.1.1, hk.1.2⟩ | simp_all) trivial (Below.refl _ _) (Nat.le_refl _) (by simp) ?_; (case hd => rfl); (case hg => rfl); (case hr => first | (go_simp; done) | (go_simp; rfl)); (case hp => exact (Reps.c2 (show Kd.M k72 _ _ _ (⟨0, 2⟩ : S72) [.int .i64 0, .int .i64 2] from (k72_mkM _ _ _ (⟨0, 2⟩ : S72) )) (Reps.none _ _))); intro v239 w50 ho51 hb hg_ hnew_; clear hg_ hnew_; (first | rw [← Ny238.out] at ho51 | (simp only [Int.reduceToNat] at ho51; rw [← Ny238.out] at ho51)); have n0_ := Aside0.mk (Kd.N_elder' (by (with_reducible repeat (first | apply Kd.N_alloc | apply Kd.N_drewN | apply Kd.N_drew)); (first | exact HO200.out | exact Kd.N_mono HO200.out (fun _ _ => trivial) | exact Kd.R_mono HO200.out (fun _ _ => trivial))) (Kd.R_base ho51) hb); have n1_ := Aside0.mk (Kd.R_below (by (with_reducible repeat (first | apply Kd.R_alloc | apply Kd.R_drewN | apply Kd.R_drew)); (first | exact HO203.out | exact Kd.N_mono HO203.out (fun _ _ => trivial) | exact Kd.R_mono HO203.out (fun _ _ => trivial))) hb); have n2_ := Aside0.mk (Kd.R_elder' (by (with_reducible repeat (first | apply Kd.R_alloc | apply Kd.R_drewN | apply Kd.R_drew)); (first | exact HO206.out | exact Kd.N_mono HO206.out (fun _ _ => trivial) | exact Kd.R_mono HO206.out (fun _ _ => trivial))) (Kd.R_base ho51) hb); have n3_ := Aside0.mk (Kd.N_elder' (by (with_reducible repeat (first | apply Kd.N_alloc | apply Kd.N_drewN | apply Kd.N_drew)); (first | exact HO211.out | exact Kd.N_mono HO211.out (fun _ _ => trivial) | exact Kd.R_mono HO211.out (fun _ _ => trivial))) (Kd.R_base ho51) hb); have n4_ := Aside0.mk (Kd.R_below (by (with_reducible repeat (first | apply Kd.R_alloc | apply Kd.R_drewN | apply Kd.R_drew)); (first | exact HO214.out | exact Kd.N_mono HO214.out (fun _ _ => trivial) | exact Kd.R_mono HO214.out (fun _ _ => trivial))) hb); have n5_ := Aside0.mk (Kd.R_elder' (by (with_reducible repeat (first | apply Kd.R_alloc | apply Kd.R_drewN | apply Kd.R_drew)); (first | exact HO217.out | exact Kd.N_mono HO217.out (fun _ _ => trivial) | exact Kd.R_mono HO217.out (fun _ _ => trivial))) (Kd.R_base ho51) hb); have n6_ := Aside0.mk (Kd.N_elder' (by (with_reducible repeat (first | apply Kd.N_alloc | apply Kd.N_drewN | apply Kd.N_drew)); (first | exact HO222.out | exact Kd.N_mono HO222.out (fun _ _ => trivial) | exact Kd.R_mono HO222.out (fun _ _ => trivial))) (Kd.R_base ho51) hb); have n7_ := Aside0.mk (Kd.R_below (by (with_reducible repeat (first | apply Kd.R_alloc | apply Kd.R_drewN | apply Kd.R_drew)); (first | exact HO225.out | exact Kd.N_mono HO225.out (fun _ _ => trivial) | exact Kd.R_mono HO225.out (fun _ _ => trivial))) hb); have n8_ := Aside0.mk (Kd.R_elder' (by (with_reducible repeat (first | apply Kd.R_alloc | apply Kd.R_drewN | apply Kd.R_drew)); (first | exact HO228.out | exact Kd.N_mono HO228.out (fun _ _ => trivial) | exact Kd.R_mono HO228.out (fun _ _ => trivial))) (Kd.R_base ho51) hb); have n9_ := Aside0.mk (Kd.N_elder' (by (with_reducible repeat (first | apply Kd.N_alloc | apply Kd.N_drewN | apply Kd.N_drew)); (first | exact HO233.out | exact Kd.N_mono HO233.out (fun _ _ => trivial) | exact Kd.R_mono HO233.out (fun _ _ => trivial))) (Kd.R_base ho51) hb); have n10_ := Aside0.mk (Kd.R_elder' (by (with_reducible repeat (first | apply Kd.R_alloc | apply Kd.R_drewN | apply Kd.R_drew)); (first | exact HO236.out | exact Kd.N_mono HO236.out (fun _ _ => trivial) | exact Kd.R_mono HO236.out (fun _ _ => trivial))) (Kd.R_base ho51) hb); have n11_ := Aside0.mk (Kd.R_lower (Kd.R_new' (Kd.R_new' (Kd.R_new' (Kd.R_new' ho51 (Kd.R_lt (by (with_reducible repeat (first | apply Kd.R_alloc | apply Kd.R_drewN | apply Kd.R_drew)); (first | exact HO206.out | exact Kd.N_mono HO206.out (fun _ _ => trivial) | exact Kd.R_mono HO206.out (fun _ _ => trivial))))) (Kd.R_lt (by (with_reducible repeat (first | apply Kd.R_alloc | apply Kd.R_drewN | apply Kd.R_drew)); (first | exact HO217.out | exact Kd.N_mono HO217.out (fun _ _ => trivial) | exact Kd.R_mono HO217.out (fun _ _ => trivial))))) (Kd.R_lt (by (with_reducible repeat (first | apply Kd.R_alloc | apply Kd.R_drewN | apply Kd.R_drew)); (first | exact HO228.out | exact Kd.N_mono HO228.out (fun _ _ => trivial) | exact Kd.R_mono HO228.out (fun _ _ => trivial))))) (Kd.R_lt (by (with_reducible repeat (first | apply Kd.R_alloc | apply Kd.R_drewN | apply Kd.R_drew)); (first | exact HO236.out | exact Kd.N_mono HO236.out (fun _ _ => trivial) | exact Kd.R_mono HO236.out (fun _ _ => trivial))))) (below_size (by repeat (first | (with_reducible first | exact HB.out | apply below_alloc | apply pw_below_drewN | apply below_drew1 | refine below_set ?_ GE196.out) | exact HB.out)))); have n12_ := Aside0.mk (blk_below (g := gb196) (o := .cells #[.bool true, .int .i64 0] 67 (0, 0)) (by (with_reducible repeat (first | refine blk_drewN ?_ _ | refine blk_drew ?_ | refine blk_alloc ?_ _)); exact BK196.out) hb); have n13_ := Aside0.mk (below_step (by repeat (first | (with_reducible first | exact HB.out | apply below_alloc | apply pw_below_drewN | apply below_drew1 | refine below_set ?_ GE196.out) | exact HB.out)) hb); clear HO200; clear HO203; clear HO206; clear HO211; clear HO214; clear HO217; clear HO222; clear HO225; clear HO228; clear HO233; clear HO236; clear BK196; clear HB; have HO200 := n0_; have HO203 := n1_; have HO206 := n2_; have HO211 := n3_; have HO214 := n4_; have HO217 := n5_; have HO222 := n6_; have HO225 := n7_; have HO228 := n8_; have HO233 := n9_; have HO236 := n10_; have HO240 := n11_; have BK196 := n12_; have HB := n13_; clear n0_ n1_ n2_ n3_ n4_ n5_ n6_ n7_ n8_ n9_ n10_ n11_ n12_ n13_; clear hb ho51; obtain ⟨Ao52, co52, eo52⟩ := Kd.R_slice HO206.out; subst eo52; obtain ⟨Ao53, co53, eo53⟩ := Kd.R_slice HO240.out; subst eo53) | ((with_reducible refine gate_callee (f := 31) rfl ?_); refine goesL_ (some 48) rfl rfl Try.func31 (by kernel_rfl) rfl #[.slice Ao52 t204.length co52, .slice Ao53 y238.length co53] rfl (by (try simp only [List.map_toArray, List.map_cons, List.map_nil]); first | done | rfl | (simp only [List.length_drop, List.length_take]; rfl)) ?_; (with_reducible refine (wharfagelaw0_SameCandidates.calls k _ _ t204 _ _ y238 true _ ?side1 ?side2 ?side3 ?side4 A9.out).mono ?_); (case side1 => repeat (first | exact (Kd.R_reads' HO206.out).2.2 | (with_reducible refine Kd.C_alloc ?_ _) | (with_reducible refine Kd.C_drewN ?_ _) | (with_reducible refine Kd.C_drew ?_))); (case side2 => exact (Kd.R_reads' HO206.out).2.1); (case side3 => repeat (first | exact (Kd.R_reads' HO240.out).2.2 | (with_reducible refine Kd.C_alloc ?_ _) | (with_reducible refine Kd.C_drewN ?_ _) | (with_reducible refine Kd.C_drew ?_))); (case side4 => exact (Kd.R_reads' HO240.out).2.1); rintro e w' ⟨rfl, ⟨nd, rfl⟩⟩; refine ⟨_, rfl, ?_⟩) | (go_at_call 21; (with_reducible refine (wharfagelaw0_Num.calls t207 t242 _ A11.out).mono ?_); rintro e w' ⟨rfl, ⟨nd, rfl⟩⟩) | ((with_reducible refine gate_dst (N := 58) rfl ?_); (try (refine gate_guard (by rfl) ?_; dsimp only)); refine Kd.R_lit k72 _ 72 ?hg (N := 58) ?hd (xs := ([(⟨0, 1⟩ : S72), (⟨1, 3⟩ : S72)] : List (S72))) (inner := [.int .i64 0, .int .i64 1, .int .i64 1, .int .i64 3]) (ok := fun _ => True) (okp := fun _ => True) ?hr ?hp (fun _ hk => by first | trivial | exact hk | exact hk | exact hk.1 | exact hk.2 | exact ⟨hk.1.1, hk.2⟩ | exact ⟨hk.1.1, hk.1.2⟩ | simp_all) trivial (Below.refl _ _) (Nat.le_refl _) (by simp) ?_; (case hd => rfl); (case hg => rfl); (case hr => first | (go_simp; done) | (go_simp; rfl)); (case hp => exact (Reps.c2 (show Kd.M k72 _ _ _ (⟨0, 1⟩ : S72) [.int .i64 0, .int .i64 1] from (k72_mkM _ _ _ (⟨0, 1⟩ : S72) )) (Reps.c2 (show Kd.M k72 _ _ _ (⟨1, 3⟩ : S72) [.int .i64 1, .int .i64 3] from (k72_mkM _ _ _ (⟨1, 3⟩ : S72) )) (Reps.none _ _)))); intro v244 w54 ho55 hb hg_ hnew_; clear hg_ hnew_; (first | rw [← Ny243.out] at ho55 | (simp only [Int.reduceToNat] at ho55; rw [← Ny243.out] at ho55)); have n0_ := Aside0.mk (Kd.N_elder' (by (with_reducible repeat (first | apply Kd.N_alloc | apply Kd.N_drewN | apply Kd.N_drew)); (first | exact HO200.out | exact Kd.N_mono HO200.out (fun _ _ => trivial) | exact Kd.R_mono HO200.out (fun _ _ => trivial))) (Kd.R_base ho55) hb); have n1_ := Aside0.mk (Kd.R_below (by (with_reducible repeat (first | apply Kd.R_alloc | apply Kd.R_drewN | apply Kd.R_drew)); (first | exact HO203.out | exact Kd.N_mono HO203.out (fun _ _ => trivial) | exact Kd.R_mono HO203.out (fun _ _ => trivial))) hb); have n2_ := Aside0.mk (Kd.R_elder' (by (with_reducible repeat (first | apply Kd.R_alloc | apply Kd.R_drewN | apply Kd.R_drew)); (first | exact HO206.out | exact Kd.N_mono HO206.out (fun _ _ => trivial) | exact Kd.R_mono HO206.out (fun _ _ => trivial))) (Kd.R_base ho55) hb); have n3_ := Aside0.mk (Kd.N_elder' (by (with_reducible repeat (first | apply Kd.N_alloc | apply Kd.N_drewN | apply Kd.N_drew)); (first | exact HO211.out | exact Kd.N_mono HO211.out (fun _ _ => trivial) | exact Kd.R_mono HO211.out (fun _ _ => trivial))) (Kd.R_base ho55) hb); have n4_ := Aside0.mk (Kd.R_below (by (with_reducible repeat (first | apply Kd.R_alloc | apply Kd.R_drewN | apply Kd.R_drew)); (first | exact HO214.out | exact Kd.N_mono HO214.out (fun _ _ => trivial) | exact Kd.R_mono HO214.out (fun _ _ => trivial))) hb); have n5_ := Aside0.mk (Kd.R_elder' (by (with_reducible repeat (first | apply Kd.R_alloc | apply Kd.R_drewN | apply Kd.R_drew)); (first | exact HO217.out | exact Kd.N_mono HO217.out (fun _ _ => trivial) | exact Kd.R_mono HO217.out (fun _ _ => trivial))) (Kd.R_base ho55) hb); have n6_ := Aside0.mk (Kd.N_elder' (by (with_reducible repeat (first | apply Kd.N_alloc | apply Kd.N_drewN | apply Kd.N_drew)); (first | exact HO222.out | exact Kd.N_mono HO222.out (fun _ _ => trivial) | exact Kd.R_mono HO222.out (fun _ _ => trivial))) (Kd.R_base ho55) hb); have n7_ := Aside0.mk (Kd.R_below (by (with_reducible repeat (first | apply Kd.R_alloc | apply Kd.R_drewN | apply Kd.R_drew)); (first | exact HO225.out | exact Kd.N_mono HO225.out (fun _ _ => trivial) | exact Kd.R_mono HO225.out (fun _ _ => trivial))) hb); have n8_ := Aside0.mk (Kd.R_elder' (by (with_reducible repeat (first | apply Kd.R_alloc | apply Kd.R_drewN | apply Kd.R_drew)); (first | exact HO228.out | exact Kd.N_mono HO228.out (fun _ _ => trivial) | exact Kd.R_mono HO228.out (fun _ _ => trivial))) (Kd.R_base ho55) hb); have n9_ := Aside0.mk (Kd.N_elder' (by (with_reducible repeat (first | apply Kd.N_alloc | apply Kd.N_drewN | apply Kd.N_drew)); (first | exact HO233.out | exact Kd.N_mono HO233.out (fun _ _ => trivial) | exact Kd.R_mono HO233.out (fun _ _ => trivial))) (Kd.R_base ho55) hb); have n10_ := Aside0.mk (Kd.R_elder' (by (with_reducible repeat (first | apply Kd.R_alloc | apply Kd.R_drewN | apply Kd.R_drew)); (first | exact HO236.out | exact Kd.N_mono HO236.out (fun _ _ => trivial) | exact Kd.R_mono HO236.out (fun _ _ => trivial))) (Kd.R_base ho55) hb); have n11_ := Aside0.mk (Kd.R_elder' (by (with_reducible repeat (first | apply Kd.R_alloc | apply Kd.R_drewN | apply Kd.R_drew)); (first | exact HO240.out | exact Kd.N_mono HO240.out (fun _ _ => trivial) | exact Kd.R_mono HO240.out (fun _ _ => trivial))) (Kd.R_base ho55) hb); have n12_ := Aside0.mk (Kd.R_lower (Kd.R_new' (Kd.R_new' (Kd.R_new' (Kd.R_new' (Kd.R_new' ho55 (Kd.R_lt (by (with_reducible repeat (first | apply Kd.R_alloc | apply Kd.R_drewN | apply Kd.R_drew)); (first | exact HO206.out | exact Kd.N_mono HO206.out (fun _ _ => trivial) | exact Kd.R_mono HO206.out (fun _ _ => trivial))))) (Kd.R_lt (by (with_reducible repeat (first | apply Kd.R_alloc | apply Kd.R_drewN | apply Kd.R_drew)); (first | exact HO217.out | exact Kd.N_mono HO217.out (fun _ _ => trivial) | exact Kd.R_mono HO217.out (fun _ _ => trivial))))) (Kd.R_lt (by (with_reducible repeat (first | apply Kd.R_alloc | apply Kd.R_drewN | apply Kd.R_drew)); (first | exact HO228.out | exact Kd.N_mono HO228.out (fun _ _ => trivial) | exact Kd.R_mono HO228.out (fun _ _ => trivial))))) (Kd.R_lt (by (with_reducible repeat (first | apply Kd.R_alloc | apply Kd.R_drewN | apply Kd.R_drew)); (first | exact HO236.out | exact Kd.N_mono HO236.out (fun _ _ => trivial) | exact Kd.R_mono HO236.out (fun _ _ => trivial))))) (Kd.R_lt (by (with_reducible repeat (first | apply Kd.R_alloc | apply Kd.R_drewN | apply Kd.R_drew)); (first | exact HO240.out | exact Kd.N_mono HO240.out (fun _ _ => trivial) | exact Kd.R_mono HO240.out (fun _ _ => trivial))))) (below_size (by repeat (first | (with_reducible first | exact HB.out | apply below_alloc | apply pw_below_drewN | apply below_drew1 | refine below_set ?_ GE196.out) | exact HB.out)))); have n13_ := Aside0.mk (blk_below (g := gb196) (o := .cells #[.bool true, .int .i64 0] 67 (0, 0)) (by (with_reducible repeat (first | refine blk_drewN ?_ _ | refine blk_drew ?_ | refine blk_alloc ?_ _)); exact BK196.out) hb); have n14_ := Aside0.mk (below_step (by repeat (first | (with_reducible first | exact HB.out | apply below_alloc | apply pw_below_drewN | apply below_drew1 | refine below_set ?_ GE196.out) | exact HB.out)) hb); clear HO200; clear HO203; clear HO206; clear HO211; clear HO214; clear HO217; clear HO222; clear HO225; clear HO228; clear HO233; clear HO236; clear HO240; clear BK196; clear HB; have HO200 := n0_; have HO203 := n1_; have HO206 := n2_; have HO211 := n3_; have HO214 := n4_; have HO217 := n5_; have HO222 := n6_; have HO225 := n7_; have HO228 := n8_; have HO233 := n9_; have HO236 := n10_; have HO240 := n11_; have HO245 := n12_; have BK196 := n13_; have HB := n14_; clear n0_ n1_ n2_ n3_ n4_ n5_ n6_ n7_ n8_ n9_ n10_ n11_ n12_ n13_ n14_; clear hb ho55; obtain ⟨Ao56, co56, eo56⟩ := Kd.R_slice HO217.out; subst eo56; obtain ⟨Ao57, co57, eo57⟩ := Kd.R_slice HO245.out; subst eo57) | (go_at_call 31; (with_reducible refine (wharfagelaw0_SameCandidates.calls k _ _ t215 _ _ y243 true _ ?side1 ?side2 ?side3 ?side4 A13.out).mono ?_); (case side1 => repeat (first | exact (Kd.R_reads' HO217.out).2.2 | (with_reducible refine Kd.C_alloc ?_ _) | (with_reducible refine Kd.C_drewN ?_ _) | (with_reducible refine Kd.C_drew ?_))); (case side2 => exact (Kd.R_reads' HO217.out).2.1); (case side3 => repeat (first | exact (Kd.R_reads' HO245.out).2.2 | (with_reducible refine Kd.C_alloc ?_ _) | (with_reducible refine Kd.C_drewN ?_ _) | (with_reducible refine Kd.C_drew ?_))); (case side4 => exact (Kd.R_reads' HO245.out).2.1); rintro e w' ⟨rfl, ⟨nd, rfl⟩⟩) | (go_at_call 21; (with_reducible refine (wharfagelaw0_Num.calls t218 t247 _ A15.out).mono ?_); rintro e w' ⟨rfl, ⟨nd, rfl⟩⟩) | (go_at_call 21; (with_reducible refine (wharfagelaw0_Num.calls t229 t248 _ A17.out).mono ?_); rintro e w' ⟨rfl, ⟨nd, rfl⟩⟩) | (go_at_call 21; (with_reducible refine (wharfagelaw0_Num.calls t237 t249 _ A19.out).mono ?_); rintro e w' ⟨rfl, ⟨nd, rfl⟩⟩))
            go_ret
            exact ⟨by first | rfl | (simp [errW_none, errW_some] <;> rfl) | (simp [*, errW_none, errW_some] <;> rfl), by repeat (first | (with_reducible first | exact HB.out | apply below_alloc | apply pw_below_drewN | apply below_drew1 | refine below_set ?_ GE196.out) | exact HB.out)⟩
          · rw [if_neg c18] at H
            exact absurd H (by simp)
        · rw [if_neg c16] at H
          exact absurd H (by simp)
      · replace c14 := Bool.eq_false_iff.mpr c14
        subst c14
        have H1 : (none) = some r := by rw [if_neg (show ¬ (false = true) by decide)] at H; exact H
        clear H
        have H := H1
        clear H1
        exact absurd H (by simp)
    · rw [if_neg c12] at H
      exact absurd H (by simp)
  · replace c10 := Bool.eq_false_iff.mpr c10
    subst c10
    have H1 : (none) = some r := by rw [if_neg (show ¬ (false = true) by decide)] at H; exact H
    clear H
    have H := H1
    clear H1
    exact absurd H (by simp)

end Go.Proofs.Ytnocfhnandedoaa.PCands
