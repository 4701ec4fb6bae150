/- How the arguments of the law Cands read; its one pure statement; its walk. -/
import Derived.Test.YtnocfhnandedoaaPCandsx0
import Derived.Test.YtnocfhnandedoaaPCandsx29
import Derived.Test.YtnocfhnandedoaaRead
namespace Go.Proofs.Ytnocfhnandedoaa.PCands
open Go.RowKit Go.Proofs.YtnocfhnandedoaaW.PrintWords Go.Proofs.YtnocfhnandedoaaW.PrintLast Go.Proofs.YtnocfhnandedoaaW.PrintMore
open Go.Proofs.Ytnocfhnandedoaa.Read
set_option linter.unusedVariables false
set_option linter.unusedSimpArgs false
def g74 (x : S74) : Prop := ((Lit.int .i64 x.f0).wf = true) ∧ (True)
theorem opens74 : Opens Try.prog k74 g74 74 := opens_iso (opens_struct (P := Try.prog) Try.underlying74 (by kernel_rfl) (opens_cons (opens_int (P := Try.prog) (T := 3) (k := .i64) (by kernel_rfl)) rfl (by kernel_rfl) rfl (opens_last (opens_bool (P := Try.prog) (T := 4) (by kernel_rfl)) rfl (by kernel_rfl)))) (fun x : S74 => (x.f0, x.f1)) (fun y => ⟨y.1, y.2⟩) (fun _ => rfl)
def g70 (x : S70) : Prop := ((Lit.int .i64 x.f0).wf = true) ∧ ((True) ∧ (((Lit.int .i64 x.f2).wf = true) ∧ (x.f3.length ≤ 9223372036854775807 ∧ x.f3.length * 16 ≤ 140737488351232 ∧ ∀ a ∈ x.f3, g74 a)))
theorem opens70 : Opens Try.prog k70 g70 70 := opens_iso (opens_struct (P := Try.prog) Try.underlying70 (by kernel_rfl) (opens_cons (opens_int (P := Try.prog) (T := 3) (k := .i64) (by kernel_rfl)) rfl (by kernel_rfl) rfl (opens_cons (opens_bool (P := Try.prog) (T := 4) (by kernel_rfl)) rfl (by kernel_rfl) rfl (opens_cons (opens_int (P := Try.prog) (T := 3) (k := .i64) (by kernel_rfl)) rfl (by kernel_rfl) rfl (opens_last (opens_slice (P := Try.prog) (T := 68) (e := 74) (B := 16) (by kernel_rfl) (by kernel_rfl) (by kernel_rfl) opens74) rfl (by kernel_rfl)))))) (fun x : S70 => (x.f0, x.f1, x.f2, x.f3)) (fun y => ⟨y.1, y.2.1, y.2.2.1, y.2.2.2⟩) (fun _ => rfl)
def g49 (x : S49) : Prop := ((Lit.int .i64 x.f0).wf = true) ∧ (x.f1.length ≤ 9223372036854775807 ∧ x.f1.length * 48 ≤ 140737488351232 ∧ ∀ a ∈ x.f1, g70 a)
theorem opens49 : Opens Try.prog k49 g49 49 := opens_iso (opens_struct (P := Try.prog) Try.underlying49 (by kernel_rfl) (opens_cons (opens_int (P := Try.prog) (T := 3) (k := .i64) (by kernel_rfl)) rfl (by kernel_rfl) rfl (opens_last (opens_slice (P := Try.prog) (T := 47) (e := 70) (B := 48) (by kernel_rfl) (by kernel_rfl) (by kernel_rfl) opens70) rfl (by kernel_rfl)))) (fun x : S49 => (x.f0, x.f1)) (fun y => ⟨y.1, y.2⟩) (fun _ => rfl)
def g67 (x : S67) : Prop := (True) ∧ ((Lit.int .i64 x.f1).wf = true)
theorem opens67 : Opens Try.prog k67 g67 67 := opens_iso (opens_struct (P := Try.prog) Try.underlying67 (by kernel_rfl) (opens_cons (opens_bool (P := Try.prog) (T := 4) (by kernel_rfl)) rfl (by kernel_rfl) rfl (opens_last (opens_int (P := Try.prog) (T := 3) (k := .i64) (by kernel_rfl)) rfl (by kernel_rfl)))) (fun x : S67 => (x.f0, x.f1)) (fun y => ⟨y.1, y.2⟩) (fun _ => rfl)
def wharfagelaw13_Cands.PureX : Prop := ∀ (x0 : S49) (x1 : Int) (x2 : List (S67)) (x3 : List (S67)), (g49 x0) → ((Lit.int .i64 x1).wf = true) → (x2.length ≤ 9223372036854775807 ∧ x2.length * 16 ≤ 140737488351232 ∧ ∀ a ∈ x2, g67 a) → (x3.length ≤ 9223372036854775807 ∧ x3.length * 16 ≤ 140737488351232 ∧ ∀ a ∈ x3, g67 a) → wharfagelaw13_Cands.f x0.f0 x0.f1 x1 x2 x3 = some true
theorem wharfagelaw13_Cands.walkX (P : wharfagelaw13_Cands.PureX) (w : World) (x0 : S49) (ar0 : Array Value) (K0 : k49.K w x0 ar0.toList) (G0 : g49 x0) (x1 : Int) (G1 : (Lit.int .i64 x1).wf = true) (x2 : List (S67)) (A2 : Option Addr) (c2 : Nat) (l2 : x2.length ≤ c2) (C2 : Kd.C k67 w A2 x2.length x2) (G2 : x2.length ≤ 9223372036854775807 ∧ x2.length * 16 ≤ 140737488351232 ∧ ∀ a ∈ x2, g67 a) (x3 : List (S67)) (A3 : Option Addr) (c3 : Nat) (l3 : x3.length ≤ c3) (C3 : Kd.C k67 w A3 x3.length x3) (G3 : x3.length ≤ 9223372036854775807 ∧ x3.length * 16 ≤ 140737488351232 ∧ ∀ a ∈ x3, g67 a) :
    Calls Try.prog 7 #[.agg ar0, .int .i64 x1, .slice A2 x2.length c2, .slice A3 x3.length c3] w fun e w' => e = .returned (.bool true) ∧ Below w.heap.size w w' := by
  have h := P x0 x1 x2 x3 G0 G1 G2 G3
  obtain ⟨A0_1, c0_1, hcs0, l0_1, g0_1⟩ := k49_open K0
  obtain rfl : ar0 = #[.int .i64 x0.f0, .slice A0_1 x0.f1.length c0_1] := by rw [← Array.toArray_toList (xs := ar0), hcs0]
  refine (wharfagelaw13_Cands.calls x0.f0 _ _ x0.f1 x1 _ _ x2 _ _ x3 true w g0_1 l0_1 C2 l2 C3 l3 h).mono ?_
  rintro e w' ⟨rfl, hd⟩
  exact ⟨rfl, hd⟩
end Go.Proofs.Ytnocfhnandedoaa.PCands
