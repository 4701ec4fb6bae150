/- How the arguments of the law Views read; its one pure statement; its walk. -/
import Derived.Test.YtnocfhnandedoabPViewx0
import Derived.Test.YtnocfhnandedoabPViewx24
import Derived.Test.YtnocfhnandedoabRead
namespace Go.Proofs.Ytnocfhnandedoab.PView
open Go.RowKit Go.Proofs.YtnocfhnandedoabW.PrintWords Go.Proofs.YtnocfhnandedoabW.PrintLast Go.Proofs.YtnocfhnandedoabW.PrintMore
open Go.Proofs.Ytnocfhnandedoab.Read
set_option linter.unusedVariables false
set_option linter.unusedSimpArgs false
def g68 (x : S68) : Prop := ((Lit.int .i64 x.f0).wf = true) ∧ (((Lit.int .i64 x.f1).wf = true) ∧ (((Lit.int .i64 x.f2).wf = true) ∧ ((Lit.int .i64 x.f3).wf = true)))
theorem opens68 : Opens Try.prog k68 g68 68 := opens_iso (opens_struct (P := Try.prog) Try.underlying68 (by kernel_rfl) (opens_cons (opens_int (P := Try.prog) (T := 3) (k := .i64) (by kernel_rfl)) rfl (by kernel_rfl) rfl (opens_cons (opens_int (P := Try.prog) (T := 3) (k := .i64) (by kernel_rfl)) rfl (by kernel_rfl) rfl (opens_cons (opens_int (P := Try.prog) (T := 3) (k := .i64) (by kernel_rfl)) rfl (by kernel_rfl) rfl (opens_last (opens_int (P := Try.prog) (T := 3) (k := .i64) (by kernel_rfl)) rfl (by kernel_rfl)))))) (fun x : S68 => (x.f0, x.f1, x.f2, x.f3)) (fun y => ⟨y.1, y.2.1, y.2.2.1, y.2.2.2⟩) (fun _ => rfl)
def g85 (x : S85) : Prop := (g68 x.f0) ∧ ((Lit.int .i64 x.f1).wf = true)
theorem opens85 : Opens Try.prog k85 g85 85 := opens_iso (opens_struct (P := Try.prog) Try.underlying85 (by kernel_rfl) (opens_cons opens68 rfl (by kernel_rfl) rfl (opens_last (opens_int (P := Try.prog) (T := 3) (k := .i64) (by kernel_rfl)) rfl (by kernel_rfl)))) (fun x : S85 => (x.f0, x.f1)) (fun y => ⟨y.1, y.2⟩) (fun _ => rfl)
def wharfagelaw12_Views.PureX : Prop := ∀ (x0 : List (S85)) (x1 : S68) (x2 : Int) (x3 : Int), (x0.length ≤ 9223372036854775807 ∧ x0.length * 40 ≤ 140737488351232 ∧ ∀ a ∈ x0, g85 a) → (g68 x1) → ((Lit.int .i64 x2).wf = true) → ((Lit.int .i64 x3).wf = true) → wharfagelaw12_Views.f x0 x1.f0 x1.f1 x1.f2 x1.f3 x2 x3 = some true
theorem wharfagelaw12_Views.walkX (P : wharfagelaw12_Views.PureX) (w : World) (x0 : List (S85)) (A0 : Option Addr) (c0 : Nat) (l0 : x0.length ≤ c0) (C0 : Kd.C k85 w A0 x0.length x0) (G0 : x0.length ≤ 9223372036854775807 ∧ x0.length * 40 ≤ 140737488351232 ∧ ∀ a ∈ x0, g85 a) (x1 : S68) (ar1 : Array Value) (K1 : k68.K w x1 ar1.toList) (G1 : g68 x1) (x2 : Int) (G2 : (Lit.int .i64 x2).wf = true) (x3 : Int) (G3 : (Lit.int .i64 x3).wf = true) :
    Calls Try.prog 10 #[.slice A0 x0.length c0, .agg ar1, .int .i64 x2, .int .i64 x3] w fun e w' => e = .returned (.bool true) ∧ Below w.heap.size w w' := by
  have h := P x0 x1 x2 x3 G0 G1 G2 G3
  have hcs1 := k68_open K1
  obtain rfl : ar1 = #[.int .i64 x1.f0, .int .i64 x1.f1, .int .i64 x1.f2, .int .i64 x1.f3] := by rw [← Array.toArray_toList (xs := ar1), hcs1]
  refine (wharfagelaw12_Views.calls _ _ x0 x1.f0 x1.f1 x1.f2 x1.f3 x2 x3 true w C0 l0 h).mono ?_
  rintro e w' ⟨rfl, hd⟩
  exact ⟨rfl, hd⟩
end Go.Proofs.Ytnocfhnandedoab.PView
