/- How the arguments of the law ReportUnlike read; its one pure statement; its walk. -/
import Derived.Test.YtnocfhnandedoaaPReportx0
import Derived.Test.YtnocfhnandedoaaPReportx22
import Derived.Test.YtnocfhnandedoaaRead
namespace Go.Proofs.Ytnocfhnandedoaa.PReport
open Go.RowKit Go.Proofs.YtnocfhnandedoaaW.PrintWords Go.Proofs.YtnocfhnandedoaaW.PrintLast Go.Proofs.YtnocfhnandedoaaW.PrintMore
open Go.Proofs.Ytnocfhnandedoaa.Read
set_option linter.unusedVariables false
set_option linter.unusedSimpArgs false
def g23 (x : S23) : Prop := ((Lit.int .i64 x.f0).wf = true) ∧ (((Lit.int .i64 x.f1).wf = true) ∧ (((Lit.int .i64 x.f2).wf = true) ∧ ((Lit.int .i64 x.f3).wf = true)))
theorem opens23 : Opens Try.prog k23 g23 23 := opens_iso (opens_struct (P := Try.prog) Try.underlying23 (by kernel_rfl) (opens_cons (opens_int (P := Try.prog) (T := 3) (k := .i64) (by kernel_rfl)) rfl (by kernel_rfl) rfl (opens_cons (opens_int (P := Try.prog) (T := 3) (k := .i64) (by kernel_rfl)) rfl (by kernel_rfl) rfl (opens_cons (opens_int (P := Try.prog) (T := 3) (k := .i64) (by kernel_rfl)) rfl (by kernel_rfl) rfl (opens_last (opens_int (P := Try.prog) (T := 3) (k := .i64) (by kernel_rfl)) rfl (by kernel_rfl)))))) (fun x : S23 => (x.f0, x.f1, x.f2, x.f3)) (fun y => ⟨y.1, y.2.1, y.2.2.1, y.2.2.2⟩) (fun _ => rfl)
def wharfagelaw7_ReportUnlike.PureX : Prop := ∀ (x0 : S23) (x1 : S23), (g23 x0) → (g23 x1) → ∃ k, wharfagelaw7_ReportUnlike.f k x0.f0 x0.f1 x0.f2 x0.f3 x1.f0 x1.f1 x1.f2 x1.f3 = some true
theorem wharfagelaw7_ReportUnlike.walkX (P : wharfagelaw7_ReportUnlike.PureX) (w : World) (x0 : S23) (ar0 : Array Value) (K0 : k23.K w x0 ar0.toList) (G0 : g23 x0) (x1 : S23) (ar1 : Array Value) (K1 : k23.K w x1 ar1.toList) (G1 : g23 x1) :
    Calls Try.prog 6 #[.agg ar0, .agg ar1] w fun e w' => e = .returned (.bool true) ∧ Below w.heap.size w w' := by
  obtain ⟨k, h⟩ := P x0 x1 G0 G1
  have hcs0 := k23_open K0
  obtain rfl : ar0 = #[.int .i64 x0.f0, .int .i64 x0.f1, .int .i64 x0.f2, .int .i64 x0.f3] := by rw [← Array.toArray_toList (xs := ar0), hcs0]
  have hcs1 := k23_open K1
  obtain rfl : ar1 = #[.int .i64 x1.f0, .int .i64 x1.f1, .int .i64 x1.f2, .int .i64 x1.f3] := by rw [← Array.toArray_toList (xs := ar1), hcs1]
  refine (wharfagelaw7_ReportUnlike.calls k x0.f0 x0.f1 x0.f2 x0.f3 x1.f0 x1.f1 x1.f2 x1.f3 true w  h).mono ?_
  rintro e w' ⟨rfl, hd⟩
  exact ⟨rfl, hd⟩
end Go.Proofs.Ytnocfhnandedoaa.PReport
