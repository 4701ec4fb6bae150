/- How the arguments of the law EventWords read; its one pure statement; its walk. -/
import Derived.Test.YtldfgigajdjcdaaDoorPEventsx0
import Derived.Test.YtldfgigajdjcdaaDoorPEventsx10
import Derived.Test.YtldfgigajdjcdaaDoorRead
namespace Go.Proofs.YtldfgigajdjcdaaDoor.PEvents
open Go.RowKit Go.Proofs.YtldfgigajdjcdaaDoorW.PrintWords Go.Proofs.YtldfgigajdjcdaaDoorW.PrintLast Go.Proofs.YtldfgigajdjcdaaDoorW.PrintMore
open Go.Proofs.YtldfgigajdjcdaaDoor.Read
set_option linter.unusedVariables false
set_option linter.unusedSimpArgs false
def g23 (x : S23) : Prop := ((Lit.int .i64 x.f0).wf = true) ∧ (((Lit.int .i64 x.f1).wf = true) ∧ (((Lit.int .i64 x.f2).wf = true) ∧ (((Lit.int .i64 x.f3).wf = true) ∧ ((Lit.int .i64 x.f4).wf = true))))
theorem opens23 : Opens Tryd.prog k23 g23 23 := opens_iso (opens_struct (P := Tryd.prog) Tryd.underlying23 (by kernel_rfl) (opens_cons (opens_int (P := Tryd.prog) (T := 3) (k := .i64) (by kernel_rfl)) rfl (by kernel_rfl) rfl (opens_cons (opens_int (P := Tryd.prog) (T := 3) (k := .i64) (by kernel_rfl)) rfl (by kernel_rfl) rfl (opens_cons (opens_int (P := Tryd.prog) (T := 3) (k := .i64) (by kernel_rfl)) rfl (by kernel_rfl) rfl (opens_cons (opens_int (P := Tryd.prog) (T := 3) (k := .i64) (by kernel_rfl)) rfl (by kernel_rfl) rfl (opens_last (opens_int (P := Tryd.prog) (T := 3) (k := .i64) (by kernel_rfl)) rfl (by kernel_rfl))))))) (fun x : S23 => (x.f0, x.f1, x.f2, x.f3, x.f4)) (fun y => ⟨y.1, y.2.1, y.2.2.1, y.2.2.2.1, y.2.2.2.2⟩) (fun _ => rfl)
def g25 (x : S25) : Prop := ((Lit.int .i64 x.f0).wf = true) ∧ (((Lit.int .i64 x.f1).wf = true) ∧ (((Lit.int .i64 x.f2).wf = true) ∧ (((Lit.int .i64 x.f3).wf = true) ∧ (((Lit.int .i64 x.f4).wf = true) ∧ (g23 x.f5)))))
theorem opens25 : Opens Tryd.prog k25 g25 25 := opens_iso (opens_struct (P := Tryd.prog) Tryd.underlying25 (by kernel_rfl) (opens_cons (opens_int (P := Tryd.prog) (T := 3) (k := .i64) (by kernel_rfl)) rfl (by kernel_rfl) rfl (opens_cons (opens_int (P := Tryd.prog) (T := 3) (k := .i64) (by kernel_rfl)) rfl (by kernel_rfl) rfl (opens_cons (opens_int (P := Tryd.prog) (T := 3) (k := .i64) (by kernel_rfl)) rfl (by kernel_rfl) rfl (opens_cons (opens_int (P := Tryd.prog) (T := 3) (k := .i64) (by kernel_rfl)) rfl (by kernel_rfl) rfl (opens_cons (opens_int (P := Tryd.prog) (T := 3) (k := .i64) (by kernel_rfl)) rfl (by kernel_rfl) rfl (opens_last opens23 rfl (by kernel_rfl)))))))) (fun x : S25 => (x.f0, x.f1, x.f2, x.f3, x.f4, x.f5)) (fun y => ⟨y.1, y.2.1, y.2.2.1, y.2.2.2.1, y.2.2.2.2.1, y.2.2.2.2.2⟩) (fun _ => rfl)
def wharfagelaw18_EventWords.PureX : Prop := ∀ (x0 : S25), (g25 x0) → ∃ k, wharfagelaw18_EventWords.f k x0.f0 x0.f1 x0.f2 x0.f3 x0.f4 x0.f5.f0 x0.f5.f1 x0.f5.f2 x0.f5.f3 x0.f5.f4 = some true
theorem wharfagelaw18_EventWords.walkX (P : wharfagelaw18_EventWords.PureX) (w : World) (ht : Lib.TabIs Tryd.prog w "internal/strconv.uint64pow10" .u64 Lib.pow10Tab) (x0 : S25) (ar0 : Array Value) (K0 : k25.K w x0 ar0.toList) (G0 : g25 x0) :
    Calls Tryd.prog 5 #[.agg ar0] w fun e w' => e = .returned (.bool true) ∧ Below w.heap.size w w' := by
  obtain ⟨k, h⟩ := P x0 G0
  have hcs0 := k25_open K0
  obtain rfl : ar0 = #[.int .i64 x0.f0, .int .i64 x0.f1, .int .i64 x0.f2, .int .i64 x0.f3, .int .i64 x0.f4, .int .i64 x0.f5.f0, .int .i64 x0.f5.f1, .int .i64 x0.f5.f2, .int .i64 x0.f5.f3, .int .i64 x0.f5.f4] := by rw [← Array.toArray_toList (xs := ar0), hcs0]
  refine (wharfagelaw18_EventWords.calls k x0.f0 x0.f1 x0.f2 x0.f3 x0.f4 x0.f5.f0 x0.f5.f1 x0.f5.f2 x0.f5.f3 x0.f5.f4 true w ht h).mono ?_
  rintro e w' ⟨rfl, hd⟩
  exact ⟨rfl, hd⟩
end Go.Proofs.YtldfgigajdjcdaaDoor.PEvents
