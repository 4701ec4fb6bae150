/- How the arguments of the law EntryOnce read; its one pure statement; its walk. -/
import Derived.Test.YtcefplpmpmlboabPEntryx0
import Derived.Test.YtcefplpmpmlboabPEntryx19
import Derived.Test.YtcefplpmpmlboabRead
namespace Go.Proofs.Ytcefplpmpmlboab.PEntry
open Go.RowKit Go.Proofs.YtcefplpmpmlboabW.PrintWords Go.Proofs.YtcefplpmpmlboabW.PrintLast Go.Proofs.YtcefplpmpmlboabW.PrintMore
open Go.Proofs.Ytcefplpmpmlboab.Read
set_option linter.unusedVariables false
set_option linter.unusedSimpArgs false
def g44 (x : S44) : Prop := ((Lit.int .i64 x.f0).wf = true) ∧ (((Lit.int .i64 x.f1).wf = true) ∧ (((Lit.int .i64 x.f2).wf = true) ∧ (((Lit.int .i64 x.f3).wf = true) ∧ ((Lit.int .i64 x.f4).wf = true))))
theorem opens44 : Opens Try.prog k44 g44 44 := opens_iso (opens_struct (P := Try.prog) Try.underlying44 (by kernel_rfl) (opens_cons (opens_int (P := Try.prog) (T := 3) (k := .i64) (by kernel_rfl)) rfl (by kernel_rfl) rfl (opens_cons (opens_int (P := Try.prog) (T := 3) (k := .i64) (by kernel_rfl)) rfl (by kernel_rfl) rfl (opens_cons (opens_int (P := Try.prog) (T := 3) (k := .i64) (by kernel_rfl)) rfl (by kernel_rfl) rfl (opens_cons (opens_int (P := Try.prog) (T := 3) (k := .i64) (by kernel_rfl)) rfl (by kernel_rfl) rfl (opens_last (opens_int (P := Try.prog) (T := 3) (k := .i64) (by kernel_rfl)) rfl (by kernel_rfl))))))) (fun x : S44 => (x.f0, x.f1, x.f2, x.f3, x.f4)) (fun y => ⟨y.1, y.2.1, y.2.2.1, y.2.2.2.1, y.2.2.2.2⟩) (fun _ => rfl)
def g46 (x : S46) : Prop := (g44 x.f0) ∧ (((Lit.int .i64 x.f1).wf = true) ∧ ((True) ∧ (((Lit.int .i64 x.f3).wf = true) ∧ ((Lit.int .i64 x.f4).wf = true))))
theorem opens46 : Opens Try.prog k46 g46 46 := opens_iso (opens_struct (P := Try.prog) Try.underlying46 (by kernel_rfl) (opens_cons opens44 rfl (by kernel_rfl) rfl (opens_cons (opens_int (P := Try.prog) (T := 3) (k := .i64) (by kernel_rfl)) rfl (by kernel_rfl) rfl (opens_cons (opens_bool (P := Try.prog) (T := 4) (by kernel_rfl)) rfl (by kernel_rfl) rfl (opens_cons (opens_int (P := Try.prog) (T := 3) (k := .i64) (by kernel_rfl)) rfl (by kernel_rfl) rfl (opens_last (opens_int (P := Try.prog) (T := 3) (k := .i64) (by kernel_rfl)) rfl (by kernel_rfl))))))) (fun x : S46 => (x.f0, x.f1, x.f2, x.f3, x.f4)) (fun y => ⟨y.1, y.2.1, y.2.2.1, y.2.2.2.1, y.2.2.2.2⟩) (fun _ => rfl)
def wharfagelaw15_EntryOnce.PureX : Prop := ∀ (x0 : S46) (x1 : Int) (x2 : Int), (g46 x0) → ((Lit.int .i64 x1).wf = true) → ((Lit.int .i64 x2).wf = true) → ∃ k, wharfagelaw15_EntryOnce.f k x0.f0.f0 x0.f0.f1 x0.f0.f2 x0.f0.f3 x0.f0.f4 x0.f1 x0.f2 x0.f3 x0.f4 x1 x2 = some true
theorem wharfagelaw15_EntryOnce.walkX (P : wharfagelaw15_EntryOnce.PureX) (w : World) (x0 : S46) (ar0 : Array Value) (K0 : k46.K w x0 ar0.toList) (G0 : g46 x0) (x1 : Int) (G1 : (Lit.int .i64 x1).wf = true) (x2 : Int) (G2 : (Lit.int .i64 x2).wf = true) :
    Calls Try.prog 10 #[.agg ar0, .int .i64 x1, .int .i64 x2] w fun e w' => e = .returned (.bool true) ∧ Below w.heap.size w w' := by
  obtain ⟨k, h⟩ := P x0 x1 x2 G0 G1 G2
  have hcs0 := k46_open K0
  obtain rfl : ar0 = #[.int .i64 x0.f0.f0, .int .i64 x0.f0.f1, .int .i64 x0.f0.f2, .int .i64 x0.f0.f3, .int .i64 x0.f0.f4, .int .i64 x0.f1, .bool x0.f2, .int .i64 x0.f3, .int .i64 x0.f4] := by rw [← Array.toArray_toList (xs := ar0), hcs0]
  refine (wharfagelaw15_EntryOnce.calls k x0.f0.f0 x0.f0.f1 x0.f0.f2 x0.f0.f3 x0.f0.f4 x0.f1 x0.f2 x0.f3 x0.f4 x1 x2 true w  h).mono ?_
  rintro e w' ⟨rfl, hd⟩
  exact ⟨rfl, hd⟩
end Go.Proofs.Ytcefplpmpmlboab.PEntry
