/- How the arguments of the law CacheSweeps read; its one pure statement; its walk. -/
import Derived.Test.YtnocfhnandedoabPCacheSweepsx0
import Derived.Test.YtnocfhnandedoabPCacheSweepsx14
import Derived.Test.YtnocfhnandedoabRead
namespace Go.Proofs.Ytnocfhnandedoab.PCacheSweeps
open Go.RowKit Go.Proofs.YtnocfhnandedoabW.PrintWords Go.Proofs.YtnocfhnandedoabW.PrintLast Go.Proofs.YtnocfhnandedoabW.PrintMore
open Go.Proofs.Ytnocfhnandedoab.Read
set_option linter.unusedVariables false
set_option linter.unusedSimpArgs false
def g35 (x : S35) : Prop := ((Lit.int .i64 x.f0).wf = true) ∧ (((Lit.int .i64 x.f1).wf = true) ∧ (((Lit.int .i64 x.f2).wf = true) ∧ (((Lit.int .i64 x.f3).wf = true) ∧ ((Lit.int .i64 x.f4).wf = true))))
theorem opens35 : Opens Try.prog k35 g35 35 := opens_iso (opens_struct (P := Try.prog) Try.underlying35 (by kernel_rfl) (opens_cons (opens_int (P := Try.prog) (T := 3) (k := .i64) (by kernel_rfl)) rfl (by kernel_rfl) rfl (opens_cons (opens_int (P := Try.prog) (T := 3) (k := .i64) (by kernel_rfl)) rfl (by kernel_rfl) rfl (opens_cons (opens_int (P := Try.prog) (T := 3) (k := .i64) (by kernel_rfl)) rfl (by kernel_rfl) rfl (opens_cons (opens_int (P := Try.prog) (T := 3) (k := .i64) (by kernel_rfl)) rfl (by kernel_rfl) rfl (opens_last (opens_int (P := Try.prog) (T := 3) (k := .i64) (by kernel_rfl)) rfl (by kernel_rfl))))))) (fun x : S35 => (x.f0, x.f1, x.f2, x.f3, x.f4)) (fun y => ⟨y.1, y.2.1, y.2.2.1, y.2.2.2.1, y.2.2.2.2⟩) (fun _ => rfl)
def g37 (x : S37) : Prop := (g35 x.f0) ∧ (((Lit.int .i64 x.f1).wf = true) ∧ ((True) ∧ (((Lit.int .i64 x.f3).wf = true) ∧ ((Lit.int .i64 x.f4).wf = true))))
theorem opens37 : Opens Try.prog k37 g37 37 := opens_iso (opens_struct (P := Try.prog) Try.underlying37 (by kernel_rfl) (opens_cons opens35 rfl (by kernel_rfl) rfl (opens_cons (opens_int (P := Try.prog) (T := 3) (k := .i64) (by kernel_rfl)) rfl (by kernel_rfl) rfl (opens_cons (opens_bool (P := Try.prog) (T := 4) (by kernel_rfl)) rfl (by kernel_rfl) rfl (opens_cons (opens_int (P := Try.prog) (T := 3) (k := .i64) (by kernel_rfl)) rfl (by kernel_rfl) rfl (opens_last (opens_int (P := Try.prog) (T := 3) (k := .i64) (by kernel_rfl)) rfl (by kernel_rfl))))))) (fun x : S37 => (x.f0, x.f1, x.f2, x.f3, x.f4)) (fun y => ⟨y.1, y.2.1, y.2.2.1, y.2.2.2.1, y.2.2.2.2⟩) (fun _ => rfl)
def wharfagelaw16_CacheSweeps.PureX : Prop := ∀ (x0 : List (S37)) (x1 : Int), (x0.length ≤ 9223372036854775807 ∧ x0.length * 72 ≤ 140737488351232 ∧ ∀ a ∈ x0, g37 a) → ((Lit.int .i64 x1).wf = true) → wharfagelaw16_CacheSweeps.f x0 x1 = some true
theorem wharfagelaw16_CacheSweeps.walkX (P : wharfagelaw16_CacheSweeps.PureX) (w : World) (x0 : List (S37)) (A0 : Option Addr) (c0 : Nat) (l0 : x0.length ≤ c0) (C0 : Kd.C k37 w A0 x0.length x0) (G0 : x0.length ≤ 9223372036854775807 ∧ x0.length * 72 ≤ 140737488351232 ∧ ∀ a ∈ x0, g37 a) (x1 : Int) (G1 : (Lit.int .i64 x1).wf = true) :
    Calls Try.prog 7 #[.slice A0 x0.length c0, .int .i64 x1] w fun e w' => e = .returned (.bool true) ∧ Below w.heap.size w w' := by
  have h := P x0 x1 G0 G1
  refine (wharfagelaw16_CacheSweeps.calls _ _ x0 x1 true w C0 l0 h).mono ?_
  rintro e w' ⟨rfl, hd⟩
  exact ⟨rfl, hd⟩
end Go.Proofs.Ytnocfhnandedoab.PCacheSweeps
