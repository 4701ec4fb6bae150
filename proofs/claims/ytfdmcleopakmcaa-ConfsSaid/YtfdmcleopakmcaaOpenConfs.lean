/- How the arguments of the law Confs read; its one pure statement; its walk. -/
import Derived.Test.YtfdmcleopakmcaaPConfsx0
import Derived.Test.YtfdmcleopakmcaaPConfsx17
import Derived.Test.YtfdmcleopakmcaaRead
namespace Go.Proofs.Ytfdmcleopakmcaa.PConfs
open Go.RowKit Go.Proofs.YtfdmcleopakmcaaW.PrintWords Go.Proofs.YtfdmcleopakmcaaW.PrintLast Go.Proofs.YtfdmcleopakmcaaW.PrintMore
open Go.Proofs.Ytfdmcleopakmcaa.Read
set_option linter.unusedVariables false
set_option linter.unusedSimpArgs false
def g44 (x : S44) : Prop := ((Lit.int .i64 x.f0).wf = true) ∧ (True)
theorem opens44 : Opens Try.prog k44 g44 44 := opens_iso (opens_struct (P := Try.prog) Try.underlying44 (by kernel_rfl) (opens_cons (opens_int (P := Try.prog) (T := 3) (k := .i64) (by kernel_rfl)) rfl (by kernel_rfl) rfl (opens_last (opens_bool (P := Try.prog) (T := 4) (by kernel_rfl)) rfl (by kernel_rfl)))) (fun x : S44 => (x.f0, x.f1)) (fun y => ⟨y.1, y.2⟩) (fun _ => rfl)
def g42 (x : S42) : Prop := ((Lit.int .i64 x.f0).wf = true) ∧ ((True) ∧ (((Lit.int .i64 x.f2).wf = true) ∧ (x.f3.length ≤ 9223372036854775807 ∧ x.f3.length * 16 ≤ 140737488351232 ∧ ∀ a ∈ x.f3, g44 a)))
theorem opens42 : Opens Try.prog k42 g42 42 := opens_iso (opens_struct (P := Try.prog) Try.underlying42 (by kernel_rfl) (opens_cons (opens_int (P := Try.prog) (T := 3) (k := .i64) (by kernel_rfl)) rfl (by kernel_rfl) rfl (opens_cons (opens_bool (P := Try.prog) (T := 4) (by kernel_rfl)) rfl (by kernel_rfl) rfl (opens_cons (opens_int (P := Try.prog) (T := 3) (k := .i64) (by kernel_rfl)) rfl (by kernel_rfl) rfl (opens_last (opens_slice (P := Try.prog) (T := 40) (e := 44) (B := 16) (by kernel_rfl) (by kernel_rfl) (by kernel_rfl) opens44) rfl (by kernel_rfl)))))) (fun x : S42 => (x.f0, x.f1, x.f2, x.f3)) (fun y => ⟨y.1, y.2.1, y.2.2.1, y.2.2.2⟩) (fun _ => rfl)
def g24 (x : S24) : Prop := ((Lit.int .i64 x.f0).wf = true) ∧ (x.f1.length ≤ 9223372036854775807 ∧ x.f1.length * 48 ≤ 140737488351232 ∧ ∀ a ∈ x.f1, g42 a)
theorem opens24 : Opens Try.prog k24 g24 24 := opens_iso (opens_struct (P := Try.prog) Try.underlying24 (by kernel_rfl) (opens_cons (opens_int (P := Try.prog) (T := 3) (k := .i64) (by kernel_rfl)) rfl (by kernel_rfl) rfl (opens_last (opens_slice (P := Try.prog) (T := 22) (e := 42) (B := 48) (by kernel_rfl) (by kernel_rfl) (by kernel_rfl) opens42) rfl (by kernel_rfl)))) (fun x : S24 => (x.f0, x.f1)) (fun y => ⟨y.1, y.2⟩) (fun _ => rfl)
def wharfagelaw10_Confs.PureX : Prop := ∀ (x0 : S24) (x1 : S24) (x2 : Int) (x3 : Int), (g24 x0) → (g24 x1) → ((Lit.int .i64 x2).wf = true) → ((Lit.int .i64 x3).wf = true) → wharfagelaw10_Confs.f x0.f0 x0.f1 x1.f0 x1.f1 x2 x3 = some true
theorem wharfagelaw10_Confs.walkX (P : wharfagelaw10_Confs.PureX) (w : World) (x0 : S24) (ar0 : Array Value) (K0 : k24.K w x0 ar0.toList) (G0 : g24 x0) (x1 : S24) (ar1 : Array Value) (K1 : k24.K w x1 ar1.toList) (G1 : g24 x1) (x2 : Int) (G2 : (Lit.int .i64 x2).wf = true) (x3 : Int) (G3 : (Lit.int .i64 x3).wf = true) :
    Calls Try.prog 3 #[.agg ar0, .agg ar1, .int .i64 x2, .int .i64 x3] w fun e w' => e = .returned (.bool true) ∧ Below w.heap.size w w' := by
  have h := P x0 x1 x2 x3 G0 G1 G2 G3
  obtain ⟨A0_1, c0_1, hcs0, l0_1, g0_1⟩ := k24_open K0
  obtain rfl : ar0 = #[.int .i64 x0.f0, .slice A0_1 x0.f1.length c0_1] := by rw [← Array.toArray_toList (xs := ar0), hcs0]
  obtain ⟨A1_1, c1_1, hcs1, l1_1, g1_1⟩ := k24_open K1
  obtain rfl : ar1 = #[.int .i64 x1.f0, .slice A1_1 x1.f1.length c1_1] := by rw [← Array.toArray_toList (xs := ar1), hcs1]
  refine (wharfagelaw10_Confs.calls x0.f0 _ _ x0.f1 x1.f0 _ _ x1.f1 x2 x3 true w g0_1 l0_1 g1_1 l1_1 h).mono ?_
  rintro e w' ⟨rfl, hd⟩
  exact ⟨rfl, hd⟩
end Go.Proofs.Ytfdmcleopakmcaa.PConfs
