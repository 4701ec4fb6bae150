/- How the arguments of the law ConfHas read; its one pure statement; its walk. -/
import Derived.Test.YtcefplpmpmlboabPConfx0
import Derived.Test.YtcefplpmpmlboabPConfx13
import Derived.Test.YtcefplpmpmlboabRead
namespace Go.Proofs.Ytcefplpmpmlboab.PConf
open Go.RowKit Go.Proofs.YtcefplpmpmlboabW.PrintWords Go.Proofs.YtcefplpmpmlboabW.PrintLast Go.Proofs.YtcefplpmpmlboabW.PrintMore
open Go.Proofs.Ytcefplpmpmlboab.Read
set_option linter.unusedVariables false
set_option linter.unusedSimpArgs false
def g38 (x : S38) : Prop := ((Lit.int .i64 x.f0).wf = true) ∧ (True)
theorem opens38 : Opens Try.prog k38 g38 38 := opens_iso (opens_struct (P := Try.prog) Try.underlying38 (by kernel_rfl) (opens_cons (opens_int (P := Try.prog) (T := 3) (k := .i64) (by kernel_rfl)) rfl (by kernel_rfl) rfl (opens_last (opens_bool (P := Try.prog) (T := 4) (by kernel_rfl)) rfl (by kernel_rfl)))) (fun x : S38 => (x.f0, x.f1)) (fun y => ⟨y.1, y.2⟩) (fun _ => rfl)
def g29 (x : S29) : Prop := ((Lit.int .i64 x.f0).wf = true) ∧ ((True) ∧ (((Lit.int .i64 x.f2).wf = true) ∧ (x.f3.length ≤ 9223372036854775807 ∧ x.f3.length * 16 ≤ 140737488351232 ∧ ∀ a ∈ x.f3, g38 a)))
theorem opens29 : Opens Try.prog k29 g29 29 := opens_iso (opens_struct (P := Try.prog) Try.underlying29 (by kernel_rfl) (opens_cons (opens_int (P := Try.prog) (T := 3) (k := .i64) (by kernel_rfl)) rfl (by kernel_rfl) rfl (opens_cons (opens_bool (P := Try.prog) (T := 4) (by kernel_rfl)) rfl (by kernel_rfl) rfl (opens_cons (opens_int (P := Try.prog) (T := 3) (k := .i64) (by kernel_rfl)) rfl (by kernel_rfl) rfl (opens_last (opens_slice (P := Try.prog) (T := 27) (e := 38) (B := 16) (by kernel_rfl) (by kernel_rfl) (by kernel_rfl) opens38) rfl (by kernel_rfl)))))) (fun x : S29 => (x.f0, x.f1, x.f2, x.f3)) (fun y => ⟨y.1, y.2.1, y.2.2.1, y.2.2.2⟩) (fun _ => rfl)
def g26 (x : S26) : Prop := ((Lit.int .i64 x.f0).wf = true) ∧ (x.f1.length ≤ 9223372036854775807 ∧ x.f1.length * 48 ≤ 140737488351232 ∧ ∀ a ∈ x.f1, g29 a)
theorem opens26 : Opens Try.prog k26 g26 26 := opens_iso (opens_struct (P := Try.prog) Try.underlying26 (by kernel_rfl) (opens_cons (opens_int (P := Try.prog) (T := 3) (k := .i64) (by kernel_rfl)) rfl (by kernel_rfl) rfl (opens_last (opens_slice (P := Try.prog) (T := 24) (e := 29) (B := 48) (by kernel_rfl) (by kernel_rfl) (by kernel_rfl) opens29) rfl (by kernel_rfl)))) (fun x : S26 => (x.f0, x.f1)) (fun y => ⟨y.1, y.2⟩) (fun _ => rfl)
def wharfagelaw10_ConfHas.PureX : Prop := ∀ (x0 : S26), (g26 x0) → wharfagelaw10_ConfHas.f x0.f0 x0.f1 = some true
theorem wharfagelaw10_ConfHas.walkX (P : wharfagelaw10_ConfHas.PureX) (w : World) (x0 : S26) (ar0 : Array Value) (K0 : k26.K w x0 ar0.toList) (G0 : g26 x0) :
    Calls Try.prog 5 #[.agg ar0] w fun e w' => e = .returned (.bool true) ∧ Below w.heap.size w w' := by
  have h := P x0 G0
  obtain ⟨A0_1, c0_1, hcs0, l0_1, g0_1⟩ := k26_open K0
  obtain rfl : ar0 = #[.int .i64 x0.f0, .slice A0_1 x0.f1.length c0_1] := by rw [← Array.toArray_toList (xs := ar0), hcs0]
  refine (wharfagelaw10_ConfHas.calls x0.f0 _ _ x0.f1 true w g0_1 l0_1 h).mono ?_
  rintro e w' ⟨rfl, hd⟩
  exact ⟨rfl, hd⟩
end Go.Proofs.Ytcefplpmpmlboab.PConf
