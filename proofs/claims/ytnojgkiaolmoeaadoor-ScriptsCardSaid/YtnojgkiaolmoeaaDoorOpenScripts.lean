/- How the arguments of the law Scripts read; its one pure statement; its walk. -/
import Derived.Test.YtnojgkiaolmoeaaDoorPScx0
import Derived.Test.YtnojgkiaolmoeaaDoorPScx38
import Derived.Test.YtnojgkiaolmoeaaDoorRead
namespace Go.Proofs.YtnojgkiaolmoeaaDoor.PSc
open Go.RowKit Go.Proofs.YtnojgkiaolmoeaaDoorW.PrintWords Go.Proofs.YtnojgkiaolmoeaaDoorW.PrintLast Go.Proofs.YtnojgkiaolmoeaaDoorW.PrintMore
open Go.Proofs.YtnojgkiaolmoeaaDoor.Read
set_option linter.unusedVariables false
set_option linter.unusedSimpArgs false
def g65 (x : S65) : Prop := ((Lit.int .i64 x.f0).wf = true) ∧ (True)
theorem opens65 : Opens Tryd.prog k65 g65 65 := opens_iso (opens_struct (P := Tryd.prog) Tryd.underlying65 (by kernel_rfl) (opens_cons (opens_int (P := Tryd.prog) (T := 3) (k := .i64) (by kernel_rfl)) rfl (by kernel_rfl) rfl (opens_last (opens_bool (P := Tryd.prog) (T := 4) (by kernel_rfl)) rfl (by kernel_rfl)))) (fun x : S65 => (x.f0, x.f1)) (fun y => ⟨y.1, y.2⟩) (fun _ => rfl)
def g63 (x : S63) : Prop := ((Lit.int .i64 x.f0).wf = true) ∧ ((True) ∧ (((Lit.int .i64 x.f2).wf = true) ∧ (x.f3.length ≤ 9223372036854775807 ∧ x.f3.length * 16 ≤ 140737488351232 ∧ ∀ a ∈ x.f3, g65 a)))
theorem opens63 : Opens Tryd.prog k63 g63 63 := opens_iso (opens_struct (P := Tryd.prog) Tryd.underlying63 (by kernel_rfl) (opens_cons (opens_int (P := Tryd.prog) (T := 3) (k := .i64) (by kernel_rfl)) rfl (by kernel_rfl) rfl (opens_cons (opens_bool (P := Tryd.prog) (T := 4) (by kernel_rfl)) rfl (by kernel_rfl) rfl (opens_cons (opens_int (P := Tryd.prog) (T := 3) (k := .i64) (by kernel_rfl)) rfl (by kernel_rfl) rfl (opens_last (opens_slice (P := Tryd.prog) (T := 61) (e := 65) (B := 16) (by kernel_rfl) (by kernel_rfl) (by kernel_rfl) opens65) rfl (by kernel_rfl)))))) (fun x : S63 => (x.f0, x.f1, x.f2, x.f3)) (fun y => ⟨y.1, y.2.1, y.2.2.1, y.2.2.2⟩) (fun _ => rfl)
def g38 (x : S38) : Prop := ((Lit.int .i64 x.f0).wf = true) ∧ (x.f1.length ≤ 9223372036854775807 ∧ x.f1.length * 48 ≤ 140737488351232 ∧ ∀ a ∈ x.f1, g63 a)
theorem opens38 : Opens Tryd.prog k38 g38 38 := opens_iso (opens_struct (P := Tryd.prog) Tryd.underlying38 (by kernel_rfl) (opens_cons (opens_int (P := Tryd.prog) (T := 3) (k := .i64) (by kernel_rfl)) rfl (by kernel_rfl) rfl (opens_last (opens_slice (P := Tryd.prog) (T := 36) (e := 63) (B := 48) (by kernel_rfl) (by kernel_rfl) (by kernel_rfl) opens63) rfl (by kernel_rfl)))) (fun x : S38 => (x.f0, x.f1)) (fun y => ⟨y.1, y.2⟩) (fun _ => rfl)
def g40 (x : S40) : Prop := ((Lit.int .i64 x.f0).wf = true) ∧ (((Lit.int .i64 x.f1).wf = true) ∧ (((Lit.int .i64 x.f2).wf = true) ∧ (((Lit.int .i64 x.f3).wf = true) ∧ (((Lit.int .i64 x.f4).wf = true) ∧ (((Lit.int .i64 x.f5).wf = true) ∧ ((True) ∧ ((x.f7.size ≤ 140737488351232) ∧ (g38 x.f8))))))))
theorem opens40 : Opens Tryd.prog k40 g40 40 := opens_iso (opens_struct (P := Tryd.prog) Tryd.underlying40 (by kernel_rfl) (opens_cons (opens_int (P := Tryd.prog) (T := 3) (k := .i64) (by kernel_rfl)) rfl (by kernel_rfl) rfl (opens_cons (opens_int (P := Tryd.prog) (T := 3) (k := .i64) (by kernel_rfl)) rfl (by kernel_rfl) rfl (opens_cons (opens_int (P := Tryd.prog) (T := 3) (k := .i64) (by kernel_rfl)) rfl (by kernel_rfl) rfl (opens_cons (opens_int (P := Tryd.prog) (T := 3) (k := .i64) (by kernel_rfl)) rfl (by kernel_rfl) rfl (opens_cons (opens_int (P := Tryd.prog) (T := 3) (k := .i64) (by kernel_rfl)) rfl (by kernel_rfl) rfl (opens_cons (opens_int (P := Tryd.prog) (T := 3) (k := .i64) (by kernel_rfl)) rfl (by kernel_rfl) rfl (opens_cons (opens_bool (P := Tryd.prog) (T := 4) (by kernel_rfl)) rfl (by kernel_rfl) rfl (opens_cons (opens_string (P := Tryd.prog) (T := 9) (by kernel_rfl)) rfl (by kernel_rfl) rfl (opens_last opens38 rfl (by kernel_rfl))))))))))) (fun x : S40 => (x.f0, x.f1, x.f2, x.f3, x.f4, x.f5, x.f6, x.f7, x.f8)) (fun y => ⟨y.1, y.2.1, y.2.2.1, y.2.2.2.1, y.2.2.2.2.1, y.2.2.2.2.2.1, y.2.2.2.2.2.2.1, y.2.2.2.2.2.2.2.1, y.2.2.2.2.2.2.2.2⟩) (fun _ => rfl)
def wharfagelaw23_Scripts.PureX : Prop := ∀ (x0 : List (S40)) (x1 : ByteArray), (x0.length ≤ 9223372036854775807 ∧ x0.length * 104 ≤ 140737488351232 ∧ ∀ a ∈ x0, g40 a) → (x1.size ≤ 140737488351232) → ∃ k, wharfagelaw23_Scripts.f k x0 x1 = some true
theorem wharfagelaw23_Scripts.walkX (P : wharfagelaw23_Scripts.PureX) (w : World) (ht : Take.Laid w) (x0 : List (S40)) (A0 : Option Addr) (c0 : Nat) (l0 : x0.length ≤ c0) (C0 : Kd.C k40 w A0 x0.length x0) (G0 : x0.length ≤ 9223372036854775807 ∧ x0.length * 104 ≤ 140737488351232 ∧ ∀ a ∈ x0, g40 a) (x1 : ByteArray) (G1 : x1.size ≤ 140737488351232) :
    Calls Tryd.prog 3 #[.slice A0 x0.length c0, .string x1] w fun e w' => e = .returned (.bool true) ∧ Below w.heap.size w w' := by
  obtain ⟨k, h⟩ := P x0 x1 G0 G1
  refine (wharfagelaw23_Scripts.calls k _ _ x0 x1 true w C0 l0 ht h).mono ?_
  rintro e w' ⟨rfl, hd⟩
  exact ⟨rfl, hd⟩
end Go.Proofs.YtnojgkiaolmoeaaDoor.PSc
