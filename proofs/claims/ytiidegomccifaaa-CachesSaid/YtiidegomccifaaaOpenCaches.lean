/- How the arguments of the law Caches read; its one pure statement; its walk. -/
import Derived.Test.YtiidegomccifaaaPCachesx0
import Derived.Test.YtiidegomccifaaaPCachesx28
import Derived.Test.YtiidegomccifaaaRead
namespace Go.Proofs.Ytiidegomccifaaa.PCaches
open Go.RowKit Go.Proofs.YtiidegomccifaaaW.PrintWords Go.Proofs.YtiidegomccifaaaW.PrintLast Go.Proofs.YtiidegomccifaaaW.PrintMore
open Go.Proofs.Ytiidegomccifaaa.Read
set_option linter.unusedVariables false
set_option linter.unusedSimpArgs false
def g24 (x : S24) : Prop := ((Lit.int .i64 x.f0).wf = true) ∧ (((Lit.int .i64 x.f1).wf = true) ∧ (((Lit.int .i64 x.f2).wf = true) ∧ (((Lit.int .i64 x.f3).wf = true) ∧ ((Lit.int .i64 x.f4).wf = true))))
theorem opens24 : Opens Try.prog k24 g24 24 := opens_iso (opens_struct (P := Try.prog) Try.underlying24 (by kernel_rfl) (opens_cons (opens_int (P := Try.prog) (T := 3) (k := .i64) (by kernel_rfl)) rfl (by kernel_rfl) rfl (opens_cons (opens_int (P := Try.prog) (T := 3) (k := .i64) (by kernel_rfl)) rfl (by kernel_rfl) rfl (opens_cons (opens_int (P := Try.prog) (T := 3) (k := .i64) (by kernel_rfl)) rfl (by kernel_rfl) rfl (opens_cons (opens_int (P := Try.prog) (T := 3) (k := .i64) (by kernel_rfl)) rfl (by kernel_rfl) rfl (opens_last (opens_int (P := Try.prog) (T := 3) (k := .i64) (by kernel_rfl)) rfl (by kernel_rfl))))))) (fun x : S24 => (x.f0, x.f1, x.f2, x.f3, x.f4)) (fun y => ⟨y.1, y.2.1, y.2.2.1, y.2.2.2.1, y.2.2.2.2⟩) (fun _ => rfl)
def g26 (x : S26) : Prop := (g24 x.f0) ∧ (((Lit.int .i64 x.f1).wf = true) ∧ ((True) ∧ (((Lit.int .i64 x.f3).wf = true) ∧ ((Lit.int .i64 x.f4).wf = true))))
theorem opens26 : Opens Try.prog k26 g26 26 := opens_iso (opens_struct (P := Try.prog) Try.underlying26 (by kernel_rfl) (opens_cons opens24 rfl (by kernel_rfl) rfl (opens_cons (opens_int (P := Try.prog) (T := 3) (k := .i64) (by kernel_rfl)) rfl (by kernel_rfl) rfl (opens_cons (opens_bool (P := Try.prog) (T := 4) (by kernel_rfl)) rfl (by kernel_rfl) rfl (opens_cons (opens_int (P := Try.prog) (T := 3) (k := .i64) (by kernel_rfl)) rfl (by kernel_rfl) rfl (opens_last (opens_int (P := Try.prog) (T := 3) (k := .i64) (by kernel_rfl)) rfl (by kernel_rfl))))))) (fun x : S26 => (x.f0, x.f1, x.f2, x.f3, x.f4)) (fun y => ⟨y.1, y.2.1, y.2.2.1, y.2.2.2.1, y.2.2.2.2⟩) (fun _ => rfl)
def wharfagelaw16_Caches.PureX : Prop := ∀ (x0 : List (S26)) (x1 : S26) (x2 : S24) (x3 : Int), (x0.length ≤ 9223372036854775807 ∧ x0.length * 72 ≤ 140737488351232 ∧ ∀ a ∈ x0, g26 a) → (g26 x1) → (g24 x2) → ((Lit.int .i64 x3).wf = true) → wharfagelaw16_Caches.f x0 x1.f0.f0 x1.f0.f1 x1.f0.f2 x1.f0.f3 x1.f0.f4 x1.f1 x1.f2 x1.f3 x1.f4 x2.f0 x2.f1 x2.f2 x2.f3 x2.f4 x3 = some true
theorem wharfagelaw16_Caches.walkX (P : wharfagelaw16_Caches.PureX) (w : World) (x0 : List (S26)) (A0 : Option Addr) (c0 : Nat) (l0 : x0.length ≤ c0) (C0 : Kd.C k26 w A0 x0.length x0) (G0 : x0.length ≤ 9223372036854775807 ∧ x0.length * 72 ≤ 140737488351232 ∧ ∀ a ∈ x0, g26 a) (x1 : S26) (ar1 : Array Value) (K1 : k26.K w x1 ar1.toList) (G1 : g26 x1) (x2 : S24) (ar2 : Array Value) (K2 : k24.K w x2 ar2.toList) (G2 : g24 x2) (x3 : Int) (G3 : (Lit.int .i64 x3).wf = true) :
    Calls Try.prog 3 #[.slice A0 x0.length c0, .agg ar1, .agg ar2, .int .i64 x3] w fun e w' => e = .returned (.bool true) ∧ Below w.heap.size w w' := by
  have h := P x0 x1 x2 x3 G0 G1 G2 G3
  have hcs1 := k26_open K1
  obtain rfl : ar1 = #[.int .i64 x1.f0.f0, .int .i64 x1.f0.f1, .int .i64 x1.f0.f2, .int .i64 x1.f0.f3, .int .i64 x1.f0.f4, .int .i64 x1.f1, .bool x1.f2, .int .i64 x1.f3, .int .i64 x1.f4] := by rw [← Array.toArray_toList (xs := ar1), hcs1]
  have hcs2 := k24_open K2
  obtain rfl : ar2 = #[.int .i64 x2.f0, .int .i64 x2.f1, .int .i64 x2.f2, .int .i64 x2.f3, .int .i64 x2.f4] := by rw [← Array.toArray_toList (xs := ar2), hcs2]
  refine (wharfagelaw16_Caches.calls _ _ x0 x1.f0.f0 x1.f0.f1 x1.f0.f2 x1.f0.f3 x1.f0.f4 x1.f1 x1.f2 x1.f3 x1.f4 x2.f0 x2.f1 x2.f2 x2.f3 x2.f4 x3 true w C0 l0 h).mono ?_
  rintro e w' ⟨rfl, hd⟩
  exact ⟨rfl, hd⟩
end Go.Proofs.Ytiidegomccifaaa.PCaches
