/- Contracts: what calls of these functions of the program do, each as a plain function; written by a program of this session. -/
import Derived.Test.YtnocfhnandedoaaPCandFormsx0
namespace Go.Proofs.Ytnocfhnandedoaa.PCandForms
open Go.RowKit Go.Proofs.YtnocfhnandedoaaW.PrintWords Go.Proofs.YtnocfhnandedoaaW.PrintLast Go.Proofs.YtnocfhnandedoaaW.PrintMore
attribute [local go_sem] max2_int min2_int max_two min_two max_three min_three max_four min_four   -- for this text's walks alone
set_option linter.unusedVariables false
set_option linter.unusedSimpArgs false

/-! ### conf_Site: function 64, by hand -/
set_option maxHeartbeats 4000000 in
set_option maxRecDepth 100000 in
theorem conf_Site.no (g : Nat) (A : Option Addr) (c n : Nat) (i : Int) (hi : i < 0 ∨ (n : Int) ≤ i) (w : World) (h1 : w.cell? ⟨g, 1, none⟩ = some (.slice A n c)) :
    Calls Try.prog 64 #[.pointer (some ⟨g, 0, none⟩), .int .i64 i] w fun e w' => e = .returned (.tuple #[.agg #[.int .i64 0, .bool false, .int .i64 0, .slice none 0 0], .bool false]) ∧ Below w.heap.size w w' := by
  have hu := Try.underlying70
  have h1' : ∀ o, (w.alloc o).cell? ⟨g, 1, none⟩ = some (.slice A n c) := fun o => pw_cell_below ((Below.refl _ _).alloc (Nat.le_refl _) o) h1
  by_cases h0 : i < 0
  · clear hi
    go_enter Try.func64, Try.ntmps64
    go_wp2
    exact bodyPost_ret (v := .tuple #[.agg #[.int .i64 0, .bool false, .int .i64 0, .slice none 0 0], .bool false]) (by simp [results, Try.results64, go_sem]) rfl ⟨rfl, by repeat (first | exact Below.refl _ _ | exact (Below.refl _ _).alloc (Nat.le_refl _) _ | refine Below.setCell ?_ (by simp) _ | refine pw_below_drewN ?_ _)⟩
  · have h2 : (n : Int) ≤ i := by omega
    clear hi
    go_enter Try.func64, Try.ntmps64
    go_wp2
    exact bodyPost_ret (v := .tuple #[.agg #[.int .i64 0, .bool false, .int .i64 0, .slice none 0 0], .bool false]) (by simp [results, Try.results64, go_sem]) rfl ⟨rfl, by repeat (first | exact Below.refl _ _ | exact (Below.refl _ _).alloc (Nat.le_refl _) _ | refine Below.setCell ?_ (by simp) _ | refine pw_below_drewN ?_ _)⟩
set_option maxHeartbeats 4000000 in
set_option maxRecDepth 100000 in
theorem conf_Site.yes (g : Nat) (A : Option Addr) (c : Nat) (l : List S70) (i : Nat) (x : S70) (hx : l[i]? = some x) (w : World) (h1 : w.cell? ⟨g, 1, none⟩ = some (.slice A l.length c)) (hr : Kd.C k70 w A l.length l) :
    Calls Try.prog 64 #[.pointer (some ⟨g, 0, none⟩), .int .i64 (i : Int)] w fun e w' => Aside0 (∃ A3 c3, e = .returned (.tuple #[.agg #[.int .i64 x.f0, .bool x.f1, .int .i64 x.f2, .slice A3 x.f3.length c3], .bool true]) ∧ x.f3.length ≤ c3 ∧ Kd.C k74 w A3 x.f3.length x.f3 ∧ Below w.heap.size w w') := by
  have hl := hr.2.1
  obtain ⟨hi, hx'⟩ := List.getElem?_eq_some_iff.1 hx
  obtain ⟨ad, A3, c3, e, hx0, hx1, hx2, hx3, l3, g3⟩ := at_T70 hr (i : Int) (by omega) (by omega)
  subst e
  have er : rd_T70 l (i : Int) = x := by simp [rd_T70, hi, hx']
  rw [er] at hx0 hx1 hx2 hx3 l3 g3
  rw [Int.toNat_natCast] at hx0 hx1 hx2 hx3
  have G := Aside0.mk (And.intro l3 g3)
  clear l3 g3 hr er hx hx'
  have hu := Try.underlying70
  have h1' : ∀ o, (w.alloc o).cell? ⟨g, 1, none⟩ = some (.slice (some ad) l.length c) := fun o => pw_cell_below ((Below.refl _ _).alloc (Nat.le_refl _) o) h1
  have y0 : ∀ o, (w.alloc o).cell? _ = _ := fun o => pw_cell_below ((Below.refl _ _).alloc (Nat.le_refl _) o) hx0
  have y1 : ∀ o, (w.alloc o).cell? _ = _ := fun o => pw_cell_below ((Below.refl _ _).alloc (Nat.le_refl _) o) hx1
  have y2 : ∀ o, (w.alloc o).cell? _ = _ := fun o => pw_cell_below ((Below.refl _ _).alloc (Nat.le_refl _) o) hx2
  have y3 : ∀ o, (w.alloc o).cell? _ = _ := fun o => pw_cell_below ((Below.refl _ _).alloc (Nat.le_refl _) o) hx3
  clear hx0 hx1 hx2 hx3
  go_enter Try.func64, Try.ntmps64
  go_wp2
  exact bodyPost_ret (v := .tuple #[.agg #[.int .i64 x.f0, .bool x.f1, .int .i64 x.f2, .slice A3 x.f3.length c3], .bool true]) (by simp [results, Try.results64, go_sem]) rfl
    (Aside0.mk ⟨A3, c3, rfl, G.out.1, G.out.2, by repeat (first | exact Below.refl _ _ | exact (Below.refl _ _).alloc (Nat.le_refl _) _ | refine Below.setCell ?_ (by simp) _ | refine pw_below_drewN ?_ _)⟩)


end Go.Proofs.Ytnocfhnandedoaa.PCandForms
