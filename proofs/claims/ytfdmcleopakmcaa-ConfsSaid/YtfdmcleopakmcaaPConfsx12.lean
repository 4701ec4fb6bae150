/- Contracts: what calls of these functions of the program do, each as a plain function; written by a program of this session. -/
import Derived.Test.YtfdmcleopakmcaaPConfsx0
import Derived.Test.YtfdmcleopakmcaaPConfsx3
import Derived.Test.YtfdmcleopakmcaaPConfsx4
namespace Go.Proofs.Ytfdmcleopakmcaa.PConfs
open Go.RowKit Go.Proofs.YtfdmcleopakmcaaW.PrintWords Go.Proofs.YtfdmcleopakmcaaW.PrintLast Go.Proofs.YtfdmcleopakmcaaW.PrintMore
attribute [local go_sem] max2_int min2_int max_two min_two max_three min_three max_four min_four   -- for this text's walks alone
set_option linter.unusedVariables false
set_option linter.unusedSimpArgs false

/-! ### wharfagelaw0_Num: function 9 -/
def wharfagelaw0_Num.f (a0 : Int) : Option (Int) := some a0
set_option maxHeartbeats 8000000 in
set_option maxRecDepth 100000 in
theorem wharfagelaw0_Num.calls (a0 : Int) (r : Int) (w : World) (h : wharfagelaw0_Num.f a0 = some r) :
    Calls Try.prog 9 #[.int .i64 a0] w fun e w' => e = .returned (.int .i64 r) ∧ Drawn0 w w' := by
  have H : (some a0) = some r := h
  clear h
  obtain rfl := Option.some.inj H
  go_enter Try.func9, Try.ntmps9
  go_wp2
  go_ret
  exact ⟨by first | rfl | (simp; done) | (simp [*]; done), by repeat (first | exact Drawn0.refl _ | apply Drawn0.step)⟩

/-! ### conf_Site: function 22, by hand -/
set_option maxHeartbeats 4000000 in
set_option maxRecDepth 100000 in
theorem conf_Site.no (g : Nat) (A : Option Addr) (c n : Nat) (i : Int) (hi : i < 0 ∨ (n : Int) ≤ i) (w : World) (h1 : w.cell? ⟨g, 1, none⟩ = some (.slice A n c)) :
    Calls Try.prog 22 #[.pointer (some ⟨g, 0, none⟩), .int .i64 i] w fun e w' => e = .returned (.tuple #[.agg #[.int .i64 0, .bool false, .int .i64 0, .slice none 0 0], .bool false]) ∧ Below w.heap.size w w' := by
  have hu := Try.underlying42
  have h1' : ∀ o, (w.alloc o).cell? ⟨g, 1, none⟩ = some (.slice A n c) := fun o => pw_cell_below ((Below.refl _ _).alloc (Nat.le_refl _) o) h1
  by_cases h0 : i < 0
  · clear hi
    go_enter Try.func22, Try.ntmps22
    go_wp2
    exact bodyPost_ret (v := .tuple #[.agg #[.int .i64 0, .bool false, .int .i64 0, .slice none 0 0], .bool false]) (by simp [results, Try.results22, go_sem]) rfl ⟨rfl, by repeat (first | exact Below.refl _ _ | exact (Below.refl _ _).alloc (Nat.le_refl _) _ | refine Below.setCell ?_ (by simp) _ | refine pw_below_drewN ?_ _)⟩
  · have h2 : (n : Int) ≤ i := by omega
    clear hi
    go_enter Try.func22, Try.ntmps22
    go_wp2
    exact bodyPost_ret (v := .tuple #[.agg #[.int .i64 0, .bool false, .int .i64 0, .slice none 0 0], .bool false]) (by simp [results, Try.results22, go_sem]) rfl ⟨rfl, by repeat (first | exact Below.refl _ _ | exact (Below.refl _ _).alloc (Nat.le_refl _) _ | refine Below.setCell ?_ (by simp) _ | refine pw_below_drewN ?_ _)⟩
set_option maxHeartbeats 4000000 in
set_option maxRecDepth 100000 in
theorem conf_Site.yes (g : Nat) (A : Option Addr) (c : Nat) (l : List S42) (i : Nat) (x : S42) (hx : l[i]? = some x) (w : World) (h1 : w.cell? ⟨g, 1, none⟩ = some (.slice A l.length c)) (hr : Kd.C k42 w A l.length l) :
    Calls Try.prog 22 #[.pointer (some ⟨g, 0, none⟩), .int .i64 (i : Int)] w fun e w' => Aside0 (∃ A3 c3, e = .returned (.tuple #[.agg #[.int .i64 x.f0, .bool x.f1, .int .i64 x.f2, .slice A3 x.f3.length c3], .bool true]) ∧ x.f3.length ≤ c3 ∧ Kd.C k44 w A3 x.f3.length x.f3 ∧ Below w.heap.size w w') := by
  have hl := hr.2.1
  obtain ⟨hi, hx'⟩ := List.getElem?_eq_some_iff.1 hx
  obtain ⟨ad, A3, c3, e, hx0, hx1, hx2, hx3, l3, g3⟩ := at_T42 hr (i : Int) (by omega) (by omega)
  subst e
  have er : rd_T42 l (i : Int) = x := by simp [rd_T42, hi, hx']
  rw [er] at hx0 hx1 hx2 hx3 l3 g3
  rw [Int.toNat_natCast] at hx0 hx1 hx2 hx3
  have G := Aside0.mk (And.intro l3 g3)
  clear l3 g3 hr er hx hx'
  have hu := Try.underlying42
  have h1' : ∀ o, (w.alloc o).cell? ⟨g, 1, none⟩ = some (.slice (some ad) l.length c) := fun o => pw_cell_below ((Below.refl _ _).alloc (Nat.le_refl _) o) h1
  have y0 : ∀ o, (w.alloc o).cell? _ = _ := fun o => pw_cell_below ((Below.refl _ _).alloc (Nat.le_refl _) o) hx0
  have y1 : ∀ o, (w.alloc o).cell? _ = _ := fun o => pw_cell_below ((Below.refl _ _).alloc (Nat.le_refl _) o) hx1
  have y2 : ∀ o, (w.alloc o).cell? _ = _ := fun o => pw_cell_below ((Below.refl _ _).alloc (Nat.le_refl _) o) hx2
  have y3 : ∀ o, (w.alloc o).cell? _ = _ := fun o => pw_cell_below ((Below.refl _ _).alloc (Nat.le_refl _) o) hx3
  clear hx0 hx1 hx2 hx3
  go_enter Try.func22, Try.ntmps22
  go_wp2
  exact bodyPost_ret (v := .tuple #[.agg #[.int .i64 x.f0, .bool x.f1, .int .i64 x.f2, .slice A3 x.f3.length c3], .bool true]) (by simp [results, Try.results22, go_sem]) rfl
    (Aside0.mk ⟨A3, c3, rfl, G.out.1, G.out.2, by repeat (first | exact Below.refl _ _ | exact (Below.refl _ _).alloc (Nat.le_refl _) _ | refine Below.setCell ?_ (by simp) _ | refine pw_below_drewN ?_ _)⟩)


/-! ### conf_Has: function 12, by hand -/
def mayB (v : Int) (l : List S42) : Bool := l.all siteOk && decide (0 ≤ v ∧ v ≤ 1048576) && decide (l.length ≤ 3)
def conf_Has.f (a0_0 : Int) (l0_1 : List S42) (a1 a2 : Int) : Option Bool := some (mayB a0_0 l0_1 && (decide (0 ≤ a1 ∧ a1 < (l0_1.length : Int)) && (a2 == -1 || decide (0 ≤ a2 ∧ a2 < ((rd_T42 l0_1 a1).f3.length : Int)))))
set_option maxHeartbeats 8000000 in
set_option maxRecDepth 100000 in
theorem conf_Has.calls (a0_0 : Int) (A0_1 : Option Addr) (c0_1 : Nat) (l0_1 : List S42) (a1 a2 : Int) (r : Bool) (w : World) (hr0_1 : Kd.C k42 w A0_1 l0_1.length l0_1) (hc0_1 : l0_1.length ≤ c0_1) (h : conf_Has.f a0_0 l0_1 a1 a2 = some r) :
    Calls Try.prog 12 #[.agg #[.int .i64 a0_0, .slice A0_1 l0_1.length c0_1], .int .i64 a1, .int .i64 a2] w fun e w' => e = .returned (.bool r) ∧ Below w.heap.size w w' := by
  have H := Aside0.mk (Option.some.inj h)
  clear h
  have hu := Try.underlying42
  have hu2 := Try.underlying24
  have hbb := Aside0.mk ((Below.refl w.heap.size w).alloc (Nat.le_refl _) (.cells #[.int .i64 a0_0, .slice A0_1 l0_1.length c0_1] 24))
  have hcc := Aside0.mk (fun (W : World) (hb : Below w.heap.size w W) => Kd.C_below hr0_1 hb)
  have hmay := Aside0.mk (fun (b : Bool) (hb : mayB a0_0 l0_1 = b) (W : World) (hW : Below w.heap.size w W) => conf_May.calls a0_0 A0_1 c0_1 l0_1 b W (Kd.C_below hr0_1 hW) hc0_1 (by unfold conf_May.f; rw [← hb]; rfl))
  by_cases hin : 0 ≤ a1 ∧ a1 < (l0_1.length : Int)
  · obtain ⟨i, rfl⟩ := Int.eq_ofNat_of_zero_le hin.1
    have hi : i < l0_1.length := by omega
    obtain ⟨x, hx⟩ : ∃ x, l0_1[i]? = some x := ⟨l0_1[i], by simp [hi]⟩
    have er : rd_T42 l0_1 (i : Int) = x := by
      obtain ⟨_, hx'⟩ := List.getElem?_eq_some_iff.1 hx
      simp [rd_T42, hi, hx']
    have HS := Aside0.mk (conf_Site.yes w.heap.size A0_1 c0_1 l0_1 i x hx)
    have HR : r = (mayB a0_0 l0_1 && (a2 == -1 || decide (0 ≤ a2 ∧ a2 < (x.f3.length : Int)))) := by
      rw [← H.out, er, decide_eq_true hin, Bool.true_and]
    have HR2 := Aside0.mk HR
    clear hr0_1 hc0_1 er hin hi hx HR H
    go_enter Try.func12, Try.ntmps12
    go_wp2_with fail
    refine (HS.out _ (by simp) (hcc.out _ hbb.out)).mono ?_
    rintro e w1 ⟨A3, c3, rfl, l3, g3, hb1⟩
    have b0 : w1.cell? ⟨w.heap.size, 0, none⟩ = some (.int .i64 a0_0) := (hb1.cell (p := ⟨w.heap.size, 0, none⟩) (by simp)).trans (by simp)
    have b1 : w1.cell? ⟨w.heap.size, 1, none⟩ = some (.slice A0_1 l0_1.length c0_1) := (hb1.cell (p := ⟨w.heap.size, 1, none⟩) (by simp)).trans (by simp)
    have hw1 := Aside0.mk (hbb.out.trans (hb1.mono (by simp)))
    have q0 : ∀ o, (w1.alloc o).cell? ⟨w.heap.size, 0, none⟩ = some (.int .i64 a0_0) := fun o => pw_cell_below ((Below.refl _ _).alloc (Nat.le_refl _) o) b0
    have q1 : ∀ o, (w1.alloc o).cell? ⟨w.heap.size, 1, none⟩ = some (.slice A0_1 l0_1.length c0_1) := fun o => pw_cell_below ((Below.refl _ _).alloc (Nat.le_refl _) o) b1
    have hs1 := Aside0.mk hw1.out.size
    clear b0 b1 hb1 l3 g3
    cases hm : mayB a0_0 l0_1
    · have HM := Aside0.mk hm
      clear hm
      go_wp2_with (go_at_call 10; refine (hmay.out false HM.out _ ?c1).mono ?_; rotate_left; rintro e w2 ⟨rfl, hb2⟩)
      case c1 => exact hw1.out.alloc hs1.out _
      go_ret
      exact ⟨ret_bool (by rw [HR2.out, HM.out]; rfl), (hw1.out.alloc hs1.out _).trans (hb2.mono (by simp; have := hs1.out; omega))⟩
    · have HM := Aside0.mk hm
      clear hm
      by_cases h1 : a2 = -1
      · subst h1
        go_wp2_with (go_at_call 10; refine (hmay.out true HM.out _ ?c1).mono ?_; rotate_left; rintro e w2 ⟨rfl, hb2⟩)
        case c1 => exact hw1.out.alloc hs1.out _
        go_ret
        exact ⟨ret_bool (by rw [HR2.out, HM.out]; rfl), (hw1.out.alloc hs1.out _).trans (hb2.mono (by simp; have := hs1.out; omega))⟩
      · have e1 : (a2 == -1) = false := by simpa using h1
        by_cases h2 : 0 ≤ a2
        · have e2 : decide (0 ≤ a2) = true := by simpa using h2
          have e3 : decide (a2 ≥ 0) = true := by simpa using h2
          have HQ := Aside0.mk (show r = decide (a2 < (x.f3.length : Int)) by rw [HR2.out, HM.out, e1]; simp [h2])
          clear h1
          go_wp2_with (go_at_call 10; refine (hmay.out true HM.out _ ?c1).mono ?_; rotate_left; rintro e w2 ⟨rfl, hb2⟩; have z3 : w2.cell? ⟨w1.heap.size, 3, none⟩ = some (.slice A3 x.f3.length c3) := (hb2.cell (p := ⟨w1.heap.size, 3, none⟩) (by simp)).trans (by simp))
          case c1 => exact hw1.out.alloc hs1.out _
          go_ret
          exact ⟨ret_bool (by rw [HQ.out]), (hw1.out.alloc hs1.out _).trans (hb2.mono (by simp; have := hs1.out; omega))⟩
        · have e2 : decide (0 ≤ a2) = false := by simpa using h2
          have HQ := Aside0.mk (show r = false by rw [HR2.out, HM.out, e1]; simp [h2])
          clear h1
          go_wp2_with (go_at_call 10; refine (hmay.out true HM.out _ ?c1).mono ?_; rotate_left; rintro e w2 ⟨rfl, hb2⟩)
          case c1 => exact hw1.out.alloc hs1.out _
          go_ret
          exact ⟨ret_bool (by rw [HQ.out]), (hw1.out.alloc hs1.out _).trans (hb2.mono (by simp; have := hs1.out; omega))⟩
  · have hin2 : a1 < 0 ∨ (l0_1.length : Int) ≤ a1 := by omega
    have HR2 := Aside0.mk (show r = false by rw [← H.out, decide_eq_false hin]; simp)
    have HS := Aside0.mk (conf_Site.no w.heap.size A0_1 c0_1 l0_1.length a1 hin2)
    clear hr0_1 hc0_1 hin hin2 H
    go_enter Try.func12, Try.ntmps12
    go_wp2_with fail
    refine (HS.out _ (by simp)).mono ?_
    rintro e w1 ⟨rfl, hb1⟩
    have b0 : w1.cell? ⟨w.heap.size, 0, none⟩ = some (.int .i64 a0_0) := (hb1.cell (p := ⟨w.heap.size, 0, none⟩) (by simp)).trans (by simp)
    have b1 : w1.cell? ⟨w.heap.size, 1, none⟩ = some (.slice A0_1 l0_1.length c0_1) := (hb1.cell (p := ⟨w.heap.size, 1, none⟩) (by simp)).trans (by simp)
    have hw1 := Aside0.mk (hbb.out.trans (hb1.mono (by simp)))
    have q0 : ∀ o, (w1.alloc o).cell? ⟨w.heap.size, 0, none⟩ = some (.int .i64 a0_0) := fun o => pw_cell_below ((Below.refl _ _).alloc (Nat.le_refl _) o) b0
    have q1 : ∀ o, (w1.alloc o).cell? ⟨w.heap.size, 1, none⟩ = some (.slice A0_1 l0_1.length c0_1) := fun o => pw_cell_below ((Below.refl _ _).alloc (Nat.le_refl _) o) b1
    have hs1 := Aside0.mk hw1.out.size
    clear b0 b1 hb1
    cases hm : mayB a0_0 l0_1
    all_goals
      have HM := Aside0.mk hm
      clear hm
      go_wp2_with (go_at_call 10; refine (hmay.out _ HM.out _ ?c1).mono ?_; rotate_left; rintro e w2 ⟨rfl, hb2⟩)
      case c1 => exact hw1.out.alloc hs1.out _
      go_ret
      exact ⟨ret_bool (by rw [HR2.out]), (hw1.out.alloc hs1.out _).trans (hb2.mono (by simp; have := hs1.out; omega))⟩


end Go.Proofs.Ytfdmcleopakmcaa.PConfs
