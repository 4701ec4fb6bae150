/- Contracts: what calls of these functions of the program do, each as a plain function; written by a program of this session. -/
import Derived.Test.YtcefplpmpmlboabPConfx0
import Derived.Test.YtcefplpmpmlboabPConfx2
import Derived.Test.YtcefplpmpmlboabPConfx3
import Derived.Test.YtcefplpmpmlboabPConfx6
namespace Go.Proofs.Ytcefplpmpmlboab.PConf
open Go.RowKit Go.Proofs.YtcefplpmpmlboabW.PrintWords Go.Proofs.YtcefplpmpmlboabW.PrintLast Go.Proofs.YtcefplpmpmlboabW.PrintMore
attribute [local go_sem] max2_int min2_int max_two min_two max_three min_three max_four min_four   -- for this text's walks alone
set_option linter.unusedVariables false
set_option linter.unusedSimpArgs false

/-! ### conf_Has: function 17, by hand -/
def mayB (v : Int) (l : List S29) : Bool := l.all siteOk && decide (0 ≤ v ∧ v ≤ 1048576) && decide (l.length ≤ 3)
def conf_Has.f (a0_0 : Int) (l0_1 : List S29) (a1 a2 : Int) : Option Bool := some (mayB a0_0 l0_1 && (decide (0 ≤ a1 ∧ a1 < (l0_1.length : Int)) && (a2 == -1 || decide (0 ≤ a2 ∧ a2 < ((rd_T29 l0_1 a1).f3.length : Int)))))
set_option maxHeartbeats 8000000 in
set_option maxRecDepth 100000 in
theorem conf_Has.calls (a0_0 : Int) (A0_1 : Option Addr) (c0_1 : Nat) (l0_1 : List S29) (a1 a2 : Int) (r : Bool) (w : World) (hr0_1 : Kd.C k29 w A0_1 l0_1.length l0_1) (hc0_1 : l0_1.length ≤ c0_1) (h : conf_Has.f a0_0 l0_1 a1 a2 = some r) :
    Calls Try.prog 17 #[.agg #[.int .i64 a0_0, .slice A0_1 l0_1.length c0_1], .int .i64 a1, .int .i64 a2] w fun e w' => e = .returned (.bool r) ∧ Below w.heap.size w w' := by
  have H := Aside0.mk (Option.some.inj h)
  clear h
  have hu := Try.underlying29
  have hu2 := Try.underlying26
  have hbb := Aside0.mk ((Below.refl w.heap.size w).alloc (Nat.le_refl _) (.cells #[.int .i64 a0_0, .slice A0_1 l0_1.length c0_1] 26))
  have hcc := Aside0.mk (fun (W : World) (hb : Below w.heap.size w W) => Kd.C_below hr0_1 hb)
  have hmay := Aside0.mk (fun (b : Bool) (hb : mayB a0_0 l0_1 = b) (W : World) (hW : Below w.heap.size w W) => conf_May.calls a0_0 A0_1 c0_1 l0_1 b W (Kd.C_below hr0_1 hW) hc0_1 (by unfold conf_May.f; rw [← hb]; rfl))
  by_cases hin : 0 ≤ a1 ∧ a1 < (l0_1.length : Int)
  · obtain ⟨i, rfl⟩ := Int.eq_ofNat_of_zero_le hin.1
    have hi : i < l0_1.length := by omega
    obtain ⟨x, hx⟩ : ∃ x, l0_1[i]? = some x := ⟨l0_1[i], by simp [hi]⟩
    have er : rd_T29 l0_1 (i : Int) = x := by
      obtain ⟨_, hx'⟩ := List.getElem?_eq_some_iff.1 hx
      simp [rd_T29, hi, hx']
    have HS := Aside0.mk (conf_Site.yes w.heap.size A0_1 c0_1 l0_1 i x hx)
    have HR : r = (mayB a0_0 l0_1 && (a2 == -1 || decide (0 ≤ a2 ∧ a2 < (x.f3.length : Int)))) := by
      rw [← H.out, er, decide_eq_true hin, Bool.true_and]
    have HR2 := Aside0.mk HR
    clear hr0_1 hc0_1 er hin hi hx HR H
    go_enter Try.func17, Try.ntmps17
    go_wp2_with fail
    refine (HS.out _ (by simp) (hcc.out _ hbb.out)).mono ?_
    rintro e w1 ⟨A3, c3, rfl, l3, g3, hb1⟩
    have b0 : w1.cell? ⟨w.heap.size, 0, none⟩ = some (.int .i64 a0_0) := (hb1.cell (p := ⟨w.heap.size, 0, none⟩) (by simp)).trans (by simp)
    have b1 : w1.cell? ⟨w.heap.size, 1, none⟩ = some (.slice A0_1 l0_1.length c0_1) := (hb1.cell (p := ⟨w.heap.size, 1, none⟩) (by simp)).trans (by simp)
    have hw1 := Aside0.mk (hbb.out.trans (hb1.mono (by simp)))
    have q0 : ∀ o, (w1.alloc o).cell? ⟨w.heap.size, 0, none⟩ = some (.int .i64 a0_0) := fun o => pw_cell_below ((Below.refl _ _).alloc (Nat.le_refl _) o) b0
    have q1 : ∀ o, (w1.alloc o).cell? ⟨w.heap.size, 1, none⟩ = some (.slice A0_1 l0_1.length c0_1) := fun o => pw_cell_below ((Below.refl _ _).alloc (Nat.le_refl _) o) b1
    have hs1 := Aside0.mk hw1.out.size
    clear b0 b1 hb1 l3 g3
    cases hm : mayB a0_0 l0_1
    · have HM := Aside0.mk hm
      clear hm
      go_wp2_with (go_at_call 16; refine (hmay.out false HM.out _ ?c1).mono ?_; rotate_left; rintro e w2 ⟨rfl, hb2⟩)
      case c1 => exact hw1.out.alloc hs1.out _
      go_ret
      exact ⟨ret_bool (by rw [HR2.out, HM.out]; rfl), (hw1.out.alloc hs1.out _).trans (hb2.mono (by simp; have := hs1.out; omega))⟩
    · have HM := Aside0.mk hm
      clear hm
      by_cases h1 : a2 = -1
      · subst h1
        go_wp2_with (go_at_call 16; refine (hmay.out true HM.out _ ?c1).mono ?_; rotate_left; rintro e w2 ⟨rfl, hb2⟩)
        case c1 => exact hw1.out.alloc hs1.out _
        go_ret
        exact ⟨ret_bool (by rw [HR2.out, HM.out]; rfl), (hw1.out.alloc hs1.out _).trans (hb2.mono (by simp; have := hs1.out; omega))⟩
      · have e1 : (a2 == -1) = false := by simpa using h1
        by_cases h2 : 0 ≤ a2
        · have e2 : decide (0 ≤ a2) = true := by simpa using h2
          have e3 : decide (a2 ≥ 0) = true := by simpa using h2
          have HQ := Aside0.mk (show r = decide (a2 < (x.f3.length : Int)) by rw [HR2.out, HM.out, e1]; simp [h2])
          clear h1
          go_wp2_with (go_at_call 16; refine (hmay.out true HM.out _ ?c1).mono ?_; rotate_left; rintro e w2 ⟨rfl, hb2⟩; have z3 : w2.cell? ⟨w1.heap.size, 3, none⟩ = some (.slice A3 x.f3.length c3) := (hb2.cell (p := ⟨w1.heap.size, 3, none⟩) (by simp)).trans (by simp))
          case c1 => exact hw1.out.alloc hs1.out _
          go_ret
          exact ⟨ret_bool (by rw [HQ.out]), (hw1.out.alloc hs1.out _).trans (hb2.mono (by simp; have := hs1.out; omega))⟩
        · have e2 : decide (0 ≤ a2) = false := by simpa using h2
          have HQ := Aside0.mk (show r = false by rw [HR2.out, HM.out, e1]; simp [h2])
          clear h1
          go_wp2_with (go_at_call 16; refine (hmay.out true HM.out _ ?c1).mono ?_; rotate_left; rintro e w2 ⟨rfl, hb2⟩)
          case c1 => exact hw1.out.alloc hs1.out _
          go_ret
          exact ⟨ret_bool (by rw [HQ.out]), (hw1.out.alloc hs1.out _).trans (hb2.mono (by simp; have := hs1.out; omega))⟩
  · have hin2 : a1 < 0 ∨ (l0_1.length : Int) ≤ a1 := by omega
    have HR2 := Aside0.mk (show r = false by rw [← H.out, decide_eq_false hin]; simp)
    have HS := Aside0.mk (conf_Site.no w.heap.size A0_1 c0_1 l0_1.length a1 hin2)
    clear hr0_1 hc0_1 hin hin2 H
    go_enter Try.func17, Try.ntmps17
    go_wp2_with fail
    refine (HS.out _ (by simp)).mono ?_
    rintro e w1 ⟨rfl, hb1⟩
    have b0 : w1.cell? ⟨w.heap.size, 0, none⟩ = some (.int .i64 a0_0) := (hb1.cell (p := ⟨w.heap.size, 0, none⟩) (by simp)).trans (by simp)
    have b1 : w1.cell? ⟨w.heap.size, 1, none⟩ = some (.slice A0_1 l0_1.length c0_1) := (hb1.cell (p := ⟨w.heap.size, 1, none⟩) (by simp)).trans (by simp)
    have hw1 := Aside0.mk (hbb.out.trans (hb1.mono (by simp)))
    have q0 : ∀ o, (w1.alloc o).cell? ⟨w.heap.size, 0, none⟩ = some (.int .i64 a0_0) := fun o => pw_cell_below ((Below.refl _ _).alloc (Nat.le_refl _) o) b0
    have q1 : ∀ o, (w1.alloc o).cell? ⟨w.heap.size, 1, none⟩ = some (.slice A0_1 l0_1.length c0_1) := fun o => pw_cell_below ((Below.refl _ _).alloc (Nat.le_refl _) o) b1
    have hs1 := Aside0.mk hw1.out.size
    clear b0 b1 hb1
    cases hm : mayB a0_0 l0_1
    all_goals
      have HM := Aside0.mk hm
      clear hm
      go_wp2_with (go_at_call 16; refine (hmay.out _ HM.out _ ?c1).mono ?_; rotate_left; rintro e w2 ⟨rfl, hb2⟩)
      case c1 => exact hw1.out.alloc hs1.out _
      go_ret
      exact ⟨ret_bool (by rw [HR2.out]), (hw1.out.alloc hs1.out _).trans (hb2.mono (by simp; have := hs1.out; omega))⟩


end Go.Proofs.Ytcefplpmpmlboab.PConf
