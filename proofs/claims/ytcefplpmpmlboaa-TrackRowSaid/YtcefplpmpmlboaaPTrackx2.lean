/- Contracts: what calls of these functions of the program do, each as a plain function; written by a program of this session. -/
import Derived.Test.YtcefplpmpmlboaaPTrackx0
import Derived.Test.YtcefplpmpmlboaaPTrackx1
namespace Go.Proofs.Ytcefplpmpmlboaa.PTrack
open Go.RowKit Go.Proofs.YtcefplpmpmlboaaW.PrintWords Go.Proofs.YtcefplpmpmlboaaW.PrintLast Go.Proofs.YtcefplpmpmlboaaW.PrintMore
attribute [local go_sem] max2_int min2_int max_two min_two max_three min_three max_four min_four   -- for this text's walks alone
set_option linter.unusedVariables false
set_option linter.unusedSimpArgs false

/-! ### track_Step: function 21, by hand -/
def track_Step.f (a0 a1 : Int) : Option (Int × Int) := (track_May.f a0).bind fun t1 => (if t1 = true then ((track_Flags.f a1).bind fun t2 => (if t2 = true then (if (Go.bits .and .i64 a1 4 != 0) = true then some (2, 0) else (if (Go.bits .and .i64 a1 2 != 0) = true then (if (Go.bits .and .i64 a1 16 != 0) = true then (if (Go.bits .and .i64 a1 1 != 0) = true then (if 2 < wrap64 (a0 + 1) then some (2, 0) else some (wrap64 (a0 + 1), 0)) else some (a0, 0)) else some (0, 0)) else (if (Go.bits .and .i64 a1 1 != 0) = true then (if 2 < wrap64 (a0 + 1) then some (2, 0) else some (wrap64 (a0 + 1), 0)) else some (a0, 0)))) else some (0, 1400))) else some (0, 1400))
theorem track_Step.mf (fn : Fn) (first cap : Array Value) (w : World) : (Instr.makeFunc fn first cap).run Try.prog w = .ok (.func fn first cap) w := rfl
set_option maxHeartbeats 1000000 in
theorem track_Step.has (x fl : Int) (b : Nat) (w : World) (hc : w.cell? ⟨b, 0, none⟩ = some (.int .i64 fl)) :
    Calls Try.prog 41 #[.int .i64 x, .pointer (some ⟨b, 0, none⟩)] w fun e w' => e = .returned (.bool (Go.bits .and .i64 fl x != 0)) ∧ w = w' := by
  go_enter Try.func41, Try.ntmps41
  go_wp2
  go_ret
  exact ⟨rfl, rfl⟩
theorem track_Step.ways (a b c d : Bool) : a = true ∨ (a = false ∧ b = true ∧ c = false) ∨ (a = false ∧ b = true ∧ c = true ∧ d = true) ∨ (a = false ∧ b = true ∧ c = true ∧ d = false) ∨ (a = false ∧ b = false ∧ d = true) ∨ (a = false ∧ b = false ∧ d = false) := by
  cases a <;> cases b <;> cases c <;> cases d <;> simp
theorem track_Step.ret {a b c d : Int} (h1 : a = c) (h2 : b = d) : Ending.returned (.tuple #[.int .i64 a, .int .i64 b]) = .returned (.tuple #[.int .i64 c, .int .i64 d]) := by rw [h1, h2]
set_option maxHeartbeats 4000000 in
set_option maxRecDepth 100000 in
theorem track_Step.calls (a0 a1 : Int) (r1 r2 : Int) (w : World) (h : track_Step.f a0 a1 = some (r1, r2)) :
    Calls Try.prog 21 #[.int .i64 a0, .int .i64 a1] w fun e w' => e = .returned (.tuple #[.int .i64 r1, .int .i64 r2]) ∧ Below w.heap.size w w' := by
  have hmf := track_Step.mf
  unfold track_Step.f at h
  replace h := Option.bind_eq_some_iff.mp h
  obtain ⟨t1, A1, h⟩ := h
  have B1 := Aside0.mk A1
  clear A1
  cases t1 with
  | false =>
    rw [if_neg (by decide)] at h
    obtain ⟨rfl, rfl⟩ := Prod.mk.inj (Option.some.inj h)
    clear h
    go_enter Try.func21, Try.ntmps21
    go_wp2_with (go_at_call 39; refine (track_May.calls _ _ _ B1.out).mono ?_; rintro e w' ⟨rfl, ⟨nd, rfl⟩⟩)
    go_ret2
    exact ⟨rfl, by repeat (first | exact Below.refl _ _ | exact (Below.refl _ _).alloc (Nat.le_refl _) _ | refine pw_below_drewN ?_ _ | refine Below.alloc ?_ (Nat.le_refl _) _)⟩
  | true =>
    rw [if_pos rfl] at h
    replace h := Option.bind_eq_some_iff.mp h
    obtain ⟨t2, A2, h⟩ := h
    have B2 := Aside0.mk A2
    clear A2
    cases t2 with
    | false =>
      rw [if_neg (by decide)] at h
      obtain ⟨rfl, rfl⟩ := Prod.mk.inj (Option.some.inj h)
      clear h
      go_enter Try.func21, Try.ntmps21
      go_wp2_with (first
        | (go_at_call 39; refine (track_May.calls _ _ _ B1.out).mono ?_; rintro e w' ⟨rfl, ⟨nd, rfl⟩⟩)
        | (go_at_call 40; refine (track_Flags.calls _ _ _ B2.out).mono ?_; rintro e w' ⟨rfl, ⟨nd, rfl⟩⟩))
      go_ret2
      exact ⟨rfl, by repeat (first | exact Below.refl _ _ | exact (Below.refl _ _).alloc (Nat.le_refl _) _ | refine pw_below_drewN ?_ _ | refine Below.alloc ?_ (Nat.le_refl _) _)⟩
    | true =>
      rw [if_pos rfl] at h
      have hc := track_Step.ways (Go.bits .and .i64 a1 4 != 0) (Go.bits .and .i64 a1 2 != 0) (Go.bits .and .i64 a1 16 != 0) (Go.bits .and .i64 a1 1 != 0)
      rcases hc with h4 | ⟨h4, h2, h16⟩ | ⟨h4, h2, h16, h1⟩ | ⟨h4, h2, h16, h1⟩ | ⟨h4, h2, h1⟩ | ⟨h4, h2, h1⟩
      all_goals
        simp only [*, if_true, if_false, Bool.false_eq_true] at h
        have H := Aside0.mk h
        clear h
        go_enter Try.func21, Try.ntmps21
        go_wp2_with (first
          | (go_at_call 39; refine (track_May.calls _ _ _ B1.out).mono ?_; rintro e w' ⟨rfl, ⟨nd, rfl⟩⟩)
          | (go_at_call 40; refine (track_Flags.calls _ _ _ B2.out).mono ?_; rintro e w' ⟨rfl, ⟨nd, rfl⟩⟩)
          | (go_at_call 41; refine (track_Step.has _ a1 _ _ (by simp)).mono ?_; rintro e w' ⟨rfl, rfl⟩))
        all_goals
          go_ret2
          refine ⟨?_, by repeat (first | exact Below.refl _ _ | exact (Below.refl _ _).alloc (Nat.le_refl _) _ | refine pw_below_drewN ?_ _ | refine Below.alloc ?_ (Nat.le_refl _) _)⟩
          have HH := H.out
          clear H
          first
            | (obtain ⟨rfl, rfl⟩ := Prod.mk.inj (Option.some.inj HH); rfl)
            | (rw [if_pos (by assumption)] at HH; obtain ⟨rfl, rfl⟩ := Prod.mk.inj (Option.some.inj HH); rfl)
            | (rw [if_neg (by omega)] at HH; obtain ⟨rfl, rfl⟩ := Prod.mk.inj (Option.some.inj HH); rfl)


/-! ### wharfageref10_phaseMay: function 42 -/
def wharfageref10_phaseMay.f (a0 : Int) : Option (Bool) := if a0 ≥ 0 then (some (decide (a0 ≤ 2))) else (some false)
set_option maxHeartbeats 8000000 in
set_option maxRecDepth 100000 in
theorem wharfageref10_phaseMay.calls (a0 : Int) (r : Bool) (w : World) (h : wharfageref10_phaseMay.f a0 = some r) :
    Calls Try.prog 42 #[.int .i64 a0] w fun e w' => e = .returned (.bool r) ∧ Drawn0 w w' := by
  have H : (if a0 ≥ 0 then (some (decide (a0 ≤ 2))) else (some false)) = some r := h
  clear h
  by_cases c2 : a0 ≥ 0
  · rw [if_pos c2] at H
    have c2b0 : decide (0 ≤ a0) = true := decide_eq_true c2
    clear c2
    obtain rfl := Option.some.inj H
    go_enter Try.func42, Try.ntmps42
    go_wp2
    go_ret
    exact ⟨by first | rfl | (simp; done) | (simp [*]; done), by repeat (first | exact Drawn0.refl _ | apply Drawn0.step)⟩
  · rw [if_neg c2] at H
    have c2b0 : decide (0 ≤ a0) = false := decide_eq_false c2
    clear c2
    obtain rfl := Option.some.inj H
    go_enter Try.func42, Try.ntmps42
    go_wp2
    go_ret
    exact ⟨by first | rfl | (simp; done) | (simp [*]; done), by repeat (first | exact Drawn0.refl _ | apply Drawn0.step)⟩

end Go.Proofs.Ytcefplpmpmlboaa.PTrack
