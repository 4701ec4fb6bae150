/- Contracts: what calls of these functions of the program do, each as a plain function; written by a program of this session. -/
import Derived.Test.YtlapbhgkmmeeoaaPSpareRoomx0
namespace Go.Proofs.Ytlapbhgkmmeeoaa.PSpareRoom
open Go.RowKit Go.Proofs.YtlapbhgkmmeeoaaW.PrintWords Go.Proofs.YtlapbhgkmmeeoaaW.PrintLast Go.Proofs.YtlapbhgkmmeeoaaW.PrintMore
attribute [local go_sem] max2_int min2_int max_two min_two max_three min_three max_four min_four   -- for this text's walks alone
set_option linter.unusedVariables false
set_option linter.unusedSimpArgs false

/-! ### conf_to: function 43 -/
def conf_to.f (a0 : Int) (a1 : Int) : Option (Bool) := if a0 ≥ 0 then (some (decide (a0 ≤ a1))) else (some false)
set_option maxHeartbeats 8000000 in
set_option maxRecDepth 100000 in
theorem conf_to.calls (a0 : Int) (a1 : Int) (r : Bool) (w : World) (h : conf_to.f a0 a1 = some r) :
    Calls Try.prog 43 #[.int .i64 a0, .int .i64 a1] w fun e w' => e = .returned (.bool r) ∧ Drawn0 w w' := by
  have H : (if a0 ≥ 0 then (some (decide (a0 ≤ a1))) else (some false)) = some r := h
  clear h
  by_cases c3 : a0 ≥ 0
  · rw [if_pos c3] at H
    have c3b0 : decide (0 ≤ a0) = true := decide_eq_true c3
    clear c3
    obtain rfl := Option.some.inj H
    go_enter Try.func43, Try.ntmps43
    go_wp2
    go_ret
    exact ⟨by first | rfl | (simp; done) | (simp [*]; done), by repeat (first | exact Drawn0.refl _ | apply Drawn0.step)⟩
  · rw [if_neg c3] at H
    have c3b0 : decide (0 ≤ a0) = false := decide_eq_false c3
    clear c3
    obtain rfl := Option.some.inj H
    go_enter Try.func43, Try.ntmps43
    go_wp2
    go_ret
    exact ⟨by first | rfl | (simp; done) | (simp [*]; done), by repeat (first | exact Drawn0.refl _ | apply Drawn0.step)⟩

/-! ### conf_Time: function 24 -/
def conf_Time.f (a0 : Int) : Option (Bool) := (conf_to.f a0 1048576).bind fun t115 => (some t115)
set_option maxHeartbeats 8000000 in
set_option maxRecDepth 100000 in
theorem conf_Time.calls (a0 : Int) (r : Bool) (w : World) (h : conf_Time.f a0 = some r) :
    Calls Try.prog 24 #[.int .i64 a0] w fun e w' => e = .returned (.bool r) ∧ Drawn0 w w' := by
  have H : ((conf_to.f a0 1048576).bind fun t115 => (some t115)) = some r := h
  clear h
  replace H := Option.bind_eq_some_iff.mp H
  obtain ⟨t115, A20, H⟩ := H
  replace H : (some t115) = some r := H
  have A2 := Aside0.mk A20
  clear A20
  obtain rfl := Option.some.inj H
  go_enter Try.func24, Try.ntmps24
  go_wp2_with (first | ((with_reducible refine gate_callee (f := 43) rfl ?_); refine goesL_ (some 4) rfl rfl Try.func43 (by kernel_rfl) rfl #[.int .i64 a0, .int .i64 1048576] rfl (by (try simp only [List.map_toArray, List.map_cons, List.map_nil]); first | done | rfl | (simp only [List.length_drop, List.length_take]; rfl)) ?_; (with_reducible refine (conf_to.calls a0 1048576 t115 _ A2.out).mono ?_); rintro e w' ⟨rfl, ⟨nd, rfl⟩⟩; refine ⟨_, rfl, ?_⟩))
  go_ret
  exact ⟨by first | rfl | (simp; done) | (simp [*]; done), by repeat (first | exact Drawn0.refl _ | apply Drawn0.step)⟩

/-! ### conf_site: function 47, by hand -/
def backOk (b : S83) : Bool := decide (0 ≤ b.f0 ∧ b.f0 ≤ 16)
def siteOk (x : S53) : Bool := x.f3.all backOk && decide (0 ≤ x.f0 ∧ x.f0 ≤ 16) && decide (0 ≤ x.f2 ∧ x.f2 ≤ 8) && decide (x.f3.length ≤ 4)
theorem conf_to.plain (x m : Int) : conf_to.f x m = some (decide (0 ≤ x ∧ x ≤ m)) := by
  unfold conf_to.f
  by_cases h : x ≥ 0
  · rw [if_pos h]; congr 1; simp; omega
  · rw [if_neg h]; congr 1; simp; omega
theorem conf_to.at (x m : Int) (b : Bool) (hb : decide (0 ≤ x ∧ x ≤ m) = b) (w : World) : Calls Try.prog 43 #[.int .i64 x, .int .i64 m] w fun e w' => e = .returned (.bool b) ∧ Drawn0 w w' :=
  conf_to.calls x m b w (by rw [conf_to.plain, hb])
theorem all_snoc {α : Type} (p : α → Bool) (l : List α) (i : Nat) (h : i < l.length) : (l.take (i + 1)).all p = ((l.take i).all p && p l[i]) := by
  rw [List.take_succ_eq_append_getElem h, List.all_append]; simp
theorem ret_bool {a b : Bool} (h : a = b) : Ending.returned (.bool a) = .returned (.bool b) := by rw [h]
set_option maxHeartbeats 4000000 in
set_option maxRecDepth 100000 in
theorem conf_site.at (x : S53) (p : Addr) (A3 : Option Addr) (c3 : Nat) (w : World) (h0 : w.cell? p = some (.int .i64 x.f0)) (h2 : w.cell? ⟨p.block, p.off + 2, none⟩ = some (.int .i64 x.f2)) (h3 : w.cell? ⟨p.block, p.off + 3, none⟩ = some (.slice A3 x.f3.length c3))
    (g3 : Kd.C k83 w A3 x.f3.length x.f3) :
    Calls Try.prog 47 #[.pointer (some p)] w fun e w' => e = .returned (.bool (siteOk x)) ∧ Below w.heap.size w w' := by
  have hl := g3.2.1
  have G3 := Aside0.mk g3
  clear g3
  have hu := Try.underlying83
  go_enter Try.func47, Try.ntmps47
  go_wp2_with fail
  go_loopw [10] (fun v wr => ∃ i : Nat, v = .int .i64 i ∧ i ≤ x.f3.length ∧ Aside0 ((x.f3.take i).all backOk = true) ∧ Below w.heap.size w wr) (fun v _ => x.f3.length - (intOf v).toNat)
  case atStart => exact ⟨0, rfl, Nat.zero_le _, ⟨rfl⟩, Below.refl _ _⟩
  case round =>
    obtain ⟨i, rfl, hi, HA, HB⟩ := hrel
    by_cases hlt : i < x.f3.length
    · obtain ⟨ad, e, hx0, hx1⟩ := at_T83 G3.out (i : Int) (by omega) (by omega)
      subst e
      rw [Int.toNat_natCast] at hx0 hx1
      replace hx0 := pw_cell_below HB hx0
      replace hx1 := pw_cell_below HB hx1
      have er : rd_T83 x.f3 (i : Int) = x.f3[i] := by simp [rd_T83, hlt]
      have HE := Aside0.mk er
      clear er
      cases hbk : backOk (rd_T83 x.f3 i)
      · have HK := Aside0.mk hbk
        go_wp2_with (go_at_call 43; refine (conf_to.at _ _ false HK.out _).mono ?_; rintro e w' ⟨rfl, ⟨nd, rfl⟩⟩)
        go_ret
        refine ⟨ret_bool ?_, by repeat (first | exact HB | refine Below.alloc ?_ (by have := HB.size; simp; omega) _ | refine pw_below_drewN ?_ _ | refine Below.setCell ?_ (by have := HB.size; simp; omega) _ | refine below_drew ?_)⟩
        have h1 := HK.out
        rw [HE.out] at h1
        have hx : x.f3.all backOk = false := by
          rw [List.all_eq_false]
          exact ⟨x.f3[i], List.getElem_mem hlt, by rw [h1]; decide⟩
        simp [siteOk, hx]
      · have HK := Aside0.mk hbk
        go_wp2_with (go_at_call 43; refine (conf_to.at _ _ true HK.out _).mono ?_; rintro e w' ⟨rfl, ⟨nd, rfl⟩⟩)
        go_roundw
        case rel =>
          refine ⟨i + 1, by go_num, by omega, ⟨?_⟩, by repeat (first | exact HB | refine Below.alloc ?_ (by have := HB.size; simp; omega) _ | refine pw_below_drewN ?_ _ | refine Below.setCell ?_ (by have := HB.size; simp; omega) _ | refine below_drew ?_)⟩
          have h1 := HK.out
          rw [HE.out] at h1
          rw [all_snoc backOk x.f3 i hlt, HA.out, h1]; rfl
        case measure => simp [intOf]; omega
    · have hi2 : i = x.f3.length := by omega
      have HA2 : x.f3.all backOk = true := by have := HA.out; rw [hi2, List.take_length] at this; exact this
      clear HA hi2
      replace h0 := pw_cell_below HB h0
      replace h2 := pw_cell_below HB h2
      replace h3 := pw_cell_below HB h3
      have HA3 := Aside0.mk HA2
      clear HA2
      have fin : ∀ (W : World), Below w.heap.size w W → ∀ bv : Bool, (decide (0 ≤ x.f0 ∧ x.f0 ≤ 16) && decide (0 ≤ x.f2 ∧ x.f2 ≤ 8) && decide (x.f3.length ≤ 4)) = bv → Ending.returned (.bool bv) = .returned (.bool (siteOk x)) ∧ Below w.heap.size w W := by
        intro W hW bv hbv
        refine ⟨ret_bool ?_, hW⟩
        rw [← hbv]
        unfold siteOk
        rw [HA3.out, Bool.true_and]
      have FIN := Aside0.mk fin
      clear fin
      cases hw : decide (0 ≤ x.f0 ∧ x.f0 ≤ 16)
      · have HW := Aside0.mk hw
        clear hw
        go_wp2_with (go_at_call 43; refine (conf_to.at _ _ false HW.out _).mono ?_; rintro e w' ⟨rfl, ⟨nd, rfl⟩⟩)
        go_ret
        exact FIN.out _ (by repeat (first | exact HB | refine pw_below_drewN ?_ _)) _ (by rw [HW.out]; rfl)
      · have HW := Aside0.mk hw
        clear hw
        cases hc : decide (0 ≤ x.f2 ∧ x.f2 ≤ 8)
        · have HC := Aside0.mk hc
          clear hc
          go_wp2_with (first
            | (go_at_call 43; (with_reducible refine (conf_to.at x.f0 16 true HW.out _).mono ?_); rintro e w' ⟨rfl, ⟨nd, rfl⟩⟩)
            | (go_at_call 43; (with_reducible refine (conf_to.at x.f2 8 false HC.out _).mono ?_); rintro e w' ⟨rfl, ⟨nd, rfl⟩⟩))
          go_ret
          exact FIN.out _ (by repeat (first | exact HB | refine pw_below_drewN ?_ _)) _ (by rw [HW.out, HC.out]; rfl)
        · have HC := Aside0.mk hc
          clear hc
          go_wp2_with (first
            | (go_at_call 43; (with_reducible refine (conf_to.at x.f0 16 true HW.out _).mono ?_); rintro e w' ⟨rfl, ⟨nd, rfl⟩⟩)
            | (go_at_call 43; (with_reducible refine (conf_to.at x.f2 8 true HC.out _).mono ?_); rintro e w' ⟨rfl, ⟨nd, rfl⟩⟩))
          go_ret
          exact FIN.out _ (by repeat (first | exact HB | refine pw_below_drewN ?_ _)) _ (by rw [HW.out, HC.out, Bool.true_and, Bool.true_and]; first | rfl | exact decide_eq_decide.2 (by omega))


end Go.Proofs.Ytlapbhgkmmeeoaa.PSpareRoom
