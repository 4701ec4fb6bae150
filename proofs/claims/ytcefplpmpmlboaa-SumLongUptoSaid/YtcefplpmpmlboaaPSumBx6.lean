/- Contracts: what calls of these functions of the program do, each as a plain function; written by a program of this session. -/
import Derived.Test.YtcefplpmpmlboaaPSumBx0
import Derived.Test.YtcefplpmpmlboaaPSumBx2
import Derived.Test.YtcefplpmpmlboaaPSumBx5
namespace Go.Proofs.Ytcefplpmpmlboaa.PSumB
open Go.RowKit Go.Proofs.YtcefplpmpmlboaaW.PrintWords Go.Proofs.YtcefplpmpmlboaaW.PrintLast Go.Proofs.YtcefplpmpmlboaaW.PrintMore
attribute [local go_sem] max2_int min2_int max_two min_two max_three min_three max_four min_four   -- for this text's walks alone
set_option linter.unusedVariables false
set_option linter.unusedSimpArgs false

/-! ### wharfagelaw1_awake: function 19 -/
def wharfagelaw1_awake.f (k : Nat)  : Option (Bool) := (wharfagelaw0_Num.f 0).bind fun t106 => (if t106 = 0 then ((sum_Sum.f k (⟨#[1, 2, 255, 255]⟩ : ByteArray)).bind fun t107 => (if t107 = 258 then ((sum_Sum.f k (⟨#[1]⟩ : ByteArray)).bind fun t108 => (if t108 = 256 then ((sum_Sum.f k (⟨#[]⟩ : ByteArray)).bind fun t109 => (if t109 = 0 then ((sum_Add.f k 65535 3).bind fun t110 => (some (t110 == 3))) else (none))) else (none))) else (none))) else (none))
theorem wharfagelaw1_awake.mono : ∀ k, LeO (wharfagelaw1_awake.f k ) (wharfagelaw1_awake.f (k + 1) ) := by
  intro  k
  unfold wharfagelaw1_awake.f
  repeat' first
      | (with_reducible exact sum_Add.mono _ _ _)
      | (with_reducible exact sum_Sum.mono _ _)
      | (with_reducible exact LeO.refl _)
      | (with_reducible exact LeO.none _)
      | (with_reducible refine LeO.ite ?_ ?_)
      | (with_reducible refine LeO.bind ?_ (fun _ => ?_))
      | exact sum_Add.mono _ _ _
      | exact sum_Sum.mono _ _
      | exact LeO.none _
      | refine LeO.ite ?_ ?_
      | refine LeO.bind ?_ (fun _ => ?_)
set_option maxHeartbeats 8000000 in
set_option maxRecDepth 100000 in
theorem wharfagelaw1_awake.calls (k : Nat)  (r : Bool) (w : World) (h : wharfagelaw1_awake.f k  = some r) :
    Calls Try.prog 19 #[] w fun e w' => e = .returned (.bool r) ∧ Drawn0 w w' := by
  have H : ((wharfagelaw0_Num.f 0).bind fun t106 => (if t106 = 0 then ((sum_Sum.f k (⟨#[1, 2, 255, 255]⟩ : ByteArray)).bind fun t107 => (if t107 = 258 then ((sum_Sum.f k (⟨#[1]⟩ : ByteArray)).bind fun t108 => (if t108 = 256 then ((sum_Sum.f k (⟨#[]⟩ : ByteArray)).bind fun t109 => (if t109 = 0 then ((sum_Add.f k 65535 3).bind fun t110 => (some (t110 == 3))) else (none))) else (none))) else (none))) else (none))) = some r := h
  clear h
  replace H := Option.bind_eq_some_iff.mp H
  obtain ⟨t106, A10, H⟩ := H
  replace H : (if t106 = 0 then ((sum_Sum.f k (⟨#[1, 2, 255, 255]⟩ : ByteArray)).bind fun t107 => (if t107 = 258 then ((sum_Sum.f k (⟨#[1]⟩ : ByteArray)).bind fun t108 => (if t108 = 256 then ((sum_Sum.f k (⟨#[]⟩ : ByteArray)).bind fun t109 => (if t109 = 0 then ((sum_Add.f k 65535 3).bind fun t110 => (some (t110 == 3))) else (none))) else (none))) else (none))) else (none)) = some r := H
  have A1 := Aside0.mk A10
  clear A10
  by_cases c2 : t106 = 0
  · rw [if_pos c2] at H
    have c2b0 : (t106 == 0) = true := beq_iff_eq.mpr c2
    have c2b1 : (t106 != 0) = false := bne_eq_false_iff_eq.mpr c2
    clear c2
    replace H := Option.bind_eq_some_iff.mp H
    obtain ⟨t107, A30, H⟩ := H
    replace H : (if t107 = 258 then ((sum_Sum.f k (⟨#[1]⟩ : ByteArray)).bind fun t108 => (if t108 = 256 then ((sum_Sum.f k (⟨#[]⟩ : ByteArray)).bind fun t109 => (if t109 = 0 then ((sum_Add.f k 65535 3).bind fun t110 => (some (t110 == 3))) else (none))) else (none))) else (none)) = some r := H
    have A3 := Aside0.mk A30
    clear A30
    by_cases c4 : t107 = 258
    · rw [if_pos c4] at H
      have c4b0 : (t107 == 258) = true := beq_iff_eq.mpr c4
      have c4b1 : (t107 != 258) = false := bne_eq_false_iff_eq.mpr c4
      clear c4
      replace H := Option.bind_eq_some_iff.mp H
      obtain ⟨t108, A50, H⟩ := H
      replace H : (if t108 = 256 then ((sum_Sum.f k (⟨#[]⟩ : ByteArray)).bind fun t109 => (if t109 = 0 then ((sum_Add.f k 65535 3).bind fun t110 => (some (t110 == 3))) else (none))) else (none)) = some r := H
      have A5 := Aside0.mk A50
      clear A50
      by_cases c6 : t108 = 256
      · rw [if_pos c6] at H
        have c6b0 : (t108 == 256) = true := beq_iff_eq.mpr c6
        have c6b1 : (t108 != 256) = false := bne_eq_false_iff_eq.mpr c6
        clear c6
        replace H := Option.bind_eq_some_iff.mp H
        obtain ⟨t109, A70, H⟩ := H
        replace H : (if t109 = 0 then ((sum_Add.f k 65535 3).bind fun t110 => (some (t110 == 3))) else (none)) = some r := H
        have A7 := Aside0.mk A70
        clear A70
        by_cases c8 : t109 = 0
        · rw [if_pos c8] at H
          have c8b0 : (t109 == 0) = true := beq_iff_eq.mpr c8
          have c8b1 : (t109 != 0) = false := bne_eq_false_iff_eq.mpr c8
          clear c8
          replace H := Option.bind_eq_some_iff.mp H
          obtain ⟨t110, A90, H⟩ := H
          replace H : (some (t110 == 3)) = some r := H
          have A9 := Aside0.mk A90
          clear A90
          obtain rfl := Option.some.inj H
          go_enter Try.func19, Try.ntmps19
          go_wp2_with (first | ((with_reducible refine gate_callee (f := 20) rfl ?_); refine goesL_ (some 1) rfl rfl Try.func20 (by kernel_rfl) rfl #[.int .i64 0] rfl (by (try simp only [List.map_toArray, List.map_cons, List.map_nil]); first | done | rfl | (simp only [List.length_drop, List.length_take]; rfl)) ?_; (with_reducible refine (wharfagelaw0_Num.calls 0 t106 _ A1.out).mono ?_); rintro e w' ⟨rfl, ⟨nd, rfl⟩⟩; refine ⟨_, rfl, ?_⟩) | (go_at_call 15; (with_reducible refine (sum_Sum.calls k (⟨#[1, 2, 255, 255]⟩ : ByteArray) t107 _ A3.out).mono ?_); rintro e w' ⟨rfl, ⟨nd, rfl⟩⟩) | (go_at_call 15; (with_reducible refine (sum_Sum.calls k (⟨#[1]⟩ : ByteArray) t108 _ A5.out).mono ?_); rintro e w' ⟨rfl, ⟨nd, rfl⟩⟩) | (go_at_call 15; (with_reducible refine (sum_Sum.calls k (⟨#[]⟩ : ByteArray) t109 _ A7.out).mono ?_); rintro e w' ⟨rfl, ⟨nd, rfl⟩⟩) | (go_at_call 17; (with_reducible refine (sum_Add.calls k 65535 3 t110 _ A9.out).mono ?_); rintro e w' ⟨rfl, ⟨nd, rfl⟩⟩))
          go_ret
          exact ⟨by first | rfl | (simp; done) | (simp [*]; done), by repeat (first | exact Drawn0.refl _ | apply Drawn0.step)⟩
        · rw [if_neg c8] at H
          exact absurd H (by simp)
      · rw [if_neg c6] at H
        exact absurd H (by simp)
    · rw [if_neg c4] at H
      exact absurd H (by simp)
  · rw [if_neg c2] at H
    exact absurd H (by simp)

end Go.Proofs.Ytcefplpmpmlboaa.PSumB
