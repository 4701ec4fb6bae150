/- Contracts: what calls of these functions of the program do, each as a plain function; written by a program of this session. -/
import Derived.Test.YtlapbhgkmmeeoaaPSpareRoomx0
import Derived.Test.YtlapbhgkmmeeoaaPSpareRoomx5
namespace Go.Proofs.Ytlapbhgkmmeeoaa.PSpareRoom
open Go.RowKit Go.Proofs.YtlapbhgkmmeeoaaW.PrintWords Go.Proofs.YtlapbhgkmmeeoaaW.PrintLast Go.Proofs.YtlapbhgkmmeeoaaW.PrintMore
attribute [local go_sem] max2_int min2_int max_two min_two max_three min_three max_four min_four   -- for this text's walks alone
set_option linter.unusedVariables false
set_option linter.unusedSimpArgs false

/-! ### conf_May: function 33, by hand -/
def conf_May.f (a0_0 : Int) (l0_1 : List S53) : Option Bool := some (l0_1.all siteOk && decide (0 ≤ a0_0 ∧ a0_0 ≤ 1048576) && decide (l0_1.length ≤ 3))
theorem conf_Time.at (x : Int) (b : Bool) (hb : decide (0 ≤ x ∧ x ≤ 1048576) = b) (w : World) : Calls Try.prog 24 #[.int .i64 x] w fun e w' => e = .returned (.bool b) ∧ Drawn0 w w' :=
  conf_Time.calls x b w (by unfold conf_Time.f; rw [conf_to.plain, hb]; rfl)
set_option maxHeartbeats 4000000 in
set_option maxRecDepth 100000 in
theorem conf_May.calls (a0_0 : Int) (A0_1 : Option Addr) (c0_1 : Nat) (l0_1 : List S53) (r : Bool) (w : World) (hr0_1 : Kd.C k53 w A0_1 l0_1.length l0_1) (hc0_1 : l0_1.length ≤ c0_1) (h : conf_May.f a0_0 l0_1 = some r) :
    Calls Try.prog 33 #[.agg #[.int .i64 a0_0, .slice A0_1 l0_1.length c0_1]] w fun e w' => e = .returned (.bool r) ∧ Below w.heap.size w w' := by
  have H := Aside0.mk (Option.some.inj h)
  have hl := hr0_1.2.1
  have G := Aside0.mk hr0_1
  clear h hr0_1 hc0_1
  go_enter Try.func33, Try.ntmps33
  go_wp2_with fail
  go_loopw [3, 7] (fun _ v wr => ∃ i : Nat, v = .int .i64 i ∧ i ≤ l0_1.length ∧ Aside0 ((l0_1.take i).all siteOk = true) ∧ Below (w.heap.size + 1) (w.alloc (.cells #[.int .i64 a0_0, .slice A0_1 l0_1.length c0_1] 24)) wr) (fun _ v _ => l0_1.length - (intOf v).toNat)
  case atStart => exact ⟨0, rfl, Nat.zero_le _, ⟨rfl⟩, Below.refl _ _⟩
  case round =>
    obtain ⟨i, rfl, hi, HA, HB⟩ := hrel
    have hbw : Below w.heap.size w wr := ((Below.refl w.heap.size w).alloc (Nat.le_refl _) _).trans (HB.mono (by omega))
    have c0 : wr.cell? ⟨w.heap.size, 0, none⟩ = some (.int .i64 a0_0) := (HB.cell (p := ⟨w.heap.size, 0, none⟩) (by simp)).trans (by simp)
    have c1 : wr.cell? ⟨w.heap.size, 1, none⟩ = some (.slice A0_1 l0_1.length c0_1) := (HB.cell (p := ⟨w.heap.size, 1, none⟩) (by simp)).trans (by simp)
    by_cases hlt : i < l0_1.length
    · obtain ⟨ad, A3, c3, e, hx0, hx1, hx2, hx3, l3, g3⟩ := at_T53 G.out (i : Int) (by omega) (by omega)
      subst e
      rw [Int.toNat_natCast] at hx0 hx1 hx2 hx3
      replace hx0 := pw_cell_below hbw hx0
      replace hx2 := pw_cell_below hbw hx2
      replace hx3 := pw_cell_below hbw hx3
      have g3' := Kd.C_below g3 hbw
      have er : rd_T53 l0_1 (i : Int) = l0_1[i] := by simp [rd_T53, hlt]
      have HS := Aside0.mk (conf_site.at (rd_T53 l0_1 (i : Int)) (ad.add (i * 4)) A3 c3)
      have HX := Aside0.mk (And.intro hx0 (And.intro hx2 (And.intro hx3 g3')))
      have HE := Aside0.mk er
      have HBW := Aside0.mk hbw
      clear er g3 g3' hx1 l3 hx0 hx2 hx3 hbw
      have hs2 : w.heap.size + 1 ≤ wr.heap.size := by have := HB.size; simpa using this
      cases hbk : siteOk (rd_T53 l0_1 i)
      · have HK := Aside0.mk hbk
        clear hbk
        go_wp2_with (go_at_call 47; refine (HS.out _ HX.out.1 HX.out.2.1 HX.out.2.2.1 HX.out.2.2.2).mono ?_; rintro e w1 ⟨rfl, hb1⟩; rw [HK.out])
        go_ret
        have h1 := HK.out
        rw [HE.out] at h1
        have hx : l0_1.all siteOk = false := by
          rw [List.all_eq_false]
          exact ⟨l0_1[i], List.getElem_mem hlt, by rw [h1]; decide⟩
        refine ⟨ret_bool ?_, HBW.out.trans (hb1.mono (by omega))⟩
        rw [← H.out, hx]; rfl
      · have HK := Aside0.mk hbk
        clear hbk
        go_wp2_with (go_at_call 47; refine (HS.out _ HX.out.1 HX.out.2.1 HX.out.2.2.1 HX.out.2.2.2).mono ?_; rintro e w1 ⟨rfl, hb1⟩; rw [HK.out])
        go_roundw
        case rel =>
          refine ⟨i + 1, by go_num, by omega, ⟨?_⟩, HB.trans (hb1.mono hs2)⟩
          have h1 := HK.out
          rw [HE.out] at h1
          rw [all_snoc siteOk l0_1 i hlt, HA.out, h1]; rfl
        case measure => simp [intOf]; omega
    · have hi2 : i = l0_1.length := by omega
      have HA2 : l0_1.all siteOk = true := by have := HA.out; rw [hi2, List.take_length] at this; exact this
      clear HA hi2
      have HA3 := Aside0.mk HA2
      have HBW := Aside0.mk hbw
      clear HA2 hbw
      cases hw : decide (0 ≤ a0_0 ∧ a0_0 ≤ 1048576)
      · have HW := Aside0.mk hw
        clear hw
        go_wp2_with (go_at_call 24; refine (conf_Time.at a0_0 false HW.out _).mono ?_; rintro e w' ⟨rfl, ⟨nd, rfl⟩⟩)
        go_ret
        exact ⟨ret_bool (by rw [← H.out, HA3.out, HW.out]; rfl), pw_below_drewN HBW.out _⟩
      · have HW := Aside0.mk hw
        clear hw
        go_wp2_with (go_at_call 24; refine (conf_Time.at a0_0 true HW.out _).mono ?_; rintro e w' ⟨rfl, ⟨nd, rfl⟩⟩)
        go_ret
        refine ⟨ret_bool ?_, pw_below_drewN HBW.out _⟩
        rw [← H.out, HA3.out, HW.out, Bool.true_and, Bool.true_and]
        first | rfl | exact decide_eq_decide.2 (by omega)


/-! ### report_Site: function 34 -/
def report_Site.f (a0 : Int) : Option (Bool) := if a0 ≥ 0 then (some (decide (a0 < 3))) else (some false)
set_option maxHeartbeats 8000000 in
set_option maxRecDepth 100000 in
theorem report_Site.calls (a0 : Int) (r : Bool) (w : World) (h : report_Site.f a0 = some r) :
    Calls Try.prog 34 #[.int .i64 a0] w fun e w' => e = .returned (.bool r) ∧ Drawn0 w w' := by
  have H : (if a0 ≥ 0 then (some (decide (a0 < 3))) else (some false)) = some r := h
  clear h
  by_cases c2 : a0 ≥ 0
  · rw [if_pos c2] at H
    have c2b0 : decide (0 ≤ a0) = true := decide_eq_true c2
    clear c2
    obtain rfl := Option.some.inj H
    go_enter Try.func34, Try.ntmps34
    go_wp2
    go_ret
    exact ⟨by first | rfl | (simp; done) | (simp [*]; done), by repeat (first | exact Drawn0.refl _ | apply Drawn0.step)⟩
  · rw [if_neg c2] at H
    have c2b0 : decide (0 ≤ a0) = false := decide_eq_false c2
    clear c2
    obtain rfl := Option.some.inj H
    go_enter Try.func34, Try.ntmps34
    go_wp2
    go_ret
    exact ⟨by first | rfl | (simp; done) | (simp [*]; done), by repeat (first | exact Drawn0.refl _ | apply Drawn0.step)⟩

end Go.Proofs.Ytlapbhgkmmeeoaa.PSpareRoom
