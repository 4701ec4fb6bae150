/- Contracts: what calls of these functions of the program do, each as a plain function; written by a program of this session. -/
import Derived.Test.YtcefplpmpmlboabPConfx0
import Derived.Test.YtcefplpmpmlboabPConfx2
import Derived.Test.YtcefplpmpmlboabPConfx3
import Derived.Test.YtcefplpmpmlboabPConfx6
import Derived.Test.YtcefplpmpmlboabPConfx7
import Derived.Test.YtcefplpmpmlboabPConfx10
namespace Go.Proofs.Ytcefplpmpmlboab.PConf
open Go.RowKit Go.Proofs.YtcefplpmpmlboabW.PrintWords Go.Proofs.YtcefplpmpmlboabW.PrintLast Go.Proofs.YtcefplpmpmlboabW.PrintMore
attribute [local go_sem] max2_int min2_int max_two min_two max_three min_three max_four min_four   -- for this text's walks alone
set_option linter.unusedVariables false
set_option linter.unusedSimpArgs false

/-! ### wharfagelaw10_ConfHas: function 5, by hand -/
def wharfagelaw10_ConfHas.f (a0_0 : Int) (l0_1 : List S29) : Option Bool := some true
set_option maxHeartbeats 8000000 in
set_option maxRecDepth 100000 in
theorem wharfagelaw10_ConfHas.calls (a0_0 : Int) (A0_1 : Option Addr) (c0_1 : Nat) (l0_1 : List S29) (r : Bool) (w : World) (hr0_1 : Kd.C k29 w A0_1 l0_1.length l0_1) (hc0_1 : l0_1.length ≤ c0_1) (h : wharfagelaw10_ConfHas.f a0_0 l0_1 = some r) :
    Calls Try.prog 5 #[.agg #[.int .i64 a0_0, .slice A0_1 l0_1.length c0_1]] w fun e w' => e = .returned (.bool r) ∧ Below w.heap.size w w' := by
  obtain rfl := Option.some.inj h
  clear h
  have hu := Try.underlying29
  have hu2 := Try.underlying26
  have hcc := Aside0.mk (fun (W : World) (hb : Below w.heap.size w W) => Kd.C_below hr0_1 hb)
  obtain ⟨m, hm⟩ : ∃ m, mayB a0_0 l0_1 = m := ⟨_, rfl⟩
  have HM := Aside0.mk hm
  have hmay := Aside0.mk (fun (W : World) (hW : Below w.heap.size w W) => conf_May.calls a0_0 A0_1 c0_1 l0_1 m W (Kd.C_below hr0_1 hW) hc0_1 (congrArg some hm))
  have hrow := Aside0.mk (fun (i : Nat) (h : i < l0_1.length) => at_T29 hr0_1 (i : Int) (by omega) (by omega))
  have hhas := Aside0.mk (fun (i j : Int) (b : Bool) (hb : (mayB a0_0 l0_1 && (decide (0 ≤ i ∧ i < (l0_1.length : Int)) && (j == -1 || decide (0 ≤ j ∧ j < ((rd_T29 l0_1 i).f3.length : Int))))) = b) (W : World) (hW : Below w.heap.size w W) => conf_Has.calls a0_0 A0_1 c0_1 l0_1 i j b W (Kd.C_below hr0_1 hW) hc0_1 (congrArg some hb))
  clear hr0_1 hc0_1 hm
  have HB := Aside0.mk (Below.refl w.heap.size w)
  go_enter Try.func5, Try.ntmps5
  go_wp2_with first
    | (go_at_call 12; refine (wharfagelaw10_awake.calls true _ rfl).mono ?_; rintro e w1 ⟨rfl, hb1⟩; have c0 : w1.cell? ⟨w.heap.size, 0, none⟩ = some (.int .i64 a0_0) := pw_cell_below hb1 (by simp); have c1 : w1.cell? ⟨w.heap.size, 1, none⟩ = some (.slice A0_1 l0_1.length c0_1) := pw_cell_below hb1 (by simp); replace HB := Aside0.mk (below_step (below_alloc HB.out _) hb1); clear hb1)
    | (go_at_call 16; refine (hmay.out _ HB.out).mono ?_; rintro e w2 ⟨rfl, hb2⟩; replace c0 := pw_cell_below hb2 c0; replace c1 := pw_cell_below hb2 c1; replace HB := Aside0.mk (below_step HB.out hb2); clear hb2)
  go_loopw [4] (fun v wr => ∃ i : Int, v = .int .i64 i ∧ Aside0 (-2 ≤ i ∧ i ≤ 6) ∧ wr.cell? ⟨w.heap.size, 0, none⟩ = some (.int .i64 a0_0) ∧ wr.cell? ⟨w.heap.size, 1, none⟩ = some (.slice A0_1 l0_1.length c0_1) ∧ Aside0 (Below w.heap.size w wr)) (fun v _ => (6 - intOf v).toNat)
  case atStart => exact ⟨-2, rfl, ⟨by omega⟩, c0, c1, HB⟩
  case round =>
    clear c0 c1 HB
    obtain ⟨i, rfl, hi, c0, c1, HB⟩ := hrel
    have HI := hi
    have hi1 := hi.out.1
    have hi2 := hi.out.2
    clear hi
    by_cases hlt : i < 6
    · by_cases hin : m = true ∧ 0 ≤ i ∧ i < (l0_1.length : Int)
      · obtain ⟨rfl, g0, g1⟩ := hin
        obtain ⟨n, rfl⟩ := Int.eq_ofNat_of_zero_le g0
        have hn : n < l0_1.length := by omega
        obtain ⟨ad, A3, c3, e, hx0, hx1, hx2, hx3, l3, g3⟩ := hrow.out n hn
        subst e
        rw [Int.toNat_natCast] at hx3
        have HX3 := Aside0.mk hx3
        clear hx0 hx1 hx2 hx3 l3 g3
        have hT := Aside0.mk (fun (j : Int) (b : Bool) (hb : (j == -1 || decide (0 ≤ j ∧ j < ((rd_T29 l0_1 n).f3.length : Int))) = b) (W : World) (hW : Below w.heap.size w W) => hhas.out (n : Int) j b (by rw [HM.out, decide_eq_true (show 0 ≤ (n : Int) ∧ (n : Int) < (l0_1.length : Int) by omega)]; exact hb) W hW)
        have x3 := pw_cell_below HB.out HX3.out
        go_wp2_with first
          | (go_at_call 17; refine (hT.out (-1) true rfl _ HB.out).mono ?_; rintro e w2 ⟨rfl, hb2⟩; replace c0 := pw_cell_below hb2 c0; replace c1 := pw_cell_below hb2 c1; replace x3 := pw_cell_below hb2 x3; replace HB := Aside0.mk (below_step HB.out hb2); clear hb2)
        obtain ⟨wo, rfl⟩ : ∃ wo : World, wo = wr := ⟨_, rfl⟩
        go_loopw [6] (fun v wq => ∃ j : Int, v = .int .i64 j ∧ Aside0 (-3 ≤ j ∧ j ≤ 7) ∧ wq.cell? ⟨w.heap.size, 0, none⟩ = some (.int .i64 a0_0) ∧ wq.cell? ⟨w.heap.size, 1, none⟩ = some (.slice (some ad) l0_1.length c0_1) ∧ Aside0 (Below w.heap.size w wq) ∧ (World.cell? wq ⟨(ad.add (n * 4)).block, (ad.add (n * 4)).off + 3, none⟩ = some (.slice A3 (rd_T29 l0_1 n).f3.length c3))) (fun v _ => (7 - intOf v).toNat)
        case atStart => exact ⟨-3, rfl, ⟨by omega⟩, c0, c1, HB, x3⟩
        case round =>
          clear c0 c1 HB x3
          obtain ⟨j, rfl, hj, c0, c1, HB, x3⟩ := hrel
          have hj1 := hj.out.1
          have hj2 := hj.out.2
          clear hj
          by_cases hjt : j < 7
          · by_cases hj0 : 0 ≤ j
            · have hjn : (j == -1) = false := by simp; omega
              have hjm : ¬ j = -1 := by omega
              go_wp2_with first
                | (go_at_call 17; refine (hT.out j (decide (j < ((rd_T29 l0_1 n).f3.length : Int))) (by rw [hjn, decide_eq_decide.2 (show (0 ≤ j ∧ j < ((rd_T29 l0_1 n).f3.length : Int)) ↔ (j < ((rd_T29 l0_1 n).f3.length : Int)) by omega)]; rfl) _ HB.out).mono ?_; rintro e w3 ⟨rfl, hb3⟩; replace c0 := pw_cell_below hb3 c0; replace c1 := pw_cell_below hb3 c1; replace x3 := pw_cell_below hb3 x3; replace HB := Aside0.mk (below_step HB.out hb3); clear hb3)
              go_roundw
              case rel => exact ⟨j + 1, by go_num, ⟨by omega⟩, c0, c1, HB, x3⟩
              case measure => simp [intOf]; omega
            · by_cases hjm : j = -1
              · subst hjm
                go_wp2_with fail
                go_roundw
                case rel => exact ⟨0, by go_num, ⟨by omega⟩, c0, c1, HB, x3⟩
                case measure => simp [intOf]
              · have hjn : (j == -1) = false := by simp; omega
                have hjf : ((j == -1) || decide (0 ≤ j ∧ j < ((rd_T29 l0_1 n).f3.length : Int))) = false := by rw [hjn, decide_eq_false (by omega)]; rfl
                go_wp2_with first
                  | (go_at_call 17; refine (hT.out j false hjf _ HB.out).mono ?_; rintro e w3 ⟨rfl, hb3⟩; replace c0 := pw_cell_below hb3 c0; replace c1 := pw_cell_below hb3 c1; replace x3 := pw_cell_below hb3 x3; replace HB := Aside0.mk (below_step HB.out hb3); clear hb3)
                go_roundw
                case rel => exact ⟨j + 1, by go_num, ⟨by omega⟩, c0, c1, HB, x3⟩
                case measure => simp [intOf]; omega
          · go_wp2_with fail
            go_roundw
            case rel => exact ⟨(n : Int) + 1, by go_num, ⟨by omega⟩, c0, c1, HB⟩
            case measure => simp [intOf]; omega
      · have hnd : (mayB a0_0 l0_1 && decide (0 ≤ i ∧ i < (l0_1.length : Int))) = false := by
          rw [HM.out]
          cases m
          · rfl
          · rw [decide_eq_false (fun h => hin ⟨rfl, h⟩)]; rfl
        have hF := Aside0.mk (fun (j : Int) (W : World) (hW : Below w.heap.size w W) => hhas.out i j false (by rw [← Bool.and_assoc, hnd]; rfl) W hW)
        clear hnd
        have hsp : m = false ∨ (m = true ∧ i < 0) ∨ (m = true ∧ 0 ≤ i ∧ ¬ i < (l0_1.length : Int)) := by
          cases m
          · exact .inl rfl
          · rcases Int.lt_or_le i 0 with h | h
            · exact .inr (.inl ⟨rfl, h⟩)
            · exact .inr (.inr ⟨rfl, h, fun h2 => hin ⟨rfl, h, h2⟩⟩)
        clear hin
        rcases hsp with rfl | ⟨rfl, hs1⟩ | ⟨rfl, hs1, hs2⟩
        all_goals
          go_wp2_with first
            | (go_at_call 17; refine (hF.out (-1) _ HB.out).mono ?_; rintro e w2 ⟨rfl, hb2⟩; replace c0 := pw_cell_below hb2 c0; replace c1 := pw_cell_below hb2 c1; replace HB := Aside0.mk (below_step HB.out hb2); clear hb2)
          obtain ⟨wo, rfl⟩ : ∃ wo : World, wo = wr := ⟨_, rfl⟩
          go_loopw [6] (fun v wq => ∃ j : Int, v = .int .i64 j ∧ Aside0 (-3 ≤ j ∧ j ≤ 7) ∧ wq.cell? ⟨w.heap.size, 0, none⟩ = some (.int .i64 a0_0) ∧ wq.cell? ⟨w.heap.size, 1, none⟩ = some (.slice A0_1 l0_1.length c0_1) ∧ Aside0 (Below w.heap.size w wq)) (fun v _ => (7 - intOf v).toNat)
          case atStart => exact ⟨-3, rfl, ⟨by omega⟩, c0, c1, HB⟩
          case round =>
            clear c0 c1 HB
            obtain ⟨j, rfl, hj, c0, c1, HB⟩ := hrel
            have hj1 := hj.out.1
            have hj2 := hj.out.2
            clear hj
            by_cases hjt : j < 7
            · by_cases hj0 : 0 ≤ j
              · have hjn : (j == -1) = false := by simp; omega
                have hjm : ¬ j = -1 := by omega
                go_wp2_with first
                  | (go_at_call 17; refine (hF.out j _ HB.out).mono ?_; rintro e w3 ⟨rfl, hb3⟩; replace c0 := pw_cell_below hb3 c0; replace c1 := pw_cell_below hb3 c1; replace HB := Aside0.mk (below_step HB.out hb3); clear hb3)
                go_roundw
                case rel => exact ⟨j + 1, by go_num, ⟨by omega⟩, c0, c1, HB⟩
                case measure => simp [intOf]; omega
              · by_cases hjm : j = -1
                · subst hjm
                  go_wp2_with fail
                  go_roundw
                  case rel => exact ⟨0, by go_num, ⟨by omega⟩, c0, c1, HB⟩
                  case measure => simp [intOf]
                · have hjn : (j == -1) = false := by simp; omega
                  go_wp2_with first
                    | (go_at_call 17; refine (hF.out j _ HB.out).mono ?_; rintro e w3 ⟨rfl, hb3⟩; replace c0 := pw_cell_below hb3 c0; replace c1 := pw_cell_below hb3 c1; replace HB := Aside0.mk (below_step HB.out hb3); clear hb3)
                  go_roundw
                  case rel => exact ⟨j + 1, by go_num, ⟨by omega⟩, c0, c1, HB⟩
                  case measure => simp [intOf]; omega
            · go_wp2_with fail
              go_roundw
              case rel => exact ⟨i + 1, by go_num, ⟨by omega⟩, c0, c1, HB⟩
              case measure => simp [intOf]; omega
    · go_wp2_with first
        | (go_at_call 14; refine (wharfagelaw0_Num.calls _ _ _ rfl).mono ?_; rintro e w3 ⟨rfl, hn⟩)
      go_ret
      exact ⟨ret_bool rfl, below_step HB.out (drawn0_below hn)⟩


end Go.Proofs.Ytcefplpmpmlboab.PConf
