/- Contracts: what calls of these functions of the program do, each as a plain function; written by a program of this session. -/
import Derived.Test.YtnocfhnandedoabPVRowx0
import Derived.Test.YtnocfhnandedoabPVRowx3
import Derived.Test.YtnocfhnandedoabPVRowx4
import Derived.Test.YtnocfhnandedoabPVRowx5
import Derived.Test.YtnocfhnandedoabPVRowx6
namespace Go.Proofs.Ytnocfhnandedoab.PVRow
open Go.RowKit Go.Proofs.YtnocfhnandedoabW.PrintWords Go.Proofs.YtnocfhnandedoabW.PrintLast Go.Proofs.YtnocfhnandedoabW.PrintMore
attribute [local go_sem] max2_int min2_int max_two min_two max_three min_three max_four min_four   -- for this text's walks alone
set_option linter.unusedVariables false
set_option linter.unusedSimpArgs false

/-! ### view_Take: function 39, by hand -/
def repOk (a b c d : Int) : Bool := decide ((0 ≤ a ∧ a < 3) ∧ (0 ≤ b ∧ b < 65536) ∧ (0 ≤ c ∧ c < 256) ∧ (0 ≤ d ∧ d < 256))
def timeOk (t : Int) : Bool := decide (0 ≤ t ∧ t ≤ 1048576)
def noneSeen (v : S85) : Bool := decide (v.f1 = -1 ∧ v.f0.f0 = 0 ∧ v.f0.f1 = 0 ∧ v.f0.f2 = 0 ∧ v.f0.f3 = 0)
def seenOk (i : Int) (v : S85) : Bool := noneSeen v || (timeOk v.f1 && repOk v.f0.f0 v.f0.f1 v.f0.f2 v.f0.f3 && decide (v.f0.f0 = i))
def seensOk : Nat → List S85 → Bool
  | _, [] => true
  | i, v :: r => seenOk (i : Int) v && seensOk (i + 1) r
def mayV (l : List S85) : Bool := seensOk 0 l && decide (l.length = 3)
def newerB (a b : Int) : Bool := decide ((0 ≤ a ∧ a < 65536) ∧ (0 ≤ b ∧ b < 65536) ∧ 1 ≤ (a - b) % 65536 ∧ (a - b) % 65536 < 32768)
theorem newer_plain (a b : Int) : report_Newer.f a b = some (newerB a b, if (0 ≤ a ∧ a < 65536) ∧ (0 ≤ b ∧ b < 65536) then 0 else 700) := by
  unfold report_Newer.f report_serial.f newerB
  by_cases h1 : 0 ≤ a ∧ a < 65536
  · by_cases h2 : 0 ≤ b ∧ b < 65536
    · have e : Int.tmod (wrap64 ((wrap64 (a - b)) + 65536)) 65536 = (a - b) % 65536 := by
        have e1 : wrap64 (a - b) = a - b := by unfold wrap64; omega
        have e2 : wrap64 (a - b + 65536) = a - b + 65536 := by unfold wrap64; omega
        rw [e1, e2, Int.tmod_eq_emod_of_nonneg (by omega)]; omega
      rw [e]
      by_cases h3 : (a - b) % 65536 ≥ 1
      · simp [h1, h2, h3]
      · have h4 : ¬ 1 ≤ (a - b) % 65536 := by omega
        simp [h1, h2, h3, h4]
    · by_cases h3 : b ≥ 0
      · have h4 : ¬ b < 65536 := by omega
        simp [h1, h3, h4]
      · have h4 : ¬ 0 ≤ b := by omega
        simp [h1, h3, h4]
  · by_cases h3 : a ≥ 0
    · have h4 : ¬ a < 65536 := by omega
      simp [h3, h4]
    · have h4 : ¬ 0 ≤ a := by omega
      simp [h3, h4]
theorem rep_plain (a b c d : Int) : report_May.f a b c d = some (repOk a b c d) := by
  have hin : ∀ x : Int, ip_In.f x 8 = some (decide (0 ≤ x ∧ x < 256)) := by
    intro x
    unfold ip_In.f
    by_cases h : x ≥ 0
    · have e : shr .i64 x (8 : Int) = x / 256 := rfl
      rw [if_pos h, if_pos (by omega), e]; congr 1
      rw [Bool.eq_iff_iff]; simp only [beq_iff_eq, decide_eq_true_eq]; omega
    · rw [if_neg h]; congr 1; simp; omega
  have hs : report_Site.f a = some (decide (0 ≤ a ∧ a < 3)) := by
    unfold report_Site.f
    by_cases h : a ≥ 0
    · rw [if_pos h]; congr 1; simp; omega
    · rw [if_neg h]; congr 1; simp; omega
  have hr : report_serial.f b = some (decide (0 ≤ b ∧ b < 65536)) := by
    unfold report_serial.f
    by_cases h : b ≥ 0
    · rw [if_pos h]; congr 1; simp; omega
    · rw [if_neg h]; congr 1; simp; omega
  unfold report_May.f repOk
  rw [hs, hr, hin, hin]
  simp only [Option.bind_some]
  by_cases h1 : 0 ≤ a ∧ a < 3 <;> by_cases h2 : 0 ≤ b ∧ b < 65536 <;> by_cases h3 : 0 ≤ c ∧ c < 256 <;> by_cases h4 : 0 ≤ d ∧ d < 256 <;> simp [h1, h2, h3, h4]
theorem time_plain (t : Int) : conf_Time.f t = some (timeOk t) := by
  unfold conf_Time.f conf_to.f timeOk
  by_cases h : t ≥ 0
  · rw [if_pos h]; simp; omega
  · rw [if_neg h]; simp; omega
theorem may_loop (x0 l : List S85) (hl : l.length ≤ 9223372036854775807) (d : Nat) : ∀ (k i : Nat), l.length - i ≤ d → 2 * d + 1 ≤ k → i ≤ l.length → view_May.l0 k x0 l (l.length : Int) (i : Int) = some (seensOk i (l.drop i) && (x0.length : Int) == 3) := by
  induction d with
  | zero =>
    intro k i hd hk hi
    obtain ⟨k, rfl⟩ : ∃ m, k = m + 1 := ⟨k - 1, by omega⟩
    simp only [view_May.l0]
    rw [if_neg (by omega), List.drop_of_length_le (by omega)]; rfl
  | succ d ih =>
    intro k i hd hk hi
    obtain ⟨k, rfl⟩ : ∃ m, k = m + 2 := ⟨k - 2, by omega⟩
    by_cases h : (i : Int) < (l.length : Int)
    · have hlt : i < l.length := by omega
      have e : rd_T85 l (i : Int) = l[i] := by simp [rd_T85, hlt]
      have next : ∀ k', 2 * d + 1 ≤ k' → view_May.l0 k' x0 l (l.length : Int) (wrap64 ((i : Int) + 1)) = some (seensOk (i + 1) (l.drop (i + 1)) && (x0.length : Int) == 3) := by
        intro k' hk'
        rw [show wrap64 ((i : Int) + 1) = ((i + 1 : Nat) : Int) by unfold wrap64; omega]
        exact ih k' (i + 1) (by omega) hk' (by omega)
      have nk := next k (by omega)
      rw [List.drop_eq_getElem_cons hlt]
      simp only [view_May.l0, view_May.j1]
      rw [if_pos h, if_pos (show (0 : Int) ≤ (i : Int) by omega), if_pos h, e]
      unfold seensOk seenOk
      rw [time_plain, rep_plain]
      simp only [Option.bind_some]
      by_cases hn : noneSeen l[i] = true
      · have hn2 := hn
        unfold noneSeen at hn2
        rw [decide_eq_true_eq] at hn2
        obtain ⟨h1, h2, h3, h4, h5⟩ := hn2
        rw [if_pos h1, h2, h3, h4, h5, if_pos (by decide), nk, hn]
        simp
      · rw [Bool.not_eq_true] at hn
        have hb : (if l[i].f1 = -1 then view_May.j1 (k + 1) x0 i ((l[i].f0.f0) == 0 && ((l[i].f0.f1) == 0 && ((l[i].f0.f2) == 0 && (l[i].f0.f3) == 0))) l (l.length : Int) i l[i].f0.f0 l[i].f0.f1 l[i].f0.f2 l[i].f0.f3 l[i].f1 else view_May.j1 (k + 1) x0 i false l (l.length : Int) i l[i].f0.f0 l[i].f0.f1 l[i].f0.f2 l[i].f0.f3 l[i].f1) = view_May.j1 (k + 1) x0 i false l (l.length : Int) i l[i].f0.f0 l[i].f0.f1 l[i].f0.f2 l[i].f0.f3 l[i].f1 := by
          by_cases h1 : l[i].f1 = -1
          · rw [if_pos h1]
            congr 1
            unfold noneSeen at hn
            rw [decide_eq_false_iff_not] at hn
            rw [Bool.eq_false_iff]
            intro hh
            simp only [Bool.and_eq_true, beq_iff_eq] at hh
            exact hn ⟨h1, hh.1, hh.2.1, hh.2.2.1, hh.2.2.2⟩
          · rw [if_neg h1]
        simp only [view_May.j1, time_plain, rep_plain, Option.bind_some, Bool.false_eq_true, if_false] at hb
        simp only [Bool.false_eq_true, if_false]
        rw [hb, nk, hn, Bool.false_or]
        cases timeOk l[i].f1
        · simp
        · cases repOk l[i].f0.f0 l[i].f0.f1 l[i].f0.f2 l[i].f0.f3
          · simp
          · by_cases hs : l[i].f0.f0 = (i : Int)
            · simp [hs]
            · simp [hs]
    · simp only [view_May.l0]
      rw [if_neg h, List.drop_of_length_le (by omega)]; rfl
theorem may_plain (l : List S85) (hl : l.length ≤ 9223372036854775807) (k : Nat) (hk : 2 * l.length + 1 ≤ k) : view_May.f k l = some (mayV l) := by
  have h := may_loop l l hl l.length k 0 (by omega) hk (by omega)
  unfold view_May.f mayV
  rw [show (0 : Int) = ((0 : Nat) : Int) from rfl, h, List.drop_zero]
  congr 2
  rw [Bool.eq_iff_iff, beq_iff_eq, decide_eq_true_eq]; omega
def takeF (l : List S85) (a b c d now : Int) : List S85 × Bool × Int :=
  if (mayV l && (repOk a b c d && timeOk now)) = true then
    (if (rd_T85 l a).f1 ≠ -1 ∧ newerB b (rd_T85 l a).f0.f1 = false then (l, false, 0) else (l.set a.toNat ⟨⟨a, b, c, d⟩, now⟩, true, 0))
  else ([], false, 1200)
def view_Take.f (l0 : List S85) (a1_0 a1_1 a1_2 a1_3 a2 : Int) : Option (List S85 × Bool × Int) := some (takeF l0 a1_0 a1_1 a1_2 a1_3 a2)
set_option maxHeartbeats 8000000 in
set_option maxRecDepth 100000 in
theorem view_Take.calls (A0 : Option Addr) (c0 : Nat) (l0 : List S85) (a1_0 a1_1 a1_2 a1_3 a2 : Int) (r1 : List S85) (r2 : Bool) (r3 : Int) (w : World) (hr0 : Kd.C k85 w A0 l0.length l0) (hc0 : l0.length ≤ c0) (h : view_Take.f l0 a1_0 a1_1 a1_2 a1_3 a2 = some (r1, r2, r3)) :
    Calls Try.prog 39 #[.slice A0 l0.length c0, .agg #[.int .i64 a1_0, .int .i64 a1_1, .int .i64 a1_2, .int .i64 a1_3], .int .i64 a2] w fun e w' => ∃ v0_ : Value, e = .returned (.tuple #[v0_, .bool r2, .int .i64 r3]) ∧ Kd.R k85 85 w' w.heap.size (fun _ => True) v0_ r1 ∧ Below w.heap.size w w' := by
  have HX := Aside0.mk (Option.some.inj h)
  clear h
  have hu := Try.underlying85
  have hu2 := Try.underlying68
  have hl := hr0.2.1
  have hmay := Aside0.mk (fun (b : Bool) (hb : mayV l0 = b) (W : World) (hW : Below w.heap.size w W) => view_May.calls (2 * l0.length + 1) A0 c0 l0 b W (Kd.C_below hr0 hW) hc0 (by rw [may_plain l0 hl _ (Nat.le_refl _), hb]))
  have HC := Aside0.mk hc0
  have HR0 := Aside0.mk hr0
  clear hr0 hc0 hl
  cases hm : mayV l0
  · have HM := Aside0.mk hm
    clear hm
    obtain ⟨rfl, rfl, rfl⟩ : r1 = [] ∧ r2 = false ∧ r3 = 1200 := by
      have e : (([] : List S85), false, (1200 : Int)) = (r1, r2, r3) := by
        have e := HX.out
        unfold takeF at e
        rw [HM.out] at e
        exact e
      injection e with e1 e
      injection e with e2 e3
      exact ⟨e1.symm, e2.symm, e3.symm⟩
    go_enter Try.func39, Try.ntmps39
    go_wp2_with first
      | (go_at_call 44; refine (hmay.out false HM.out _ (below_alloc (Below.refl _ _) _)).mono ?_; rintro e w1 ⟨rfl, hb⟩; have b0 : w1.cell? ⟨w.heap.size, 0, none⟩ = some (.int .i64 a1_0) := pw_cell_below hb (by simp); have b1 : w1.cell? ⟨w.heap.size, 1, none⟩ = some (.int .i64 a1_1) := pw_cell_below hb (by simp); have b2 : w1.cell? ⟨w.heap.size, 2, none⟩ = some (.int .i64 a1_2) := pw_cell_below hb (by simp); have b3 : w1.cell? ⟨w.heap.size, 3, none⟩ = some (.int .i64 a1_3) := pw_cell_below hb (by simp); have HB := Aside0.mk (below_step (below_alloc (Below.refl _ _) _) hb); clear hb)
    go_ret3
    exact ⟨_, rfl, Kd.R_nil _ _ _ _ _, HB.out⟩
  cases hr : repOk a1_0 a1_1 a1_2 a1_3
  · have HM := Aside0.mk hm
    have HR := Aside0.mk hr
    clear hm hr
    obtain ⟨rfl, rfl, rfl⟩ : r1 = [] ∧ r2 = false ∧ r3 = 1200 := by
      have e : (([] : List S85), false, (1200 : Int)) = (r1, r2, r3) := by
        have e := HX.out
        unfold takeF at e
        rw [HM.out, HR.out] at e
        exact e
      injection e with e1 e
      injection e with e2 e3
      exact ⟨e1.symm, e2.symm, e3.symm⟩
    go_enter Try.func39, Try.ntmps39
    go_wp2_with first
      | (go_at_call 44; refine (hmay.out true HM.out _ (below_alloc (Below.refl _ _) _)).mono ?_; rintro e w1 ⟨rfl, hb⟩; have b0 : w1.cell? ⟨w.heap.size, 0, none⟩ = some (.int .i64 a1_0) := pw_cell_below hb (by simp); have b1 : w1.cell? ⟨w.heap.size, 1, none⟩ = some (.int .i64 a1_1) := pw_cell_below hb (by simp); have b2 : w1.cell? ⟨w.heap.size, 2, none⟩ = some (.int .i64 a1_2) := pw_cell_below hb (by simp); have b3 : w1.cell? ⟨w.heap.size, 3, none⟩ = some (.int .i64 a1_3) := pw_cell_below hb (by simp); have HB := Aside0.mk (below_step (below_alloc (Below.refl _ _) _) hb); clear hb)
      | (go_at_call 69; refine (report_May.calls _ _ _ _ false _ (by rw [rep_plain, HR.out])).mono ?_; rintro e w2 ⟨rfl, hb⟩; replace b0 := pw_cell_below hb b0; replace b1 := pw_cell_below hb b1; replace b2 := pw_cell_below hb b2; replace b3 := pw_cell_below hb b3; replace HB := Aside0.mk (below_step HB.out hb); clear hb)
    go_ret3
    exact ⟨_, rfl, Kd.R_nil _ _ _ _ _, HB.out⟩
  cases ht : timeOk a2
  · have HM := Aside0.mk hm
    have HR := Aside0.mk hr
    have HT := Aside0.mk ht
    clear hm hr ht
    obtain ⟨rfl, rfl, rfl⟩ : r1 = [] ∧ r2 = false ∧ r3 = 1200 := by
      have e : (([] : List S85), false, (1200 : Int)) = (r1, r2, r3) := by
        have e := HX.out
        unfold takeF at e
        rw [HM.out, HR.out, HT.out] at e
        exact e
      injection e with e1 e
      injection e with e2 e3
      exact ⟨e1.symm, e2.symm, e3.symm⟩
    go_enter Try.func39, Try.ntmps39
    go_wp2_with first
      | (go_at_call 44; refine (hmay.out true HM.out _ (below_alloc (Below.refl _ _) _)).mono ?_; rintro e w1 ⟨rfl, hb⟩; have b0 : w1.cell? ⟨w.heap.size, 0, none⟩ = some (.int .i64 a1_0) := pw_cell_below hb (by simp); have b1 : w1.cell? ⟨w.heap.size, 1, none⟩ = some (.int .i64 a1_1) := pw_cell_below hb (by simp); have b2 : w1.cell? ⟨w.heap.size, 2, none⟩ = some (.int .i64 a1_2) := pw_cell_below hb (by simp); have b3 : w1.cell? ⟨w.heap.size, 3, none⟩ = some (.int .i64 a1_3) := pw_cell_below hb (by simp); have HB := Aside0.mk (below_step (below_alloc (Below.refl _ _) _) hb); clear hb)
      | (go_at_call 69; refine (report_May.calls _ _ _ _ true _ (by rw [rep_plain, HR.out])).mono ?_; rintro e w2 ⟨rfl, hb⟩; replace b0 := pw_cell_below hb b0; replace b1 := pw_cell_below hb b1; replace b2 := pw_cell_below hb b2; replace b3 := pw_cell_below hb b3; replace HB := Aside0.mk (below_step HB.out hb); clear hb)
      | (go_at_call 65; refine (conf_Time.calls _ false _ (by rw [time_plain, HT.out])).mono ?_; rintro e w3 ⟨rfl, hn⟩; have hb := Go.Proofs.Ytnocfhnandedoab.Hand.hk_drawn hn; clear hn; replace b0 := pw_cell_below hb b0; replace b1 := pw_cell_below hb b1; replace b2 := pw_cell_below hb b2; replace b3 := pw_cell_below hb b3; replace HB := Aside0.mk (below_step HB.out hb); clear hb)
    go_ret3
    exact ⟨_, rfl, Kd.R_nil _ _ _ _ _, HB.out⟩
  have HM := Aside0.mk hm
  have HR := Aside0.mk hr
  have HT := Aside0.mk ht
  have h3 : l0.length = 3 := by unfold mayV at hm; simp only [Bool.and_eq_true, decide_eq_true_eq] at hm; exact hm.2
  have H3 := Aside0.mk h3
  obtain ⟨hs0, hs1⟩ : 0 ≤ a1_0 ∧ a1_0 < 3 := by unfold repOk at hr; rw [decide_eq_true_eq] at hr; exact hr.1
  obtain ⟨i, rfl⟩ := Int.eq_ofNat_of_zero_le hs0
  have HI := Aside0.mk (show i < 3 by omega)
  have hin : ((i : Int)).toNat = i := Int.toNat_natCast i
  clear hm hr ht
  obtain ⟨x, hx⟩ : ∃ x, rd_T85 l0 (i : Int) = x := ⟨_, rfl⟩
  have HE := Aside0.mk hx
  have HX2 := Aside0.mk (show (if x.f1 ≠ -1 ∧ newerB a1_1 x.f0.f1 = false then (l0, false, (0 : Int)) else (l0.set i ⟨⟨i, a1_1, a1_2, a1_3⟩, a2⟩, true, 0)) = (r1, r2, r3) by
    have e := HX.out
    unfold takeF at e
    rw [HM.out, HR.out, HT.out, hx, hin] at e
    exact e)
  clear hx HX h3
  obtain ⟨nw, hnw⟩ : ∃ b, newerB a1_1 x.f0.f1 = b := ⟨_, rfl⟩
  have HN := Aside0.mk hnw
  clear hnw
  obtain ⟨nq, hnq⟩ : ∃ q, report_Newer.f a1_1 x.f0.f1 = some (nw, q) := ⟨_, by rw [newer_plain, HN.out]⟩
  have HQ := Aside0.mk hnq
  clear hnq
  by_cases hat : x.f1 = -1
  · have hf1 : x.f1 = -1 := hat
    clear hat
    obtain ⟨rfl, rfl, rfl⟩ : r1 = l0.set i ⟨⟨i, a1_1, a1_2, a1_3⟩, a2⟩ ∧ r2 = true ∧ r3 = 0 := by
      have e := HX2.out
      rw [if_neg (fun h => h.1 hf1)] at e
      injection e with e1 e
      injection e with e2 e3
      exact ⟨e1.symm, e2.symm, e3.symm⟩
    clear HX2
    go_enter Try.func39, Try.ntmps39
    go_wp2_with first
      | (go_at_call 44; refine (hmay.out true HM.out _ (below_alloc (Below.refl _ _) _)).mono ?_; rintro e w1 ⟨rfl, hb⟩; have b0 : w1.cell? ⟨w.heap.size, 0, none⟩ = some (.int .i64 (i : Int)) := pw_cell_below hb (by simp); have b1 : w1.cell? ⟨w.heap.size, 1, none⟩ = some (.int .i64 a1_1) := pw_cell_below hb (by simp); have b2 : w1.cell? ⟨w.heap.size, 2, none⟩ = some (.int .i64 a1_2) := pw_cell_below hb (by simp); have b3 : w1.cell? ⟨w.heap.size, 3, none⟩ = some (.int .i64 a1_3) := pw_cell_below hb (by simp); have HB := Aside0.mk (below_step (below_alloc (Below.refl _ _) _) hb); clear hb)
      | (go_at_call 69; refine (report_May.calls _ _ _ _ true _ (by rw [rep_plain, HR.out])).mono ?_; rintro e w2 ⟨rfl, hb⟩; replace b0 := pw_cell_below hb b0; replace b1 := pw_cell_below hb b1; replace b2 := pw_cell_below hb b2; replace b3 := pw_cell_below hb b3; replace HB := Aside0.mk (below_step HB.out hb); clear hb)
      | (go_at_call 65; refine (conf_Time.calls _ true _ (by rw [time_plain, HT.out])).mono ?_; rintro e w3 ⟨rfl, hn⟩; have hb := Go.Proofs.Ytnocfhnandedoab.Hand.hk_drawn hn; clear hn; replace b0 := pw_cell_below hb b0; replace b1 := pw_cell_below hb b1; replace b2 := pw_cell_below hb b2; replace b3 := pw_cell_below hb b3; replace HB := Aside0.mk (below_step HB.out hb); clear hb)
      | (go_at_call 70; refine (api_Seen_70.calls A0 c0 l0 l0 _ (Kd.C_below HR0.out HB.out) HC.out (by unfold api_Seen_70.f; rw [if_pos (by rw [H3.out]; decide)])).mono ?_; rintro e w4 ⟨v4, rfl, ho, hb⟩; obtain ⟨g, cap, rfl, hg1, hg2⟩ := Go.Proofs.Ytnocfhnandedoab.Hand.hk_own ho (by rw [H3.out]; decide); have hi3 : (i : Int) < (l0.length : Int) := (by have := HI.out; have := H3.out; omega); obtain ⟨ce, hcl, hM, hcc, hfr⟩ := Kd.R_elem ho z85 (i : Int) (Int.natCast_nonneg i) hi3; obtain rfl := k85_openM hM; have s1 : w4.cell? ⟨g, i * 5 + 1, none⟩ = some (.int .i64 x.f0.f1) := (by have h_ := hcc 1 _ rfl; rw [Int.toNat_natCast] at h_; rw [← HE.out]; exact h_); have s4 : w4.cell? ⟨g, i * 5 + 4, none⟩ = some (.int .i64 x.f1) := (by have h_ := hcc 4 _ rfl; rw [Int.toNat_natCast] at h_; rw [← HE.out]; exact h_); have HO := Aside0.mk (Kd.R_lower ho (below_size HB.out)); have GW := Aside0.mk (Nat.le_trans (below_size HB.out) hg1); clear hcl hM hcc hfr ho hg1 hg2; replace b0 := pw_cell_below hb b0; replace b1 := pw_cell_below hb b1; replace b2 := pw_cell_below hb b2; replace b3 := pw_cell_below hb b3; replace HB := Aside0.mk (below_step HB.out hb); clear hb)
    go_region_held3 (fun w' => w'.cell? ⟨w.heap.size, 1, none⟩ = some (.int .i64 a1_1) ∧ w'.cell? ⟨g, i * 5 + 1, none⟩ = some (.int .i64 x.f0.f1)) (first | go_keep | (simp [*]))
      ((go_at_call 71; refine (report_Newer.calls _ _ _ nq _ HQ.out).mono ?_; rintro e w5 ⟨rfl, ⟨nd, rfl⟩⟩))
    obtain ⟨w5, hW⟩ : ∃ x_, x_ = w4.drewN (1 + nd) := ⟨_, rfl⟩
    have hb : Below w4.heap.size w4 w5 := hW ▸ pw_below_drewN (Below.refl _ _) _
    rw [← hW]
    clear hW
    clear s1
    replace b0 := pw_cell_below hb b0
    replace b1 := pw_cell_below hb b1
    replace b2 := pw_cell_below hb b2
    replace b3 := pw_cell_below hb b3
    replace s4 := pw_cell_below hb s4
    replace HO := Aside0.mk (Kd.R_below HO.out hb)
    replace HB := Aside0.mk (below_step HB.out hb)
    clear hb
    go_wp2_with first
      | ((with_reducible refine gate_store (t := 85) (p := 57) rfl ?_); obtain ⟨ce, hcl, hM, hcc, hfr⟩ := Kd.R_elem HO.out z85 (i : Int) (Int.natCast_nonneg i) hi3; obtain rfl := k85_openM hM; have HP := Kd.R_seg HO.out (i : Int) (Int.natCast_nonneg i) hi3 (seg := [.int .i64 (i : Int), .int .i64 a1_1, .int .i64 a1_2, .int .i64 a1_3, .int .i64 a2]) (j := 0) hcl hcc (show 5 ≤ 5 from by decide) (x' := (⟨⟨(i : Int), a1_1, a1_2, a1_3⟩, a2⟩ : S85)) (k85_mkM _ _ _ _) (fun _ hk => hk); rw [Int.toNat_natCast] at HP; have hq0 := hcc 0 _ rfl; have hq1 := hcc 1 _ rfl; have hq2 := hcc 2 _ rfl; have hq3 := hcc 3 _ rfl; have hq4 := hcc 4 _ rfl; have hr0 := hfr 0; have hr1 := hfr 1; have hr2 := hfr 2; have hr3 := hfr 3; have hr4 := hfr 4; simp only [show (k85).sz = 5 from rfl, Int.toNat_natCast, Nat.add_zero] at hq0 hq1 hq2 hq3 hq4 hr0 hr1 hr2 hr3 hr4; refine store_event (t := 85) (p := 57) (v := ?vo) (w1 := w5.setCells g (i * 5) [.int .i64 (i : Int), .int .i64 a1_1, .int .i64 a1_2, .int .i64 a1_3, .int .i64 a2]) ?hg ?ho ?hn ?hr ?_; (case ho => rfl); (case hg => rfl); (case hn => rfl); (case hr => simp only [World.setCells]; first | (go_simp; done) | (go_simp; rfl)); intro w6 hw; replace HO := Aside0.mk (show Kd.R k85 85 w6 w.heap.size (fun _ => True) (.slice (some ⟨g, 0, none⟩) l0.length cap) (l0.set i ⟨⟨(i : Int), a1_1, a1_2, a1_3⟩, a2⟩) from hw ▸ HP.1); replace HB := Aside0.mk (show Below w.heap.size w w6 from HB.out.grown (hw ▸ HP.2) (below_size HB.out) (fun k hk => by injection hk with hk; subst hk; exact GW.out)); clear HP hq0 hq1 hq2 hq3 hq4 hr0 hr1 hr2 hr3 hr4 hcl hM hcc hfr hw)
    go_ret3
    exact ⟨_, rfl, HO.out, HB.out⟩
  cases nw
  · have HN := HN
    obtain ⟨e1, rfl, rfl⟩ : l0 = r1 ∧ r2 = false ∧ r3 = 0 := by
      have e := HX2.out
      rw [if_pos ⟨hat, HN.out⟩] at e
      injection e with e1 e
      injection e with e2 e3
      exact ⟨e1, e2.symm, e3.symm⟩
    subst e1
    clear HX2
    go_enter Try.func39, Try.ntmps39
    go_wp2_with first
      | (go_at_call 44; refine (hmay.out true HM.out _ (below_alloc (Below.refl _ _) _)).mono ?_; rintro e w1 ⟨rfl, hb⟩; have b0 : w1.cell? ⟨w.heap.size, 0, none⟩ = some (.int .i64 (i : Int)) := pw_cell_below hb (by simp); have b1 : w1.cell? ⟨w.heap.size, 1, none⟩ = some (.int .i64 a1_1) := pw_cell_below hb (by simp); have b2 : w1.cell? ⟨w.heap.size, 2, none⟩ = some (.int .i64 a1_2) := pw_cell_below hb (by simp); have b3 : w1.cell? ⟨w.heap.size, 3, none⟩ = some (.int .i64 a1_3) := pw_cell_below hb (by simp); have HB := Aside0.mk (below_step (below_alloc (Below.refl _ _) _) hb); clear hb)
      | (go_at_call 69; refine (report_May.calls _ _ _ _ true _ (by rw [rep_plain, HR.out])).mono ?_; rintro e w2 ⟨rfl, hb⟩; replace b0 := pw_cell_below hb b0; replace b1 := pw_cell_below hb b1; replace b2 := pw_cell_below hb b2; replace b3 := pw_cell_below hb b3; replace HB := Aside0.mk (below_step HB.out hb); clear hb)
      | (go_at_call 65; refine (conf_Time.calls _ true _ (by rw [time_plain, HT.out])).mono ?_; rintro e w3 ⟨rfl, hn⟩; have hb := Go.Proofs.Ytnocfhnandedoab.Hand.hk_drawn hn; clear hn; replace b0 := pw_cell_below hb b0; replace b1 := pw_cell_below hb b1; replace b2 := pw_cell_below hb b2; replace b3 := pw_cell_below hb b3; replace HB := Aside0.mk (below_step HB.out hb); clear hb)
      | (go_at_call 70; refine (api_Seen_70.calls A0 c0 l0 l0 _ (Kd.C_below HR0.out HB.out) HC.out (by unfold api_Seen_70.f; rw [if_pos (by rw [H3.out]; decide)])).mono ?_; rintro e w4 ⟨v4, rfl, ho, hb⟩; obtain ⟨g, cap, rfl, hg1, hg2⟩ := Go.Proofs.Ytnocfhnandedoab.Hand.hk_own ho (by rw [H3.out]; decide); have hi3 : (i : Int) < (l0.length : Int) := (by have := HI.out; have := H3.out; omega); obtain ⟨ce, hcl, hM, hcc, hfr⟩ := Kd.R_elem ho z85 (i : Int) (Int.natCast_nonneg i) hi3; obtain rfl := k85_openM hM; have s1 : w4.cell? ⟨g, i * 5 + 1, none⟩ = some (.int .i64 x.f0.f1) := (by have h_ := hcc 1 _ rfl; rw [Int.toNat_natCast] at h_; rw [← HE.out]; exact h_); have s4 : w4.cell? ⟨g, i * 5 + 4, none⟩ = some (.int .i64 x.f1) := (by have h_ := hcc 4 _ rfl; rw [Int.toNat_natCast] at h_; rw [← HE.out]; exact h_); have HO := Aside0.mk (Kd.R_lower ho (below_size HB.out)); have GW := Aside0.mk (Nat.le_trans (below_size HB.out) hg1); clear hcl hM hcc hfr ho hg1 hg2; replace b0 := pw_cell_below hb b0; replace b1 := pw_cell_below hb b1; replace b2 := pw_cell_below hb b2; replace b3 := pw_cell_below hb b3; replace HB := Aside0.mk (below_step HB.out hb); clear hb)
    go_region_held3 (fun w' => w'.cell? ⟨w.heap.size, 1, none⟩ = some (.int .i64 a1_1) ∧ w'.cell? ⟨g, i * 5 + 1, none⟩ = some (.int .i64 x.f0.f1)) (first | go_keep | (simp [*]))
      ((go_at_call 71; refine (report_Newer.calls _ _ _ nq _ HQ.out).mono ?_; rintro e w5 ⟨rfl, ⟨nd, rfl⟩⟩))
    obtain ⟨w5, hW⟩ : ∃ x_, x_ = w4.drewN (1 + nd) := ⟨_, rfl⟩
    have hb : Below w4.heap.size w4 w5 := hW ▸ pw_below_drewN (Below.refl _ _) _
    rw [← hW]
    clear hW
    clear s1
    replace b0 := pw_cell_below hb b0
    replace b1 := pw_cell_below hb b1
    replace b2 := pw_cell_below hb b2
    replace b3 := pw_cell_below hb b3
    replace s4 := pw_cell_below hb s4
    replace HO := Aside0.mk (Kd.R_below HO.out hb)
    replace HB := Aside0.mk (below_step HB.out hb)
    clear hb
    go_wp2_with fail
    go_ret3
    exact ⟨_, rfl, HO.out, HB.out⟩
  · have HN := HN
    obtain ⟨rfl, rfl, rfl⟩ : r1 = l0.set i ⟨⟨i, a1_1, a1_2, a1_3⟩, a2⟩ ∧ r2 = true ∧ r3 = 0 := by
      have e := HX2.out
      rw [if_neg (fun h => by rw [HN.out] at h; cases h.2)] at e
      injection e with e1 e
      injection e with e2 e3
      exact ⟨e1.symm, e2.symm, e3.symm⟩
    clear HX2
    go_enter Try.func39, Try.ntmps39
    go_wp2_with first
      | (go_at_call 44; refine (hmay.out true HM.out _ (below_alloc (Below.refl _ _) _)).mono ?_; rintro e w1 ⟨rfl, hb⟩; have b0 : w1.cell? ⟨w.heap.size, 0, none⟩ = some (.int .i64 (i : Int)) := pw_cell_below hb (by simp); have b1 : w1.cell? ⟨w.heap.size, 1, none⟩ = some (.int .i64 a1_1) := pw_cell_below hb (by simp); have b2 : w1.cell? ⟨w.heap.size, 2, none⟩ = some (.int .i64 a1_2) := pw_cell_below hb (by simp); have b3 : w1.cell? ⟨w.heap.size, 3, none⟩ = some (.int .i64 a1_3) := pw_cell_below hb (by simp); have HB := Aside0.mk (below_step (below_alloc (Below.refl _ _) _) hb); clear hb)
      | (go_at_call 69; refine (report_May.calls _ _ _ _ true _ (by rw [rep_plain, HR.out])).mono ?_; rintro e w2 ⟨rfl, hb⟩; replace b0 := pw_cell_below hb b0; replace b1 := pw_cell_below hb b1; replace b2 := pw_cell_below hb b2; replace b3 := pw_cell_below hb b3; replace HB := Aside0.mk (below_step HB.out hb); clear hb)
      | (go_at_call 65; refine (conf_Time.calls _ true _ (by rw [time_plain, HT.out])).mono ?_; rintro e w3 ⟨rfl, hn⟩; have hb := Go.Proofs.Ytnocfhnandedoab.Hand.hk_drawn hn; clear hn; replace b0 := pw_cell_below hb b0; replace b1 := pw_cell_below hb b1; replace b2 := pw_cell_below hb b2; replace b3 := pw_cell_below hb b3; replace HB := Aside0.mk (below_step HB.out hb); clear hb)
      | (go_at_call 70; refine (api_Seen_70.calls A0 c0 l0 l0 _ (Kd.C_below HR0.out HB.out) HC.out (by unfold api_Seen_70.f; rw [if_pos (by rw [H3.out]; decide)])).mono ?_; rintro e w4 ⟨v4, rfl, ho, hb⟩; obtain ⟨g, cap, rfl, hg1, hg2⟩ := Go.Proofs.Ytnocfhnandedoab.Hand.hk_own ho (by rw [H3.out]; decide); have hi3 : (i : Int) < (l0.length : Int) := (by have := HI.out; have := H3.out; omega); obtain ⟨ce, hcl, hM, hcc, hfr⟩ := Kd.R_elem ho z85 (i : Int) (Int.natCast_nonneg i) hi3; obtain rfl := k85_openM hM; have s1 : w4.cell? ⟨g, i * 5 + 1, none⟩ = some (.int .i64 x.f0.f1) := (by have h_ := hcc 1 _ rfl; rw [Int.toNat_natCast] at h_; rw [← HE.out]; exact h_); have s4 : w4.cell? ⟨g, i * 5 + 4, none⟩ = some (.int .i64 x.f1) := (by have h_ := hcc 4 _ rfl; rw [Int.toNat_natCast] at h_; rw [← HE.out]; exact h_); have HO := Aside0.mk (Kd.R_lower ho (below_size HB.out)); have GW := Aside0.mk (Nat.le_trans (below_size HB.out) hg1); clear hcl hM hcc hfr ho hg1 hg2; replace b0 := pw_cell_below hb b0; replace b1 := pw_cell_below hb b1; replace b2 := pw_cell_below hb b2; replace b3 := pw_cell_below hb b3; replace HB := Aside0.mk (below_step HB.out hb); clear hb)
    go_region_held3 (fun w' => w'.cell? ⟨w.heap.size, 1, none⟩ = some (.int .i64 a1_1) ∧ w'.cell? ⟨g, i * 5 + 1, none⟩ = some (.int .i64 x.f0.f1)) (first | go_keep | (simp [*]))
      ((go_at_call 71; refine (report_Newer.calls _ _ _ nq _ HQ.out).mono ?_; rintro e w5 ⟨rfl, ⟨nd, rfl⟩⟩))
    obtain ⟨w5, hW⟩ : ∃ x_, x_ = w4.drewN (1 + nd) := ⟨_, rfl⟩
    have hb : Below w4.heap.size w4 w5 := hW ▸ pw_below_drewN (Below.refl _ _) _
    rw [← hW]
    clear hW
    clear s1
    replace b0 := pw_cell_below hb b0
    replace b1 := pw_cell_below hb b1
    replace b2 := pw_cell_below hb b2
    replace b3 := pw_cell_below hb b3
    replace s4 := pw_cell_below hb s4
    replace HO := Aside0.mk (Kd.R_below HO.out hb)
    replace HB := Aside0.mk (below_step HB.out hb)
    clear hb
    go_wp2_with first
      | ((with_reducible refine gate_store (t := 85) (p := 57) rfl ?_); obtain ⟨ce, hcl, hM, hcc, hfr⟩ := Kd.R_elem HO.out z85 (i : Int) (Int.natCast_nonneg i) hi3; obtain rfl := k85_openM hM; have HP := Kd.R_seg HO.out (i : Int) (Int.natCast_nonneg i) hi3 (seg := [.int .i64 (i : Int), .int .i64 a1_1, .int .i64 a1_2, .int .i64 a1_3, .int .i64 a2]) (j := 0) hcl hcc (show 5 ≤ 5 from by decide) (x' := (⟨⟨(i : Int), a1_1, a1_2, a1_3⟩, a2⟩ : S85)) (k85_mkM _ _ _ _) (fun _ hk => hk); rw [Int.toNat_natCast] at HP; have hq0 := hcc 0 _ rfl; have hq1 := hcc 1 _ rfl; have hq2 := hcc 2 _ rfl; have hq3 := hcc 3 _ rfl; have hq4 := hcc 4 _ rfl; have hr0 := hfr 0; have hr1 := hfr 1; have hr2 := hfr 2; have hr3 := hfr 3; have hr4 := hfr 4; simp only [show (k85).sz = 5 from rfl, Int.toNat_natCast, Nat.add_zero] at hq0 hq1 hq2 hq3 hq4 hr0 hr1 hr2 hr3 hr4; refine store_event (t := 85) (p := 57) (v := ?vo) (w1 := w5.setCells g (i * 5) [.int .i64 (i : Int), .int .i64 a1_1, .int .i64 a1_2, .int .i64 a1_3, .int .i64 a2]) ?hg ?ho ?hn ?hr ?_; (case ho => rfl); (case hg => rfl); (case hn => rfl); (case hr => simp only [World.setCells]; first | (go_simp; done) | (go_simp; rfl)); intro w6 hw; replace HO := Aside0.mk (show Kd.R k85 85 w6 w.heap.size (fun _ => True) (.slice (some ⟨g, 0, none⟩) l0.length cap) (l0.set i ⟨⟨(i : Int), a1_1, a1_2, a1_3⟩, a2⟩) from hw ▸ HP.1); replace HB := Aside0.mk (show Below w.heap.size w w6 from HB.out.grown (hw ▸ HP.2) (below_size HB.out) (fun k hk => by injection hk with hk; subst hk; exact GW.out)); clear HP hq0 hq1 hq2 hq3 hq4 hr0 hr1 hr2 hr3 hr4 hcl hM hcc hfr hw)
    go_ret3
    exact ⟨_, rfl, HO.out, HB.out⟩


end Go.Proofs.Ytnocfhnandedoab.PVRow
