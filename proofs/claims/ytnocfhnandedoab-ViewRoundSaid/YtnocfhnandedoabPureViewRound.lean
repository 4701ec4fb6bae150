/- Serials that go round are newer all the same. -/
import Derived.Test.YtnocfhnandedoabPViewx13
import Derived.Test.YtnocfhnandedoabNumMath
set_option linter.unusedVariables false
set_option linter.unusedSimpArgs false
namespace Go.Proofs.Ytnocfhnandedoab.Pure
open Go.RowKit Go.Proofs.Ytnocfhnandedoab.PView Go.Proofs.YtnocfhnandedoabW.PrintWords Go.Proofs.YtnocfhnandedoabW.PrintLast Go.Proofs.YtnocfhnandedoabW.PrintMore Go.Proofs.Ytnocfhnandedoab.NumMath

abbrev Sn := S85
def blank : Sn := ⟨⟨0, 0, 0, 0⟩, -1⟩
def one (i : Nat) (s ld cp t : Int) : List Sn := [blank, blank, blank].set i ⟨⟨i, s, ld, cp⟩, t⟩
theorem awake_f : wharfagelaw12_awake.f 300 = some true := by kernel_rfl
theorem new_f : view_New.f = some [blank, blank, blank] := rfl
theorem num_f (x : Int) : wharfagelaw0_Num.f x = some x := rfl
theorem may_new : mayV [blank, blank, blank] = true := by kernel_rfl
theorem rd3 (a b c : Sn) (i : Nat) (hi : i < 3) : rd_T85 [a, b, c] (i : Int) = if i = 0 then a else if i = 1 then b else c := by
  obtain rfl | rfl | rfl : i = 0 ∨ i = 1 ∨ i = 2 := by omega
  all_goals rfl
theorem rep_ok {a b c d : Int} (h : (0 ≤ a ∧ a < 3) ∧ (0 ≤ b ∧ b < 65536) ∧ (0 ≤ c ∧ c < 256) ∧ (0 ≤ d ∧ d < 256)) : repOk a b c d = true := decide_eq_true h
theorem time_ok {t : Int} (h : 0 ≤ t ∧ t ≤ 1048576) : timeOk t = true := decide_eq_true h
theorem seen_blank (i : Int) : seenOk i blank = true := by
  unfold seenOk
  rw [show noneSeen blank = true from by kernel_rfl]; rfl
theorem seen_ok (i : Int) (v : Sn) (h1 : timeOk v.f1 = true) (h2 : repOk v.f0.f0 v.f0.f1 v.f0.f2 v.f0.f3 = true) (h3 : v.f0.f0 = i) : seenOk i v = true := by
  unfold seenOk
  rw [h1, h2, decide_eq_true h3]; simp
theorem may3 (a b c : Sn) (ha : seenOk 0 a = true) (hb : seenOk 1 b = true) (hc : seenOk 2 c = true) : mayV [a, b, c] = true := by
  unfold mayV seensOk seensOk seensOk seensOk
  rw [show (((0 : Nat) : Int)) = 0 from rfl, show (((0 + 1 : Nat) : Int)) = 1 from rfl, show (((0 + 1 + 1 : Nat) : Int)) = 2 from rfl, ha, hb, hc]; rfl
theorem may_one (i : Nat) (hi : i < 3) (s ld cp t : Int) (h1 : repOk i s ld cp = true) (h2 : timeOk t = true) : mayV (one i s ld cp t) = true := by
  obtain rfl | rfl | rfl : i = 0 ∨ i = 1 ∨ i = 2 := by omega
  · exact may3 _ _ _ (seen_ok _ _ h2 h1 rfl) (seen_blank _) (seen_blank _)
  · exact may3 _ _ _ (seen_blank _) (seen_ok _ _ h2 h1 rfl) (seen_blank _)
  · exact may3 _ _ _ (seen_blank _) (seen_blank _) (seen_ok _ _ h2 h1 rfl)
theorem rd_one (i : Nat) (hi : i < 3) (s ld cp t : Int) : rd_T85 (one i s ld cp t) (i : Int) = ⟨⟨i, s, ld, cp⟩, t⟩ := by
  obtain rfl | rfl | rfl : i = 0 ∨ i = 1 ∨ i = 2 := by omega
  all_goals rfl
theorem rd_one_other (i j : Nat) (hi : i < 3) (hj : j < 3) (hij : i ≠ j) (s ld cp t : Int) : rd_T85 (one i s ld cp t) (j : Int) = blank := by
  obtain rfl | rfl | rfl : i = 0 ∨ i = 1 ∨ i = 2 := by omega
  all_goals
    obtain rfl | rfl | rfl : j = 0 ∨ j = 1 ∨ j = 2 := by omega
    all_goals first | rfl | exact absurd rfl hij
theorem take_new (i : Nat) (hi : i < 3) (s ld cp t : Int) (h1 : repOk i s ld cp = true) (h2 : timeOk t = true) : view_Take.f [blank, blank, blank] i s ld cp t = some (one i s ld cp t, true, 0) := by
  unfold view_Take.f takeF
  rw [may_new, h1, h2, if_pos (show (true && (true && true)) = true from rfl), rd3 _ _ _ i hi]
  rw [if_neg (by rintro ⟨h, _⟩; apply h; split; rfl; split <;> rfl)]
  rfl
theorem site_f (i : Nat) (hi : i < 3) : report_Site.f (i : Int) = some true := by
  unfold report_Site.f
  rw [if_pos (by omega), decide_eq_true (by omega)]
theorem spare_f (l : List Sn) (hm : mayV l = true) (i : Nat) (hi : i < 3) (now : Int) (ht : timeOk now = true) (v : Sn) (hv : rd_T85 l (i : Int) = v) :
    view_Spare.f 300 l (i : Int) now = some (if v.f1 = -1 then (0, false, 0) else if wrap64 (now - v.f1) < 0 then (0, false, 0) else if wrap64 (now - v.f1) ≥ 10 then (0, false, 0) else (mx (wrap64 (v.f0.f3 - v.f0.f2)) 0, true, 0)) := by
  have hl : l.length = 3 := by unfold mayV at hm; simp only [Bool.and_eq_true, decide_eq_true_eq] at hm; exact hm.2
  unfold view_Spare.f
  rw [may_plain l (by omega) 300 (by omega), hm]
  simp only [Option.bind_some, if_true]
  rw [time_plain, ht]
  simp only [Option.bind_some, if_true]
  rw [site_f i hi]
  simp only [Option.bind_some, Bool.not_true]
  obtain ⟨k, hk⟩ : ∃ k, 300 = k + 1 := ⟨299, rfl⟩
  rw [hk]
  simp only [view_Spare.j0]
  rw [if_neg (by decide), if_pos (by omega), if_pos (by omega), hv]
  split
  · rfl
  · split
    · rfl
    · split <;> rfl
theorem same_l0 (l : List Sn) (hl : l.length ≤ 9223372036854775806) (d : Nat) : ∀ (k i : Nat), l.length - i ≤ d → d < k → i ≤ l.length → wharfagelaw0_SameSeens.l0 k l l (i : Int) = some true := by
  induction d with
  | zero =>
    intro k i hd hk hi
    obtain ⟨k, rfl⟩ : ∃ m, k = m + 1 := ⟨k - 1, by omega⟩
    simp only [wharfagelaw0_SameSeens.l0]
    rw [if_neg (by omega)]
  | succ d ih =>
    intro k i hd hk hi
    obtain ⟨k, rfl⟩ : ∃ m, k = m + 1 := ⟨k - 1, by omega⟩
    simp only [wharfagelaw0_SameSeens.l0]
    by_cases h : (i : Int) < (l.length : Int)
    · rw [if_pos h, if_pos (show (0 : Int) ≤ (i : Int) by omega), if_pos h, if_neg (by simp), show wrap64 ((i : Int) + 1) = ((i + 1 : Nat) : Int) by unfold wrap64; omega]
      exact ih k (i + 1) (by omega) (by omega) (by omega)
    · rw [if_neg h]
theorem same_f (l : List Sn) (k : Nat) (hl : l.length < k) (hl2 : l.length ≤ 9223372036854775806) : wharfagelaw0_SameSeens.f k l l = some true := by
  unfold wharfagelaw0_SameSeens.f
  rw [if_pos rfl]
  exact same_l0 l hl2 l.length k 0 (by omega) hl (by omega)

theorem take_one (s' ld t s l n : Int) (h : mayV (one 1 s' ld 0 t) = true) (hr : repOk 1 s l 0 = true) (ht : timeOk n = true) (hn : newerB s s' = true) : view_Take.f (one 1 s' ld 0 t) 1 s l 0 n = some (one 1 s l 0 n, true, 0) := by
  unfold view_Take.f takeF
  rw [h, hr, ht, if_pos (show (true && (true && true)) = true from rfl), if_neg]
  · rfl
  · rintro ⟨_, h2⟩
    rw [show (rd_T85 (one 1 s' ld 0 t) 1).f0.f1 = s' from rfl, hn] at h2
    cases h2
theorem round_l0 (l : List Int) (hl : l.length ≤ 9223372036854775807) (d : Nat) : ∀ (k i : Nat) (s : Int) (vs : List Sn), 30 - i ≤ d → d < k → i ≤ 30 → (0 ≤ s ∧ s < 65536) → (vs = [blank, blank, blank] ∨ ∃ s' ld t, vs = one 1 s' ld 0 t ∧ mayV (one 1 s' ld 0 t) = true ∧ newerB s s' = true) → wharfagelaw12_ViewRound.l0 k l vs s (i : Int) = some true := by
  induction d with
  | zero =>
    intro k i s vs hd hk hi hs hv
    obtain ⟨k, rfl⟩ : ∃ m, k = m + 1 := ⟨k - 1, by omega⟩
    simp only [wharfagelaw12_ViewRound.l0]
    rw [if_neg (show ¬ ((i : Int) < 30) by omega)]; split <;> rfl
  | succ d ih =>
    intro k i s vs hd hk hi hs hv
    obtain ⟨k, rfl⟩ : ∃ m, k = m + 1 := ⟨k - 1, by omega⟩
    simp only [wharfagelaw12_ViewRound.l0]
    by_cases h1 : (i : Int) < (l.length : Int)
    · by_cases h2 : (i : Int) < 30
      · have hr : repOk 1 s i 0 = true := rep_ok ⟨by omega, hs, by omega, by omega⟩
        have ht : timeOk (i : Int) = true := time_ok (by omega)
        have htk : view_Take.f vs 1 s i 0 i = some (one 1 s i 0 i, true, 0) := by
          rcases hv with rfl | ⟨s', ld, t, rfl, hm, hn⟩
          · exact take_new 1 (by omega) s i 0 i hr ht
          · exact take_one s' ld t s i i hm hr ht hn
        rw [if_pos h1, if_pos h2, htk]
        simp only [Option.bind_some, num_f, if_true]
        rw [show (one 1 s i 0 i).length = 3 from rfl, show rd_T85 (one 1 s i 0 i) 1 = ⟨⟨1, s, i, 0⟩, i⟩ from rfl]
        rw [if_pos (by decide), if_pos (by decide), if_pos rfl, if_pos rfl, if_pos (by omega), and16383]
        have hrd : 0 ≤ (rd l (i : Int)) % 16384 ∧ (rd l (i : Int)) % 16384 < 16384 := by omega
        obtain ⟨z, hz⟩ : ∃ z, (rd l (i : Int)) % 16384 = z := ⟨_, rfl⟩
        rw [hz] at hrd ⊢
        rw [wrap64_in (s + 1) (by omega) (by omega), wrap64_in (s + 1 + z) (by omega) (by omega), tmod_nn _ _ (by omega), wrap64_in ((i : Int) + 1) (by omega) (by omega), show (i : Int) + 1 = ((i + 1 : Nat) : Int) by omega]
        refine ih k (i + 1) _ _ (by omega) (by omega) (by omega) (by omega) (.inr ⟨s, i, i, rfl, may_one 1 (by omega) s i 0 i hr ht, ?_⟩)
        exact decide_eq_true ⟨by omega, by omega, by omega, by omega⟩
      · rw [if_pos h1, if_neg h2]
    · rw [if_neg h1]
theorem ViewRound : wharfagelaw12_ViewRound.Pure := by
  intro a0 l1 _ hl _ _
  refine ⟨300, ?_⟩
  unfold wharfagelaw12_ViewRound.f
  rw [awake_f, new_f, and65535]
  simp only [Option.bind_some, if_true]
  exact round_l0 l1 (by simpa [maxLen] using hl) 30 300 0 _ _ (by omega) (by omega) (by omega) (by omega) (.inl rfl)

end Go.Proofs.Ytnocfhnandedoab.Pure
