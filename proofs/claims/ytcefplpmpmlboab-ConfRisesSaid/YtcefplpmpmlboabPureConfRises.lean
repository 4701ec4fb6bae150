/- What is set never falls. -/
import Derived.Test.YtcefplpmpmlboabPConfx11
import Derived.Test.YtcefplpmpmlboabNumMath
set_option linter.unusedVariables false
set_option linter.unusedSimpArgs false
namespace Go.Proofs.Ytcefplpmpmlboab.Pure
open Go.RowKit Go.Proofs.Ytcefplpmpmlboab.PConf Go.Proofs.YtcefplpmpmlboabW.PrintWords Go.Proofs.YtcefplpmpmlboabW.PrintLast Go.Proofs.YtcefplpmpmlboabW.PrintMore Go.Proofs.Ytcefplpmpmlboab.NumMath

theorem may_f (v : Int) (l : List S29) : conf_May.f v l = some (mayB v l) := rfl
theorem mayB_len {v : Int} {l : List S29} (h : mayB v l = true) : l.length ≤ 3 := by
  unfold mayB at h; simp only [Bool.and_eq_true, decide_eq_true_eq] at h; exact h.2
theorem mayB_in {v : Int} {l : List S29} (h : mayB v l = true) {x : S29} (hx : x ∈ l) : x.f3.length ≤ 4 := by
  unfold mayB at h; simp only [Bool.and_eq_true, decide_eq_true_eq] at h
  have := List.all_eq_true.1 h.1.1 x hx
  unfold siteOk at this; simp only [Bool.and_eq_true, decide_eq_true_eq] at this; exact this.2
theorem rd29 (l : List S29) (i : Nat) (h : i < l.length) : rd_T29 l (i : Int) = l[i] := by simp [rd_T29, h]
theorem rd38 (l : List S38) (i : Nat) (h : i < l.length) : rd_T38 l (i : Int) = l[i] := by simp [rd_T38, h]
theorem copy_loop (v : Int) (l : List S29) (hl : l.length < 2932031007402) (hb : ∀ x ∈ l, x.f3.length < 8796093022208) (d : Nat) : ∀ (k i : Nat), l.length - i ≤ d → d < k → i ≤ l.length → conf_Copy.l0 k (l.take i) l (l.length : Int) (i : Int) v l = some (v, l) := by
  induction d with
  | zero =>
    intro k i hd hk hi
    obtain ⟨k, rfl⟩ : ∃ m, k = m + 1 := ⟨k - 1, by omega⟩
    simp only [conf_Copy.l0]
    rw [if_neg (by omega), List.take_of_length_le (by omega)]
  | succ d ih =>
    intro k i hd hk hi
    obtain ⟨k, rfl⟩ : ∃ m, k = m + 1 := ⟨k - 1, by omega⟩
    simp only [conf_Copy.l0]
    by_cases h : (i : Int) < (l.length : Int)
    · have hlt : i < l.length := by omega
      have hx := hb l[i] (List.getElem_mem hlt)
      rw [if_pos h, if_pos (show (0 : Int) ≤ (i : Int) by omega), if_pos h, rd29 l i hlt, if_pos (by simpa using hx), if_pos (by rw [List.length_take]; omega), wrap64_in _ (by omega) (by omega)]
      have := ih k (i + 1) (by omega) (by omega) (by omega)
      rw [List.take_succ_eq_append_getElem hlt] at this
      exact this
    · rw [if_neg h, List.take_of_length_le (by omega)]
theorem copy_f (v : Int) (l : List S29) (h : mayB v l = true) (k : Nat) (hk : 3 < k) : conf_Copy.f k v l = some (v, l) := by
  have hl := mayB_len h
  have := copy_loop v l (by omega) (fun x hx => by have := mayB_in h hx; omega) 3 k 0 (by omega) hk (by omega)
  simpa [conf_Copy.f] using this
theorem next_bad (v0 v1 : Int) (l0 l1 : List S29) (h : ¬ (mayB v0 l0 = true ∧ mayB v1 l1 = true)) (k : Nat) (hk : 0 < k) : conf_Next.f k v0 l0 v1 l1 = some (0, [], false, 1000) := by
  obtain ⟨k, rfl⟩ : ∃ m, k = m + 1 := ⟨k - 1, by omega⟩
  unfold conf_Next.f
  rw [may_f, may_f]
  cases h0 : mayB v0 l0 with
  | false => simp [conf_Next.j0]
  | true =>
    cases h1 : mayB v1 l1 with
    | false => simp [conf_Next.j0]
    | true => exact absurd ⟨h0, h1⟩ h
theorem next_new (v0 v1 : Int) (l0 l1 : List S29) (h0 : mayB v0 l0 = true) (h1 : mayB v1 l1 = true) (hv : v0 < v1) (k : Nat) (hk : 4 < k) : conf_Next.f k v0 l0 v1 l1 = some (v1, l1, true, 0) := by
  obtain ⟨k, rfl⟩ : ∃ m, k = m + 1 := ⟨k - 1, by omega⟩
  unfold conf_Next.f
  rw [may_f, may_f, h0, h1]
  simp only [Option.bind_some, if_true, conf_Next.j0, Bool.not_true, Bool.false_eq_true, if_false]
  rw [if_pos hv, copy_f v1 l1 h1 k (by omega)]; rfl
theorem next_old (v0 v1 : Int) (l0 l1 : List S29) (h0 : mayB v0 l0 = true) (h1 : mayB v1 l1 = true) (hv : ¬ v0 < v1) (k : Nat) (hk : 4 < k) : conf_Next.f k v0 l0 v1 l1 = some (v0, l0, false, 0) := by
  obtain ⟨k, rfl⟩ : ∃ m, k = m + 1 := ⟨k - 1, by omega⟩
  unfold conf_Next.f
  rw [may_f, may_f, h0, h1]
  simp only [Option.bind_some, if_true, conf_Next.j0, Bool.not_true, Bool.false_eq_true, if_false]
  rw [if_neg (show ¬ v1 > v0 from hv), copy_f v0 l0 h0 k (by omega)]; rfl
theorem num_f (a : Int) : wharfagelaw0_Num.f a = some a := rfl
theorem backs_loop (l : List S38) (hl : l.length ≤ 9223372036854775807) (d : Nat) : ∀ (k i : Nat), l.length - i ≤ d → d < k → wharfagelaw0_SameBacks.l0 k l l (i : Int) = some true := by
  induction d with
  | zero =>
    intro k i hd hk
    obtain ⟨k, rfl⟩ : ∃ m, k = m + 1 := ⟨k - 1, by omega⟩
    simp only [wharfagelaw0_SameBacks.l0]
    rw [if_neg (by omega)]
  | succ d ih =>
    intro k i hd hk
    obtain ⟨k, rfl⟩ : ∃ m, k = m + 1 := ⟨k - 1, by omega⟩
    simp only [wharfagelaw0_SameBacks.l0]
    by_cases h : (i : Int) < (l.length : Int)
    · rw [if_pos h, if_pos (show (0 : Int) ≤ (i : Int) by omega), if_pos h, wrap64_in _ (by omega) (by omega)]
      simp only [beq_self_eq_true, Bool.not_true, Bool.or_self, Bool.false_eq_true, if_false]
      exact ih k (i + 1) (by omega) (by omega)
    · rw [if_neg h]
theorem backs_f (l : List S38) (hl : l.length ≤ 4) (k : Nat) (hk : 5 < k) : wharfagelaw0_SameBacks.f k l l = some true := by
  unfold wharfagelaw0_SameBacks.f
  rw [if_pos rfl]
  exact backs_loop l (by omega) 4 k 0 (by omega) (by omega)
theorem same_loop (v : Int) (l : List S29) (hl : l.length ≤ 3) (hb : ∀ x ∈ l, x.f3.length ≤ 4) (d : Nat) : ∀ (k i : Nat), l.length - i ≤ d → d + 6 < k → wharfagelaw0_SameConfig.l0 k (i : Int) v l v l = some true := by
  induction d with
  | zero =>
    intro k i hd hk
    obtain ⟨k, rfl⟩ : ∃ m, k = m + 1 := ⟨k - 1, by omega⟩
    simp only [wharfagelaw0_SameConfig.l0]
    rw [if_neg (by omega)]
  | succ d ih =>
    intro k i hd hk
    obtain ⟨k, rfl⟩ : ∃ m, k = m + 1 := ⟨k - 1, by omega⟩
    simp only [wharfagelaw0_SameConfig.l0]
    by_cases h : (i : Int) < (l.length : Int)
    · have hlt : i < l.length := by omega
      rw [if_pos h, if_pos (show (0 : Int) ≤ (i : Int) by omega), if_pos h, wrap64_in _ (by omega) (by omega), rd29 l i hlt]
      simp only [bne_self_eq_false, Bool.false_eq_true, if_false, if_true, Option.bind_some]
      rw [backs_f _ (hb l[i] (List.getElem_mem hlt)) k (by omega)]
      simp only [if_true, Option.bind_some]
      exact ih k (i + 1) (by omega) (by omega)
    · rw [if_neg h]
theorem same_f (v : Int) (l : List S29) (h : mayB v l = true) (k : Nat) (hk : 9 < k) : wharfagelaw0_SameConfig.f k v l v l = some true := by
  unfold wharfagelaw0_SameConfig.f
  rw [if_pos rfl, if_pos rfl]
  exact same_loop v l (mayB_len h) (fun x hx => mayB_in h hx) 3 k 0 (by have := mayB_len h; omega) (by omega)
theorem awake_f : wharfagelaw10_awake.f = some true := rfl

theorem one_may (v j : Int) (hv : 0 ≤ v ∧ v ≤ 63) (hj : 0 ≤ j ∧ j < 20) : mayB v [⟨Int.tmod j 16, false, 0, []⟩] = true := by
  rw [tmod_nn _ _ hj.1]
  simp [mayB, siteOk]
  omega
def Rel (at_ : List Int) (best v : Int) (l : List S29) : Prop := v = best ∧ 0 ≤ best ∧ best ≤ 63 ∧ ((at_ = [] ∧ best = 0 ∧ l = []) ∨ ∃ j : Int, 0 ≤ j ∧ j < 20 ∧ at_ = [j] ∧ l = [⟨Int.tmod j 16, false, 0, []⟩])
theorem Rel.may {at_ : List Int} {best v : Int} {l : List S29} (h : Rel at_ best v l) : mayB v l = true := by
  obtain ⟨rfl, h0, h1, h2⟩ := h
  rcases h2 with ⟨_, rfl, rfl⟩ | ⟨j, j0, j1, _, rfl⟩
  · decide
  · exact one_may _ _ ⟨h0, h1⟩ ⟨j0, j1⟩
theorem rises_loop (xs : List Int) (d : Nat) : ∀ (k i : Nat) (at_ : List Int) (best v : Int) (l : List S29), 21 - i ≤ d → 3 * d + 10 ≤ k → i ≤ 20 → Rel at_ best v l → wharfagelaw10_ConfRises.l0 k xs best at_ (i : Int) v l = some true := by
  induction d with
  | zero =>
    intro k i at_ best v l hd hk hi hR
    exfalso; omega
  | succ d ih =>
    intro k i at_ best v l hd hk hi hR
    obtain ⟨k, rfl⟩ : ∃ m, k = m + 3 := ⟨k - 3, by omega⟩
    simp only [wharfagelaw10_ConfRises.l0]
    by_cases hlt : (i : Int) < (xs.length : Int)
    · rw [if_pos hlt]
      by_cases h20 : (i : Int) < 20
      · rw [decide_eq_true h20]
        simp only [wharfagelaw10_ConfRises.j1, if_true]
        rw [if_pos (show (0 : Int) ≤ (i : Int) by omega), if_pos hlt, and63]
        have hu : 0 ≤ rd xs (i : Int) % 64 ∧ rd xs (i : Int) % 64 ≤ 63 := by omega
        generalize rd xs (i : Int) % 64 = u at *
        have hm := hR.may
        have hm2 := one_may u (i : Int) hu ⟨by omega, h20⟩
        obtain ⟨rfl, b0, b1, hcase⟩ := hR
        by_cases hv : v < u
        · rw [next_new v u l _ hm hm2 hv (k + 1) (by omega)]
          simp only [Option.bind_some, num_f, if_true]
          rw [show (true != decide (u > v)) = false by simp [hv]]
          simp only [wharfagelaw10_ConfRises.j2, Bool.false_eq_true, if_false, if_true, Option.bind_some]
          have e1 : (rd_T29 [(⟨Int.tmod (i : Int) 16, false, 0, []⟩ : S29)] 0).f0 = Int.tmod (rd [(i : Int)] 0) 16 := rfl
          rw [if_pos (by simp), if_pos (by simp), if_pos (by simp), if_pos (by simp), if_pos e1, wrap64_in _ (by omega) (by omega)]
          exact ih k (i + 1) [(i : Int)] u u _ (by omega) (by omega) (by omega) ⟨rfl, hu.1, hu.2, .inr ⟨(i : Int), by omega, h20, rfl, rfl⟩⟩
        · rw [next_old v u l _ hm hm2 hv (k + 1) (by omega)]
          simp only [Option.bind_some, num_f, if_true]
          rw [show (false != decide (u > v)) = false by simp; omega]
          simp only [wharfagelaw10_ConfRises.j2, Bool.false_eq_true, if_false, if_true]
          rw [wrap64_in _ (by omega) (by omega)]
          have next := ih k (i + 1) at_ v v l (by omega) (by omega) (by omega) ⟨rfl, b0, b1, hcase⟩
          rcases hcase with ⟨rfl, _, rfl⟩ | ⟨j, j0, j1, rfl, rfl⟩
          · rw [if_neg (by decide)]
            exact next
          · have e1 : (rd_T29 [(⟨Int.tmod j 16, false, 0, []⟩ : S29)] 0).f0 = Int.tmod (rd [j] 0) 16 := rfl
            rw [if_pos (by simp), if_pos (by simp), if_pos (by simp), if_pos (by simp), if_pos e1]
            exact next
      · rw [decide_eq_false h20]; simp [wharfagelaw10_ConfRises.j1]
    · rw [if_neg hlt]; simp [wharfagelaw10_ConfRises.j1]
theorem ConfRises : wharfagelaw10_ConfRises.Pure := by
  intro xs _ _ _
  obtain ⟨k, hk⟩ : ∃ k : Nat, 120 ≤ k := ⟨120, Nat.le_refl _⟩
  refine ⟨k, ?_⟩
  unfold wharfagelaw10_ConfRises.f
  rw [awake_f]
  exact rises_loop xs 21 k 0 [] 0 0 [] (by omega) (by omega) (by omega) ⟨rfl, by omega, by omega, .inl ⟨rfl, rfl, rfl⟩⟩

end Go.Proofs.Ytcefplpmpmlboab.Pure
