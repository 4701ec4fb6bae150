/- What the pen wrote the taker takes: numbers, letters, texts, configurations, acts come back. -/
import Derived.Test.YtnojgkiaolmoeaaDoorTakeA
import Derived.Test.YtnojgkiaolmoeaaDoorPenA
import Derived.Lib.AtoiTie
namespace Go.Proofs.YtnojgkiaolmoeaaDoor.Take
open Go.RowKit Go.Proofs.YtnojgkiaolmoeaaDoor.PSc Go.Proofs.YtnojgkiaolmoeaaDoor.Pen
set_option linter.unusedVariables false
set_option linter.unusedSimpArgs false
theorem digit_of (d : Nat) (h : d < 10) : Lib.digitVal (UInt8.ofNat (48 + d)) = some d := by
  unfold Lib.digitVal
  have e : (UInt8.ofNat (48 + d)).toNat = 48 + d := by simp [UInt8.toNat_ofNat]; omega
  rw [e, if_pos (by omega)]
  congr 1
  omega
theorem decFrom_snoc (l : List UInt8) (b : UInt8) : ∀ acc, Lib.decFrom acc (l ++ [b]) = (Lib.decFrom acc l).bind fun m => (Lib.digitVal b).map fun d => m * 10 + d := by
  induction l with
  | nil =>
    intro acc
    simp only [List.nil_append, Lib.decFrom, Option.bind_some]
    cases Lib.digitVal b <;> rfl
  | cons x l ih =>
    intro acc
    simp only [List.cons_append, Lib.decFrom]
    cases Lib.digitVal x with
    | none => rfl
    | some d => exact ih _
theorem decFrom_dec (u : Nat) : Lib.decFrom 0 (Lib.decDigits u) = some u := by
  induction u using Nat.strongRecOn with
  | _ u ih =>
    by_cases h : u < 10
    · rw [Lib.decDigits_one h]
      simp only [Lib.decFrom, digit_of u h]
      simp
    · rw [Lib.decDigits, dif_neg h, decFrom_snoc, ih (u / 10) (by omega), digit_of (u % 10) (by omega)]
      simp only [Option.bind_some, Option.map_some]
      congr 1
      omega
theorem dec_all (u : Nat) : ∀ b ∈ Lib.decDigits u, 48 ≤ b.toNat ∧ b.toNat ≤ 57 := by
  induction u using Nat.strongRecOn with
  | _ u ih =>
    intro b hb
    have hd : ∀ d, d < 10 → (UInt8.ofNat (48 + d)).toNat = 48 + d := fun d hd => by simp [UInt8.toNat_ofNat]; omega
    by_cases h : u < 10
    · rw [Lib.decDigits_one h, List.mem_singleton] at hb
      subst hb
      rw [hd u h]
      omega
    · rw [Lib.decDigits, dif_neg h, List.mem_append, List.mem_singleton] at hb
      rcases hb with hb | rfl
      · exact ih (u / 10) (by omega) b hb
      · rw [hd _ (by omega)]
        omega
theorem dec_ne (u : Nat) : Lib.decDigits u ≠ [] := by
  intro h
  have h1 := congrArg List.length h
  rw [Lib.decDigits_length] at h1
  have := Lib.nDigits_pos u
  simp at h1
  omega
theorem atoi_dec (u : Nat) : Lib.atoi (Lib.decDigits u) = some (u : Int) := by
  have h1 := decFrom_dec u
  have h2 := dec_all u
  cases hd : Lib.decDigits u with
  | nil => exact absurd hd (dec_ne u)
  | cons b r =>
    rw [hd] at h1 h2
    have hb := h2 b List.mem_cons_self
    have n45 : (b == 45) = false := beq_eq_false_iff_ne.2 (fun e => by rw [e] at hb; exact absurd hb.1 (by decide))
    have n43 : (b == 43) = false := beq_eq_false_iff_ne.2 (fun e => by rw [e] at hb; exact absurd hb.1 (by decide))
    simp only [Lib.atoi, n45, n43, Bool.false_eq_true, if_false, Lib.decNat, List.isEmpty_cons, h1, Option.map_some]
/-- A number of ours: not less than nothing, of few digits. -/
def Sm (n : Int) : Prop := 0 ≤ n ∧ n ≤ 1000000000
theorem itoa_sm {n : Int} (h : Sm n) : Lib.itoa n = Lib.decDigits n.toNat := by
  unfold Lib.itoa
  rw [if_neg (by have := h.1; omega)]
theorem itoa_len {n : Int} (h : Sm n) : (Lib.itoa n).length ≤ 10 := by
  rw [itoa_sm h, Lib.decDigits_length]
  have h1 : ∀ (k u : Nat), u < 10 ^ k → 1 ≤ k → Lib.nDigits u ≤ k := by
    intro k
    induction k with
    | zero => intro u _ h; omega
    | succ k ih =>
      intro u hu _
      by_cases h10 : u < 10
      · rw [Lib.nDigits_small h10]; omega
      · rw [Lib.nDigits_big h10]
        have hk : 1 ≤ k := by
          rcases Nat.eq_zero_or_pos k with rfl | hk
          · simp at hu; omega
          · exact hk
        have := ih (u / 10) (by rw [Nat.pow_succ] at hu; omega) hk
        omega
  exact h1 10 n.toNat (by have := h.1; have := h.2; omega) (by omega)
theorem val_itoa {n : Int} (h : Sm n) : valL (Lib.itoa n) = (n, true) := by
  have hl := itoa_len h
  unfold valL
  rw [Lib.atoiAll_short _ (by omega), itoa_sm h, atoi_dec]
  have h0 := h.1
  simp only [Lib.NumEnd.ofOption]
  rw [Int.toNat_of_nonneg h0]
theorem itoa_no {n : Int} (h : Sm n) (c : UInt8) (hc : c.toNat < 48 ∨ 57 < c.toNat) : c ∉ Lib.itoa n := by
  intro hm
  rw [itoa_sm h] at hm
  have := dec_all _ c hm
  omega
theorem indexByte_at (a : List UInt8) (c : UInt8) (r : List UInt8) (h : c ∉ a) : Lib.indexByte (a ++ c :: r) c = a.length := by
  induction a with
  | nil => simp [Lib.indexByte]
  | cons x a ih =>
    have h1 : (x == c) = false := beq_eq_false_iff_ne.2 (fun e => h (by rw [e]; exact List.mem_cons_self))
    have h2 := ih (fun hm => h (List.mem_cons_of_mem _ hm))
    simp only [List.cons_append, Lib.indexByte, h1, h2, Bool.false_eq_true, if_false]
    rw [if_neg (by simp)]
    simp
theorem cut_at (a : List UInt8) (c : UInt8) (r : List UInt8) (h : c ∉ a) : Lib.cut (a ++ c :: r) [c] = (a, r, true) := by
  have h1 : Lib.index (a ++ c :: r) [c] = a.length := (Lib.index_one _ _).trans (indexByte_at a c r h)
  unfold Lib.cut
  rw [h1, if_pos (by omega)]
  simp
theorem num_at (c : UInt8) (hc : c.toNat < 48 ∨ 57 < c.toNat) {n : Int} (h : Sm n) (r : List UInt8) : numM c (Lib.itoa n ++ c :: r, false) = (n, (r, false)) := by
  unfold numM numR
  simp only [cut_at _ c r (itoa_no h c hc), val_itoa h]
  simp [h.1]
theorem numT_at {n : Int} (h : Sm n) (r : List UInt8) : numM 32 (numT n ++ r, false) = (n, (r, false)) := by
  have e : numT n ++ r = Lib.itoa n ++ (32 : UInt8) :: r := by unfold numT; simp
  rw [e]
  exact num_at 32 (by decide) h r
theorem let_at (y z : UInt8) (hyz : z ≠ y) (b bad : Bool) (r : List UInt8) : letR y ([if b = true then y else z] ++ r, bad) = (b, (r, bad)) := by
  unfold letR
  cases b
  · simp [hyz]
  · simp
theorem text_at (t : ByteArray) (ht : t.size ≤ 512) (r : List UInt8) : textM (Lib.itoa (t.size : Int) ++ [58] ++ t.data.toList ++ r, false) = (t.data.toList, (r, false)) := by
  have hs : Sm (t.size : Int) := ⟨by omega, by omega⟩
  have hl : t.data.toList.length = t.size := by rw [Array.length_toList]; rfl
  have e : Lib.itoa (t.size : Int) ++ [58] ++ t.data.toList ++ r = Lib.itoa (t.size : Int) ++ (58 : UInt8) :: (t.data.toList ++ r) := by simp
  unfold textM
  rw [e, num_at 58 (by decide) hs]
  simp only []
  rw [if_neg (by simp; omega)]
  simp only [Int.toNat_natCast]
  rw [List.take_append_of_le_length (by omega), List.drop_append_of_le_length (by omega), List.take_of_length_le (by omega), List.drop_of_length_le (by omega)]
  rfl
theorem back_at {y : S65} (h : Sm y.f0) (r : List UInt8) : backM (backT y ++ r, false) = (y, (r, false)) := by
  have e : backT y ++ r = numT y.f0 ++ ([if y.f1 = true then (100 : UInt8) else 117] ++ r) := by unfold backT numsT; simp
  unfold backM
  rw [e, numT_at h]
  simp only []
  rw [let_at 100 117 (by decide)]
theorem backs_at (ys : List S65) (hs : ∀ y ∈ ys, Sm y.f0) (r : List UInt8) : ∀ (f : Nat) (acc : List S65), acc.length + ys.length ≤ 4 → ys.length < f → backsM f (ys.length : Int) acc (ys.flatMap backT ++ r, false) = (acc ++ ys, (r, false)) := by
  induction ys with
  | nil =>
    intro f acc ha hf
    obtain ⟨f, rfl⟩ : ∃ m, f = m + 1 := ⟨f - 1, by omega⟩
    rw [backsM, if_neg (by simp)]
    simp
  | cons y ys ih =>
    intro f acc ha hf
    obtain ⟨f, rfl⟩ : ∃ m, f = m + 1 := ⟨f - 1, by omega⟩
    simp only [List.length_cons] at ha hf
    have e : (y :: ys).flatMap backT ++ r = backT y ++ (ys.flatMap backT ++ r) := by simp
    rw [backsM, if_pos ⟨by simp only [List.length_cons]; omega, rfl, by omega⟩, e, back_at (hs y List.mem_cons_self)]
    simp only []
    rw [show wrap64 (((y :: ys).length : Int) - 1) = (ys.length : Int) by simp only [List.length_cons]; unfold wrap64; omega, ih (fun z hz => hs z (List.mem_cons_of_mem _ hz)) f (acc ++ [y]) (by rw [List.length_append, List.length_singleton]; omega) (by omega)]
    simp
structure SiteS (x : S63) : Prop where
  w : Sm x.f0
  c : Sm x.f2
  n : x.f3.length ≤ 4
  b : ∀ y ∈ x.f3, Sm y.f0
theorem sm_len {n : Nat} (h : n ≤ 1000) : Sm (n : Int) := ⟨by omega, by omega⟩
theorem site_at {x : S63} (h : SiteS x) (r : List UInt8) : siteM (siteT x ++ r, false) = (x, (r, false)) := by
  have e : siteT x ++ r = numT x.f0 ++ ([if x.f1 = true then (100 : UInt8) else 117] ++ (numT x.f2 ++ (numT (x.f3.length : Int) ++ (x.f3.flatMap backT ++ r)))) := by unfold siteT numsT; simp
  have hn := h.n
  unfold siteM
  rw [e]
  simp only [numT_at h.w, let_at 100 117 (by decide), numT_at h.c, numT_at (sm_len (show x.f3.length ≤ 1000 by omega)), backs_at x.f3 h.b r 6 [] (by simpa using hn) (by omega), List.nil_append]
theorem sites_at (l : List S63) (hs : ∀ x ∈ l, SiteS x) (r : List UInt8) : ∀ (f : Nat) (acc : List S63), acc.length + l.length ≤ 3 → l.length < f → sitesM f (l.length : Int) acc (l.flatMap siteT ++ r, false) = (acc ++ l, (r, false)) := by
  induction l with
  | nil =>
    intro f acc ha hf
    obtain ⟨f, rfl⟩ : ∃ m, f = m + 1 := ⟨f - 1, by omega⟩
    rw [sitesM, if_neg (by simp)]
    simp
  | cons x l ih =>
    intro f acc ha hf
    obtain ⟨f, rfl⟩ : ∃ m, f = m + 1 := ⟨f - 1, by omega⟩
    simp only [List.length_cons] at ha hf
    have e : (x :: l).flatMap siteT ++ r = siteT x ++ (l.flatMap siteT ++ r) := by simp
    rw [sitesM, if_pos ⟨by simp only [List.length_cons]; omega, rfl, by omega⟩, e, site_at (hs x List.mem_cons_self)]
    simp only []
    rw [show wrap64 (((x :: l).length : Int) - 1) = (l.length : Int) by simp only [List.length_cons]; unfold wrap64; omega, ih (fun z hz => hs z (List.mem_cons_of_mem _ hz)) f (acc ++ [x]) (by rw [List.length_append, List.length_singleton]; omega) (by omega)]
    simp
theorem config_at (c : S38) (hv : Sm c.f0) (hn : c.f1.length ≤ 3) (hs : ∀ x ∈ c.f1, SiteS x) (r : List UInt8) : configM (cfgT c.f0 c.f1 ++ r, false) = (c, (r, false)) := by
  have e : cfgT c.f0 c.f1 ++ r = numT c.f0 ++ (numT (c.f1.length : Int) ++ (c.f1.flatMap siteT ++ r)) := by unfold cfgT numsT; simp
  unfold configM
  rw [e]
  simp only [numT_at hv, numT_at (sm_len (show c.f1.length ≤ 1000 by omega)), sites_at c.f1 hs r 5 [] (by simpa using hn) (by omega), List.nil_append]
/-- An act as it is shown: small numbers; a configuration where its kind has one, and none elsewhere. -/
structure ActS (x : S40) : Prop where
  n0 : Sm x.f0
  n1 : Sm x.f1
  n2 : Sm x.f2
  n3 : Sm x.f3
  n4 : Sm x.f4
  n5 : Sm x.f5
  t : x.f7.size ≤ 512
  v : Sm x.f8.f0
  n : x.f8.f1.length ≤ 3
  s : ∀ y ∈ x.f8.f1, SiteS y
  no : x.f0 ≠ 9 → x.f8 = ⟨0, []⟩
theorem act_at {x : S40} (h : ActS x) (r : List UInt8) : actM (actT x ++ r, false) = (x, (r, false)) := by
  have e : actT x ++ r = numT x.f0 ++ (numT x.f1 ++ (numT x.f2 ++ (numT x.f3 ++ (numT x.f4 ++ (numT x.f5 ++ ([if x.f6 = true then (103 : UInt8) else 98] ++ (Lib.itoa (x.f7.size : Int) ++ [58] ++ x.f7.data.toList ++ ((if x.f0 = 9 then cfgT x.f8.f0 x.f8.f1 else []) ++ r)))))))) := by unfold actT numsT; simp
  have hb : (⟨x.f7.data.toList.toArray⟩ : ByteArray) = x.f7 := by simp
  unfold actM
  rw [e]
  simp only [numT_at h.n0, numT_at h.n1, numT_at h.n2, numT_at h.n3, numT_at h.n4, numT_at h.n5, let_at 103 98 (by decide), text_at x.f7 h.t]
  by_cases h9 : x.f0 = 9
  · rw [if_pos ⟨h9, trivial⟩, if_pos h9, config_at x.f8 h.v h.n h.s r, hb]
  · rw [if_neg (fun q => h9 q.1), if_neg h9, hb, ← h.no h9]
    simp
theorem act_ne (x : S40) (r : List UInt8) : actT x ++ r ≠ [] := by
  unfold actT numsT numT
  simp
end Go.Proofs.YtnojgkiaolmoeaaDoor.Take
