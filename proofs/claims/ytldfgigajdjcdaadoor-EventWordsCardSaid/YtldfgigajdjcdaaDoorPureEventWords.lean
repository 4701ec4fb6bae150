/- What is shown has five numbers, or ten, with a blank between. -/
import Derived.Test.YtldfgigajdjcdaaDoorPEventsx10
import Derived.Test.YtldfgigajdjcdaaDoorOpenEventWords
import Derived.Test.YtldfgigajdjcdaaDoorNumMath
import Derived.Lib.ItoaLen
import Derived.Lib.Strings
import Derived.Lib.LazyBuf
import Derived.Lib.Join
set_option linter.unusedVariables false
set_option linter.unusedSimpArgs false
namespace Go.Proofs.YtldfgigajdjcdaaDoor.Pure
open Go.RowKit Go.Proofs.YtldfgigajdjcdaaDoor.PEvents Go.Proofs.YtldfgigajdjcdaaDoorW.PrintWords Go.Proofs.YtldfgigajdjcdaaDoorW.PrintLast Go.Proofs.YtldfgigajdjcdaaDoorW.PrintMore Go.Proofs.YtldfgigajdjcdaaDoor.NumMath

theorem dig (u : Nat) (h : u < 10) : Lib.itoa (u : Int) = [UInt8.ofNat (48 + u)] := by rw [Lib.itoa_nonneg, Lib.decDigits_one h]
theorem show1 : EvLaw.show_ (EvLaw.nums 0 1 2 0 3 1 2 6 4 5) = (⟨#[48, 32, 49, 32, 50, 32, 48, 32, 51, 32, 49, 32, 50, 32, 54, 32, 52, 32, 53]⟩ : ByteArray) := by
  have h0 := dig 0 (by decide); have h1 := dig 1 (by decide); have h2 := dig 2 (by decide); have h3 := dig 3 (by decide); have h4 := dig 4 (by decide); have h5 := dig 5 (by decide); have h6 := dig 6 (by decide)
  show EvLaw.show_ [0, 1, 2, 0, 3, 1, 2, 6, 4, 5] = _
  unfold EvLaw.show_
  simp only [List.map_cons, List.map_nil, EvLaw.strI]
  rw [show Lib.itoa 0 = _ from h0, show Lib.itoa 1 = _ from h1, show Lib.itoa 2 = _ from h2, show Lib.itoa 3 = _ from h3, show Lib.itoa 4 = _ from h4, show Lib.itoa 5 = _ from h5, show Lib.itoa 6 = _ from h6]
  rfl
theorem show2 : EvLaw.show_ (EvLaw.nums 8 0 0 0 0 0 0 0 0 0) = (⟨#[56, 32, 48, 32, 48, 32, 48, 32, 48]⟩ : ByteArray) := by
  have h0 := dig 0 (by decide); have h8 := dig 8 (by decide)
  show EvLaw.show_ [8, 0, 0, 0, 0] = _
  unfold EvLaw.show_
  simp only [List.map_cons, List.map_nil, EvLaw.strI]
  rw [show Lib.itoa 0 = _ from h0, show Lib.itoa 8 = _ from h8]
  rfl
theorem sh_yes (e0 e1 e2 e3 e4 e5 e6 e7 e8 e9 : Int) (h : EvLaw.EvP e0 e1 e2 e3 e4 e5 e6 e7 e8 e9) : event_Show.f e0 e1 e2 e3 e4 e5 e6 e7 e8 e9 = some (EvLaw.show_ (EvLaw.nums e0 e1 e2 e3 e4 e5 e6 e7 e8 e9), 0) := if_pos h
theorem sh_no (e0 e1 e2 e3 e4 e5 e6 e7 e8 e9 : Int) (h : ¬ EvLaw.EvP e0 e1 e2 e3 e4 e5 e6 e7 e8 e9) : event_Show.f e0 e1 e2 e3 e4 e5 e6 e7 e8 e9 = some (⟨#[]⟩, 1800) := if_neg h
theorem aw_f (k : Nat) (hk : 2 ≤ k) : wharfagelaw18_awake.f k = some true := by
  unfold wharfagelaw18_awake.f
  rw [sh_yes _ _ _ _ _ _ _ _ _ _ (by decide), sh_yes _ _ _ _ _ _ _ _ _ _ (by decide), sh_no _ _ _ _ _ _ _ _ _ _ (by decide), show1, show2]
  simp only [Option.bind_some, ByteArray.toList_eq]
  rw [if_pos trivial]
  simp only [wharfagelaw0_Num.f, Option.bind_some]
  rw [if_pos trivial, if_pos trivial, if_pos trivial, if_pos trivial, EvLaw.ev_f _ _ _ _ _ _ _ _ _ _ k hk]
  rfl

def parse : Nat → List UInt8 → List Nat
  | c, [] => [c]
  | c, b :: r => if b = 32 then c :: parse 0 r else parse (c * 10 + (b.toNat - 48)) r
theorem parse_dec (u : Nat) : ∀ r, parse 0 (Lib.decDigits u ++ r) = parse u r := by
  induction u using Nat.strongRecOn with
  | ind u ih =>
    intro r
    have hb : ∀ d, d < 10 → (UInt8.ofNat (48 + d)).toNat = 48 + d := fun d hd => by rw [UInt8.toNat_ofNat']; omega
    have hne : ∀ d, d < 10 → UInt8.ofNat (48 + d) ≠ 32 := fun d hd e => by
      have := congrArg UInt8.toNat e
      rw [hb d hd] at this
      have h32 : (32 : UInt8).toNat = 32 := rfl
      omega
    by_cases h : u < 10
    · rw [Lib.decDigits_one h]
      simp only [List.singleton_append, parse]
      rw [if_neg (hne u h), hb u h]
      congr 1
      omega
    · have he : Lib.decDigits u = Lib.decDigits (u / 10) ++ [UInt8.ofNat (48 + u % 10)] := by rw [Lib.decDigits, dif_neg h]
      rw [he, List.append_assoc, ih (u / 10) (by omega)]
      simp only [List.singleton_append, parse]
      rw [if_neg (hne _ (by omega)), hb _ (by omega)]
      congr 1
      omega
theorem parse_tail (r : List Nat) : ∀ x : Nat, parse x (Lib.joinTail [32] (r.map Lib.decDigits)) = x :: r := by
  induction r with
  | nil => intro x; rfl
  | cons y r ih =>
    intro x
    show parse x (([32] ++ Lib.decDigits y) ++ Lib.joinTail [32] (r.map Lib.decDigits)) = _
    simp only [List.cons_append, List.nil_append, parse, if_pos]
    rw [parse_dec, ih]
theorem parse_join (x : Nat) (r : List Nat) : parse 0 (Lib.join ((x :: r).map Lib.decDigits) [32]) = x :: r := by
  rw [List.map_cons, Lib.join_cons, parse_dec, parse_tail]
theorem show_bytes (xs : List Int) (hx : ∀ x ∈ xs, 0 ≤ x ∧ x < 4294967296) : (EvLaw.show_ xs).toList = Lib.join ((xs.map Int.toNat).map Lib.decDigits) [32] := by
  rw [ByteArray.toList_eq, EvLaw.show_]
  simp only [List.map_map]
  congr 1
  refine List.map_congr_left (fun x h => ?_)
  obtain ⟨u, rfl⟩ := Int.eq_ofNat_of_zero_le (hx x h).1
  simp only [Function.comp, EvLaw.strI, Lib.itoa_nonneg, Int.toNat_natCast]
theorem show_inj (xs ys : List Int) (hx : ∀ x ∈ xs, 0 ≤ x ∧ x < 4294967296) (hy : ∀ x ∈ ys, 0 ≤ x ∧ x < 4294967296) (nx : xs ≠ []) (ny : ys ≠ []) (h : (EvLaw.show_ xs).toList = (EvLaw.show_ ys).toList) : xs = ys := by
  rw [show_bytes xs hx, show_bytes ys hy] at h
  have h2 := congrArg (parse 0) h
  have key : ∀ zs : List Int, zs ≠ [] → (∀ x ∈ zs, 0 ≤ x ∧ x < 4294967296) → parse 0 (Lib.join ((zs.map Int.toNat).map Lib.decDigits) [32]) = zs.map Int.toNat := by
    intro zs hz _
    obtain ⟨z, zs, rfl⟩ := List.exists_cons_of_ne_nil hz
    rw [List.map_cons, parse_join]
  rw [key xs nx hx, key ys ny hy] at h2
  have back : ∀ zs : List Int, (∀ x ∈ zs, 0 ≤ x ∧ x < 4294967296) → (zs.map Int.toNat).map (fun n : Nat => (n : Int)) = zs := by
    intro zs hz
    rw [List.map_map]
    conv => rhs; rw [← List.map_id zs]
    refine List.map_congr_left (fun x h => ?_)
    have := hz x h
    simp only [Function.comp, id_eq]
    omega
  rw [← back xs hx, ← back ys hy, h2]

def W : Bool → List UInt8 → Option Nat
  | p, [] => if p = true then none else some 0
  | p, b :: r => if b = 32 then (if p = true then none else (W true r).map (· + 1)) else (if b.toNat < 48 ∨ 57 < b.toNat then none else W false r)
theorem W_dec (u : Nat) : ∀ p r, W p (Lib.decDigits u ++ r) = W false r := by
  induction u using Nat.strongRecOn with
  | ind u ih =>
    intro p r
    have hb : ∀ d, d < 10 → (UInt8.ofNat (48 + d)).toNat = 48 + d := fun d hd => by rw [UInt8.toNat_ofNat']; omega
    have hne : ∀ d, d < 10 → UInt8.ofNat (48 + d) ≠ 32 := fun d hd e => by
      have := congrArg UInt8.toNat e
      rw [hb d hd] at this
      have h32 : (32 : UInt8).toNat = 32 := rfl
      omega
    by_cases h : u < 10
    · rw [Lib.decDigits_one h]
      simp only [List.singleton_append, W]
      rw [if_neg (hne u h), hb u h, if_neg (by omega)]
    · have he : Lib.decDigits u = Lib.decDigits (u / 10) ++ [UInt8.ofNat (48 + u % 10)] := by rw [Lib.decDigits, dif_neg h]
      rw [he, List.append_assoc, ih (u / 10) (by omega)]
      simp only [List.singleton_append, W]
      rw [if_neg (hne _ (by omega)), hb _ (by omega), if_neg (by omega)]
theorem W_tail (r : List Nat) : W false (Lib.joinTail [32] (r.map Lib.decDigits)) = some r.length := by
  induction r with
  | nil => rfl
  | cons y r ih =>
    show W false (([32] ++ Lib.decDigits y) ++ Lib.joinTail [32] (r.map Lib.decDigits)) = _
    simp only [List.cons_append, List.nil_append, W, if_pos]
    rw [if_neg (by simp), W_dec, ih]
    rfl
theorem W_join (x : Nat) (r : List Nat) : W true (Lib.join ((x :: r).map Lib.decDigits) [32]) = some r.length := by
  rw [List.map_cons, Lib.join_cons, W_dec, W_tail]
theorem btl (s : ByteArray) (i : Nat) (h : i < s.data.toList.length) : bt s (i : Int) = ((s.data.toList[i]).toNat : Int) := by
  have hsz : i < s.size := by rw [Array.length_toList] at h; exact h
  unfold bt
  rw [dif_pos (show (i : Int).toNat < s.size from hsz)]
  rfl
theorem wd_end (s : ByteArray) (m : Int) (k : Nat) (e0 e1 e2 e3 e4 e5 e6 e7 e8 e9 : Int) : wharfagelaw18_EventWords.l0 (k + 1) s m (s.data.toList.length : Int) e0 e1 e2 e3 e4 e5 e6 e7 e8 e9 = wharfagelaw18_EventWords.l0 1 s m (s.data.toList.length : Int) e0 e1 e2 e3 e4 e5 e6 e7 e8 e9 := by
  have hc : ¬ ((s.data.toList.length : Int) < (s.size : Int)) := by
    rw [Array.length_toList]
    exact Int.lt_irrefl _
  simp only [wharfagelaw18_EventWords.l0, if_neg hc]
theorem wd_l (s : ByteArray) (f5 f6 f7 f8 f9 e0 e1 e2 e3 e4 : Int) (hs : s.data.toList.length < 1000000000) (d : Nat) : ∀ (k i : Nat) (m c : Nat) (p : Bool), s.data.toList.length - i ≤ d → d < k → i ≤ s.data.toList.length → m + d < 2000000000 → (p = true ↔ (i = 0 ∨ ∃ h : i - 1 < s.data.toList.length, 0 < i ∧ s.data.toList[i - 1] = 32)) → W p (s.data.toList.drop i) = some c →
    wharfagelaw18_EventWords.l0 k s (m : Int) (i : Int) e0 e1 e2 e3 e4 f5 f6 f7 f8 f9 = wharfagelaw18_EventWords.l0 1 s ((m + c : Nat) : Int) (s.data.toList.length : Int) e0 e1 e2 e3 e4 f5 f6 f7 f8 f9 := by
  have hsz : s.size = s.data.toList.length := by rw [Array.length_toList]; rfl
  induction d with
  | zero =>
    intro k i m c p hd hk hi hm hp hw
    obtain ⟨k, rfl⟩ : ∃ m, k = m + 1 := ⟨k - 1, by omega⟩
    obtain rfl : i = s.data.toList.length := by omega
    rw [List.drop_eq_nil_of_le (Nat.le_refl _)] at hw
    cases p
    · obtain rfl : 0 = c := by simpa [W] using hw
      exact wd_end s m k _ _ _ _ _ _ _ _ _ _
    · simp [W] at hw
  | succ d ih =>
    intro k i m c p hd hk hi hm hp hw
    obtain ⟨k, rfl⟩ : ∃ m, k = m + 1 := ⟨k - 1, by omega⟩
    by_cases h : i < s.data.toList.length
    · rw [List.drop_eq_getElem_cons h] at hw
      have hb := btl s i h
      have hlt : s.data.toList[i].toNat < 256 := s.data.toList[i].toNat_lt
      have h32 : (32 : UInt8).toNat = 32 := rfl
      simp only [W] at hw
      conv => lhs; simp only [wharfagelaw18_EventWords.l0]
      rw [if_pos (by omega), if_pos (by omega), hb]
      by_cases hc : s.data.toList[i] = 32
      · rw [if_pos hc] at hw
        cases p
        · rw [if_neg (by simp)] at hw
          obtain ⟨c', hc', rfl⟩ := Option.map_eq_some_iff.1 hw
          have hi0 : i ≠ 0 := fun e => by have := hp.2 (.inl e); simp at this
          have hpr : s.data.toList[i - 1]'(by omega) ≠ 32 := fun e => by have := hp.2 (.inr ⟨by omega, by omega, e⟩); simp at this
          have hlast : i + 1 ≠ s.data.toList.length := fun e => by rw [e, List.drop_eq_nil_of_le (Nat.le_refl _)] at hc'; simp [W] at hc'
          have hb2 := btl s (i - 1) (by omega)
          have hne : (s.data.toList[i - 1]'(by omega)).toNat ≠ 32 := fun e => hpr (UInt8.toNat_inj.1 (e.trans h32.symm))
          rw [if_pos (by rw [hc]; rfl), if_neg (by omega), show wrap64 ((s.size : Int) - 1) = ((s.data.toList.length - 1 : Nat) : Int) by (rw [hsz]; unfold wrap64; omega), if_neg (by omega), show wrap64 ((i : Int) - 1) = ((i - 1 : Nat) : Int) by (unfold wrap64; omega), if_pos (by omega), if_pos (by omega), hb2, if_neg (by omega), show wrap64 ((m : Int) + 1) = ((m + 1 : Nat) : Int) by (unfold wrap64; omega), show wrap64 ((i : Int) + 1) = ((i + 1 : Nat) : Int) by (unfold wrap64; omega)]
          rw [ih k (i + 1) (m + 1) c' true (by omega) (by omega) (by omega) (by omega) ⟨fun _ => .inr ⟨by omega, by omega, by simpa using hc⟩, fun _ => rfl⟩ hc', show m + 1 + c' = m + (c' + 1) by omega]
        · simp at hw
      · rw [if_neg hc] at hw
        have hne : (s.data.toList[i]).toNat ≠ 32 := fun e => hc (UInt8.toNat_inj.1 (e.trans h32.symm))
        by_cases hr : s.data.toList[i].toNat < 48 ∨ 57 < s.data.toList[i].toNat
        · rw [if_pos hr] at hw; simp at hw
        · rw [if_neg hr] at hw
          rw [if_neg (by omega), if_neg (by omega), if_neg (by omega), show wrap64 ((i : Int) + 1) = ((i + 1 : Nat) : Int) by (unfold wrap64; omega)]
          refine ih k (i + 1) m c false (by omega) (by omega) (by omega) (by omega) ⟨fun e => by simp at e, fun e => ?_⟩ hw
          rcases e with e | ⟨_, _, e⟩
          · omega
          · exact absurd (by simpa using e) hc
    · obtain rfl : i = s.data.toList.length := by omega
      rw [List.drop_eq_nil_of_le (Nat.le_refl _)] at hw
      cases p
      · obtain rfl : 0 = c := by simpa [W] using hw
        exact wd_end s m k _ _ _ _ _ _ _ _ _ _
      · simp [W] at hw
theorem words_law (e0 e1 e2 e3 e4 e5 e6 e7 e8 e9 : Int) : ∃ k, wharfagelaw18_EventWords.f k e0 e1 e2 e3 e4 e5 e6 e7 e8 e9 = some true := by
  by_cases hE : EvLaw.EvP e0 e1 e2 e3 e4 e5 e6 e7 e8 e9
  · obtain ⟨s, hs⟩ : ∃ s, EvLaw.show_ (EvLaw.nums e0 e1 e2 e3 e4 e5 e6 e7 e8 e9) = s := ⟨_, rfl⟩
    have hin := EvLaw.nums_in hE
    have hlen := EvLaw.nums_len e0 e1 e2 e3 e4 e5 e6 e7 e8 e9
    have hb := show_bytes _ hin
    rw [hs, ByteArray.toList_eq] at hb
    have hl : s.data.toList.length < 1000000000 := by
      have h1 := EvLaw.lens_le _ hin
      obtain ⟨x, r, hxr⟩ := List.exists_cons_of_ne_nil (show EvLaw.nums e0 e1 e2 e3 e4 e5 e6 e7 e8 e9 ≠ [] from fun e => by rw [e] at hlen; exact absurd hlen.1 (by decide))
      rw [← hs, EvLaw.show_]
      rw [hxr] at h1 hlen ⊢
      simp only [List.map_cons] at h1 ⊢
      rw [Lib.join_length]
      simp only [List.length_map, List.length_cons, List.length_nil] at h1 hlen ⊢
      omega
    have hw : W true (s.data.toList.drop 0) = some ((EvLaw.nums e0 e1 e2 e3 e4 e5 e6 e7 e8 e9).length - 1) := by
      obtain ⟨x, r, hxr⟩ := List.exists_cons_of_ne_nil (show EvLaw.nums e0 e1 e2 e3 e4 e5 e6 e7 e8 e9 ≠ [] from fun e => by rw [e] at hlen; exact absurd hlen.1 (by decide))
      rw [List.drop_zero, hb, hxr, List.map_cons, W_join]
      simp
    refine ⟨s.data.toList.length + 10, ?_⟩
    unfold wharfagelaw18_EventWords.f
    rw [aw_f _ (by omega), sh_yes _ _ _ _ _ _ _ _ _ _ hE, hs]
    simp only [Option.bind_some, wharfagelaw0_Num.f, if_true]
    have key := wd_l s e5 e6 e7 e8 e9 e0 e1 e2 e3 e4 hl s.data.toList.length (s.data.toList.length + 10) 0 1 _ true (by omega) (by omega) (by omega) (by omega) ⟨fun _ => .inl rfl, fun _ => rfl⟩ hw
    rw [show ((0 : Nat) : Int) = 0 from rfl, show ((1 : Nat) : Int) = 1 from rfl] at key
    rw [key]
    have hsz : s.size = s.data.toList.length := by rw [Array.length_toList]; rfl
    simp only [wharfagelaw18_EventWords.l0]
    rw [if_neg (by omega)]
    have hz : (e5 == 0 && (e6 == 0 && (e7 == 0 && (e8 == 0 && (e9 == 0))))) = !EvLaw.zF e5 e6 e7 e8 e9 := by
      unfold EvLaw.zF
      cases (e5 == 0) <;> cases (e6 == 0) <;> cases (e7 == 0) <;> cases (e8 == 0) <;> cases (e9 == 0) <;> rfl
    rw [hz]
    by_cases h1 : EvLaw.zF e5 e6 e7 e8 e9 = true
    · have hn : EvLaw.nums e0 e1 e2 e3 e4 e5 e6 e7 e8 e9 = [e0, e1, e2, e3, e4, e5, e6, e7, e8, e9] := if_pos h1
      rw [if_neg (by rw [h1]; simp), if_pos (show (!(e5 == 0) || (!(e6 == 0) || (!(e7 == 0) || (!(e8 == 0) || (!(e9 == 0)))))) = true from h1), hn]
      rfl
    · have hn : EvLaw.nums e0 e1 e2 e3 e4 e5 e6 e7 e8 e9 = [e0, e1, e2, e3, e4] := if_neg h1
      rw [if_pos (by simp [h1]), hn]
      exact if_pos rfl
  · refine ⟨10, ?_⟩
    unfold wharfagelaw18_EventWords.f
    rw [aw_f _ (by omega), sh_no _ _ _ _ _ _ _ _ _ _ hE]
    simp only [Option.bind_some, wharfagelaw0_Num.f, if_true]
    rw [if_neg (by omega), ByteArray.toList_eq]
    rfl
theorem EventWords : wharfagelaw18_EventWords.PureX := fun x0 _ => words_law _ _ _ _ _ _ _ _ _ _

end Go.Proofs.YtldfgigajdjcdaaDoor.Pure
