/- The texts of events are the document's, and unlike ones are shown unlike. -/
import Derived.Test.YtldfgigajdjcdaaDoorPEventsx16
import Derived.Test.YtldfgigajdjcdaaDoorOpenEvents
import Derived.Test.YtldfgigajdjcdaaDoorNumMath
import Derived.Lib.ItoaLen
import Derived.Lib.Strings
import Derived.Lib.LazyBuf
import Derived.Lib.Join
set_option linter.unusedVariables false
set_option linter.unusedSimpArgs false
namespace Go.Proofs.YtldfgigajdjcdaaDoor.Pure
open Go.RowKit Go.Proofs.YtldfgigajdjcdaaDoor.PEvents Go.Proofs.YtldfgigajdjcdaaDoorW.PrintWords Go.Proofs.YtldfgigajdjcdaaDoorW.PrintLast Go.Proofs.YtldfgigajdjcdaaDoorW.PrintMore Go.Proofs.YtldfgigajdjcdaaDoor.NumMath

theorem dig (u : Nat) (h : u < 10) : Lib.itoa (u : Int) = [UInt8.ofNat (48 + u)] := by rw [Lib.itoa_nonneg, Lib.decDigits_one h]
theorem show1 : EvLaw.show_ (EvLaw.nums 0 1 2 0 3 1 2 6 4 5) = (⟨#[48, 32, 49, 32, 50, 32, 48, 32, 51, 32, 49, 32, 50, 32, 54, 32, 52, 32, 53]⟩ : ByteArray) := by
  have h0 := dig 0 (by decide); have h1 := dig 1 (by decide); have h2 := dig 2 (by decide); have h3 := dig 3 (by decide); have h4 := dig 4 (by decide); have h5 := dig 5 (by decide); have h6 := dig 6 (by decide)
  show EvLaw.show_ [0, 1, 2, 0, 3, 1, 2, 6, 4, 5] = _
  unfold EvLaw.show_
  simp only [List.map_cons, List.map_nil, EvLaw.strI]
  rw [show Lib.itoa 0 = _ from h0, show Lib.itoa 1 = _ from h1, show Lib.itoa 2 = _ from h2, show Lib.itoa 3 = _ from h3, show Lib.itoa 4 = _ from h4, show Lib.itoa 5 = _ from h5, show Lib.itoa 6 = _ from h6]
  rfl
theorem show2 : EvLaw.show_ (EvLaw.nums 8 0 0 0 0 0 0 0 0 0) = (⟨#[56, 32, 48, 32, 48, 32, 48, 32, 48]⟩ : ByteArray) := by
  have h0 := dig 0 (by decide); have h8 := dig 8 (by decide)
  show EvLaw.show_ [8, 0, 0, 0, 0] = _
  unfold EvLaw.show_
  simp only [List.map_cons, List.map_nil, EvLaw.strI]
  rw [show Lib.itoa 0 = _ from h0, show Lib.itoa 8 = _ from h8]
  rfl
theorem sh_yes (e0 e1 e2 e3 e4 e5 e6 e7 e8 e9 : Int) (h : EvLaw.EvP e0 e1 e2 e3 e4 e5 e6 e7 e8 e9) : event_Show.f e0 e1 e2 e3 e4 e5 e6 e7 e8 e9 = some (EvLaw.show_ (EvLaw.nums e0 e1 e2 e3 e4 e5 e6 e7 e8 e9), 0) := if_pos h
theorem sh_no (e0 e1 e2 e3 e4 e5 e6 e7 e8 e9 : Int) (h : ¬ EvLaw.EvP e0 e1 e2 e3 e4 e5 e6 e7 e8 e9) : event_Show.f e0 e1 e2 e3 e4 e5 e6 e7 e8 e9 = some (⟨#[]⟩, 1800) := if_neg h
theorem aw_f (k : Nat) (hk : 2 ≤ k) : wharfagelaw18_awake.f k = some true := by
  unfold wharfagelaw18_awake.f
  rw [sh_yes _ _ _ _ _ _ _ _ _ _ (by decide), sh_yes _ _ _ _ _ _ _ _ _ _ (by decide), sh_no _ _ _ _ _ _ _ _ _ _ (by decide), show1, show2]
  simp only [Option.bind_some, ByteArray.toList_eq]
  rw [if_pos trivial]
  simp only [wharfagelaw0_Num.f, Option.bind_some]
  rw [if_pos trivial, if_pos trivial, if_pos trivial, if_pos trivial, EvLaw.ev_f _ _ _ _ _ _ _ _ _ _ k hk]
  rfl

theorem within_any (x : Int) (b : Nat) (n : Nat) (hb : b < 63) (hn : 2 ^ b = n) (hs : shl .i64 1 (b : Int) = (n : Int)) : wharfageref1_within.f x (b : Int) = some (decide (0 ≤ x ∧ x < (n : Int))) := by
  unfold wharfageref1_within.f
  by_cases h : x ≥ 0
  · rw [if_pos h, if_pos (by omega), hs]; congr 1; simp; omega
  · rw [if_neg h]; congr 1; simp; omega
theorem within32 (x : Int) : wharfageref1_within.f x 32 = some (decide (0 ≤ x ∧ x < 4294967296)) := within_any x 32 4294967296 (by decide) (by decide) (by decide)
theorem within16 (x : Int) : wharfageref1_within.f x 16 = some (decide (0 ≤ x ∧ x < 65536)) := within_any x 16 65536 (by decide) (by decide) (by decide)
theorem refFlowMay_f (a b c d e : Int) : wharfageref1_FlowMay.f a b c d e = some (decide (EvLaw.Fm a b c d e)) := by
  unfold wharfageref1_FlowMay.f
  rw [within32, within32, within16, within16]
  simp only [Option.bind_some]
  by_cases h1 : 0 ≤ a ∧ a < 4294967296 <;> by_cases h2 : 0 ≤ b ∧ b < 4294967296 <;> by_cases h3 : c = 6 <;> by_cases h6 : c = 17 <;> by_cases h4 : 0 ≤ d ∧ d < 65536 <;> by_cases h5 : 0 ≤ e ∧ e < 65536 <;> simp [EvLaw.Fm, h1, h2, h3, h4, h5, h6]
theorem dec_l (x : Int) (hx : 0 ≤ x) (u : Nat) : u < 18446744073709551616 → ∀ (k : Nat) (acc : List Int), acc.length + Lib.nDigits u ≤ 40 → Lib.nDigits u + 1 < k → (0 < u ∨ acc = []) → wharfageref0_Decimal.l0 k x (u : Int) acc = some (strOfNums ((Lib.decDigits u).map (fun b => (b.toNat : Int)) ++ acc)) := by
  induction u using Nat.strongRecOn with
  | ind u ih =>
    intro hu k acc hl hk hc
    obtain ⟨k, rfl⟩ : ∃ m, k = m + 1 := ⟨k - 1, by omega⟩
    have hp := Lib.nDigits_pos u
    have hd : (IntKind.u64.wrap (48 + Int.tmod (u : Int) 10)) % 256 = ((48 + u % 10 : Nat) : Int) := by
      rw [NumMath.tmod_nn _ _ (by omega), NumMath.wrap_u64_in _ (by omega) (by omega)]
      omega
    have hq : IntKind.u64.wrap (Int.tdiv (u : Int) 10) = ((u / 10 : Nat) : Int) := by
      rw [NumMath.tdiv_nn _ _ (by omega), NumMath.wrap_u64_in _ (by omega) (by omega)]
      omega
    have hb : (UInt8.ofNat (48 + u % 10)).toNat = 48 + u % 10 := by
      rw [UInt8.toNat_ofNat']
      omega
    have step : (if ([((48 + u % 10 : Nat) : Int)] : List Int).length + acc.length < 140737488355328 then wharfageref0_Decimal.l0 k x ((u / 10 : Nat) : Int) ([((48 + u % 10 : Nat) : Int)] ++ acc) else none) = some (strOfNums ((Lib.decDigits u).map (fun b => (b.toNat : Int)) ++ acc)) := by
      rw [if_pos (by simp only [List.length_singleton]; omega)]
      by_cases h : u < 10
      · rw [show u / 10 = 0 by omega, Lib.decDigits_one h]
        obtain ⟨k, rfl⟩ : ∃ m, k = m + 1 := ⟨k - 1, by omega⟩
        simp only [wharfageref0_Decimal.l0]
        rw [if_neg (by omega), if_neg (by simp only [List.length_append, List.length_singleton]; omega), if_neg (by omega)]
        simp only [List.map_cons, List.map_nil]
        rw [show 48 + u = 48 + u % 10 by omega, hb]
      · have hn := Lib.nDigits_big h
        rw [ih (u / 10) (by omega) (by omega) k _ (by simp only [List.length_append, List.length_singleton]; omega) (by omega) (.inl (by omega))]
        have he : Lib.decDigits u = Lib.decDigits (u / 10) ++ [UInt8.ofNat (48 + u % 10)] := by rw [Lib.decDigits, dif_neg h]
        rw [he, List.map_append, List.append_assoc]
        simp only [List.map_cons, List.map_nil]
        rw [hb]
    simp only [wharfageref0_Decimal.l0]
    by_cases h0 : 0 < u
    · rw [if_pos (by omega), hd, hq]
      exact step
    · obtain rfl : acc = [] := by rcases hc with h | h; exact absurd h h0; exact h
      rw [if_neg (by omega), if_pos (show (([] : List Int).length : Int) = 0 from rfl), hd, hq]
      exact step
theorem dec_f (x : Int) (h : 0 ≤ x ∧ x < 4294967296) (k : Nat) (hk : 30 ≤ k) : wharfageref0_Decimal.f k x = some (EvLaw.strI x) := by
  obtain ⟨u, rfl⟩ := Int.eq_ofNat_of_zero_le h.1
  obtain ⟨k, rfl⟩ : ∃ m, k = m + 1 := ⟨k - 1, by omega⟩
  have hn := Lib.nDigits_le20 u (by omega)
  unfold wharfageref0_Decimal.f
  rw [if_neg (by omega), NumMath.wrap_u64_in _ (by omega) (by omega)]
  simp only [wharfageref0_Decimal.j0]
  rw [dec_l _ (by omega) u (by omega) k [] (by simp only [List.length_nil]; omega) (by omega) (.inr rfl), List.append_nil, EvLaw.strI, Lib.itoa_nonneg]
  congr 1
  exact Lib.Lz.strOfNums_map _
theorem refl_l (xs : List Int) (hx : ∀ x ∈ xs, 0 ≤ x ∧ x < 4294967296) (d : Nat) : ∀ (k i : Nat) (s : ByteArray), xs.length - i ≤ d → 31 + d < k → i ≤ xs.length → s.size + 21 * d ≤ 1000000 → xs.length ≤ 1000 →
    wharfageref10_ShowEvent.l0 k xs s (i : Int) = some (⟨(s.data.toList ++ Lib.joinTail [32] (((xs.drop i).map EvLaw.strI).map (·.data.toList))).toArray⟩, 0) := by
  induction d with
  | zero =>
    intro k i s hd hk hi hs hl
    obtain ⟨k, rfl⟩ : ∃ m, k = m + 1 := ⟨k - 1, by omega⟩
    simp only [wharfageref10_ShowEvent.l0]
    rw [if_neg (by omega), List.drop_eq_nil_of_le (by omega)]
    simp [Lib.joinTail]
  | succ d ih =>
    intro k i s hd hk hi hs hl
    obtain ⟨k, rfl⟩ : ∃ m, k = m + 1 := ⟨k - 1, by omega⟩
    by_cases h : i < xs.length
    · simp only [wharfageref10_ShowEvent.l0]
      have hr : rd xs (i : Int) = xs[i] := by simp [rd, h]
      have hxi := hx xs[i] (List.getElem_mem h)
      have hsz : (EvLaw.strI xs[i]).size ≤ 20 := by
        have := EvLaw.itoa_len hxi
        simpa [EvLaw.strI, ByteArray.size] using this
      have hs2 : (s ++ (⟨#[32]⟩ : ByteArray)).size = s.size + 1 := by rw [ByteArray.size_append]; rfl
      rw [if_pos (by omega), if_pos (by omega), if_pos (by omega), hr, dec_f _ hxi k (by omega), Option.bind_some, if_pos (by rw [hs2]; omega), show wrap64 ((i : Int) + 1) = ((i + 1 : Nat) : Int) by unfold wrap64; omega]
      rw [ih k (i + 1) _ (by omega) (by omega) (by omega) (by rw [ByteArray.size_append, hs2]; omega) hl]
      congr 3
      rw [List.drop_eq_getElem_cons h]
      simp only [List.map_cons, Lib.joinTail, List.flatten_cons, ByteArray.data_append, Array.toList_append, List.append_assoc]
    · simp only [wharfageref10_ShowEvent.l0]
      rw [if_neg (by omega), List.drop_eq_nil_of_le (by omega)]
      simp [Lib.joinTail]
theorem refmay_f (e0 e1 e2 e3 e4 e5 e6 e7 e8 e9 : Int) : wharfageref10_EventMay.f e0 e1 e2 e3 e4 e5 e6 e7 e8 e9 = some (decide (EvLaw.EvP e0 e1 e2 e3 e4 e5 e6 e7 e8 e9)) := by
  have hz : (e5 == 0 && (e6 == 0 && (e7 == 0 && (e8 == 0 && (e9 == 0))))) = decide (e5 = 0 ∧ e6 = 0 ∧ e7 = 0 ∧ e8 = 0 ∧ e9 = 0) := by
    simp only [Bool.decide_and]; rfl
  have hby : ∀ x : Int, wharfageref10_byte1.f x = some (decide (0 ≤ x ∧ x < 256)) := by
    intro x
    unfold wharfageref10_byte1.f
    by_cases h : x ≥ 0
    · rw [if_pos h]; congr 1; exact decide_eq_decide.2 (by omega)
    · rw [if_neg h, decide_eq_false (by omega)]
  unfold wharfageref10_EventMay.f
  simp only [hby, refFlowMay_f, Option.bind_some, hz]
  by_cases a0 : e0 ≥ 0
  · rw [if_pos a0]
    by_cases a1 : e0 ≤ 13
    · rw [if_pos a1]
      by_cases b0 : e1 ≥ 0
      · rw [if_pos b0]
        by_cases b1 : e1 ≤ 2
        · rw [if_pos b1]
          by_cases c2 : 0 ≤ e2 ∧ e2 < 256 <;> by_cases c3 : 0 ≤ e3 ∧ e3 < 256 <;> by_cases c4 : 0 ≤ e4 ∧ e4 < 256 <;> by_cases c5 : e5 = 0 ∧ e6 = 0 ∧ e7 = 0 ∧ e8 = 0 ∧ e9 = 0 <;> simp [EvLaw.EvP, a1, b1, c2, c3, c4, c5, show (0 : Int) ≤ e0 from a0, show (0 : Int) ≤ e1 from b0]
        · rw [if_neg b1, decide_eq_false (fun h => b1 h.2.1.2)]
      · rw [if_neg b0, decide_eq_false (fun h => b0 h.2.1.1)]
    · rw [if_neg a1, decide_eq_false (fun h => a1 h.1.2)]
  · rw [if_neg a0, decide_eq_false (fun h => a0 h.1.1)]
theorem refshow_f (e0 e1 e2 e3 e4 e5 e6 e7 e8 e9 : Int) (k : Nat) (hk : 60 ≤ k) : wharfageref10_ShowEvent.f k e0 e1 e2 e3 e4 e5 e6 e7 e8 e9 = event_Show.f e0 e1 e2 e3 e4 e5 e6 e7 e8 e9 := by
  unfold wharfageref10_ShowEvent.f
  rw [refmay_f, Option.bind_some]
  by_cases hE : EvLaw.EvP e0 e1 e2 e3 e4 e5 e6 e7 e8 e9
  · rw [decide_eq_true hE, if_pos rfl, sh_yes _ _ _ _ _ _ _ _ _ _ hE]
    have hin := EvLaw.nums_in hE
    obtain ⟨k, rfl⟩ : ∃ m, k = m + 1 := ⟨k - 1, by omega⟩
    have hcons : ∃ ys, EvLaw.nums e0 e1 e2 e3 e4 e5 e6 e7 e8 e9 = e0 :: ys ∧ ys = (if EvLaw.zF e5 e6 e7 e8 e9 = true then [e1, e2, e3, e4] ++ [e5, e6, e7, e8, e9] else [e1, e2, e3, e4]) := by
      unfold EvLaw.nums
      split
      · exact ⟨_, rfl, rfl⟩
      · exact ⟨_, rfl, rfl⟩
    obtain ⟨ys, hy, hys⟩ := hcons
    have hlen := EvLaw.nums_len e0 e1 e2 e3 e4 e5 e6 e7 e8 e9
    have h0 : 0 ≤ e0 ∧ e0 < 4294967296 := by have := hE.1; omega
    have goal : wharfageref10_ShowEvent.j0 (k + 1) ys e0 e1 e2 e3 e4 e5 e6 e7 e8 e9 = some (EvLaw.show_ (EvLaw.nums e0 e1 e2 e3 e4 e5 e6 e7 e8 e9), 0) := by
      simp only [wharfageref10_ShowEvent.j0]
      rw [dec_f _ h0 k (by omega), Option.bind_some]
      rw [hy] at hin hlen
      have hsz : (EvLaw.strI e0).size ≤ 20 := by
        have := EvLaw.itoa_len h0
        simpa [EvLaw.strI, ByteArray.size] using this
      have hl := refl_l ys (fun x hx => hin x (List.mem_cons_of_mem _ hx)) ys.length k 0 (EvLaw.strI e0) (by omega) (by simp only [List.length_cons] at hlen; omega) (by omega) (by simp only [List.length_cons] at hlen; omega) (by simp only [List.length_cons] at hlen; omega)
      rw [show ((0 : Nat) : Int) = 0 from rfl] at hl
      rw [hl, hy, EvLaw.show_]
      simp only [List.drop_zero, List.map_cons]
      rw [Lib.join_cons]
    simp only [Option.bind_some]
    by_cases hz : EvLaw.zF e5 e6 e7 e8 e9 = true
    · rw [if_pos hz] at hys
      rw [if_pos (show (!(e5 == 0) || (!(e6 == 0) || (!(e7 == 0) || (!(e8 == 0) || (!(e9 == 0)))))) = true from hz), if_pos (by simp), ← hys]
      exact goal
    · rw [if_neg hz] at hys
      rw [if_neg (show ¬ (!(e5 == 0) || (!(e6 == 0) || (!(e7 == 0) || (!(e8 == 0) || (!(e9 == 0)))))) = true from hz), ← hys]
      exact goal
  · rw [decide_eq_false hE, if_neg (by simp), sh_no _ _ _ _ _ _ _ _ _ _ hE]

def parse : Nat → List UInt8 → List Nat
  | c, [] => [c]
  | c, b :: r => if b = 32 then c :: parse 0 r else parse (c * 10 + (b.toNat - 48)) r
theorem parse_dec (u : Nat) : ∀ r, parse 0 (Lib.decDigits u ++ r) = parse u r := by
  induction u using Nat.strongRecOn with
  | ind u ih =>
    intro r
    have hb : ∀ d, d < 10 → (UInt8.ofNat (48 + d)).toNat = 48 + d := fun d hd => by rw [UInt8.toNat_ofNat']; omega
    have hne : ∀ d, d < 10 → UInt8.ofNat (48 + d) ≠ 32 := fun d hd e => by
      have := congrArg UInt8.toNat e
      rw [hb d hd] at this
      have h32 : (32 : UInt8).toNat = 32 := rfl
      omega
    by_cases h : u < 10
    · rw [Lib.decDigits_one h]
      simp only [List.singleton_append, parse]
      rw [if_neg (hne u h), hb u h]
      congr 1
      omega
    · have he : Lib.decDigits u = Lib.decDigits (u / 10) ++ [UInt8.ofNat (48 + u % 10)] := by rw [Lib.decDigits, dif_neg h]
      rw [he, List.append_assoc, ih (u / 10) (by omega)]
      simp only [List.singleton_append, parse]
      rw [if_neg (hne _ (by omega)), hb _ (by omega)]
      congr 1
      omega
theorem parse_tail (r : List Nat) : ∀ x : Nat, parse x (Lib.joinTail [32] (r.map Lib.decDigits)) = x :: r := by
  induction r with
  | nil => intro x; rfl
  | cons y r ih =>
    intro x
    show parse x (([32] ++ Lib.decDigits y) ++ Lib.joinTail [32] (r.map Lib.decDigits)) = _
    simp only [List.cons_append, List.nil_append, parse, if_pos]
    rw [parse_dec, ih]
theorem parse_join (x : Nat) (r : List Nat) : parse 0 (Lib.join ((x :: r).map Lib.decDigits) [32]) = x :: r := by
  rw [List.map_cons, Lib.join_cons, parse_dec, parse_tail]
theorem show_bytes (xs : List Int) (hx : ∀ x ∈ xs, 0 ≤ x ∧ x < 4294967296) : (EvLaw.show_ xs).toList = Lib.join ((xs.map Int.toNat).map Lib.decDigits) [32] := by
  rw [ByteArray.toList_eq, EvLaw.show_]
  simp only [List.map_map]
  congr 1
  refine List.map_congr_left (fun x h => ?_)
  obtain ⟨u, rfl⟩ := Int.eq_ofNat_of_zero_le (hx x h).1
  simp only [Function.comp, EvLaw.strI, Lib.itoa_nonneg, Int.toNat_natCast]
theorem show_inj (xs ys : List Int) (hx : ∀ x ∈ xs, 0 ≤ x ∧ x < 4294967296) (hy : ∀ x ∈ ys, 0 ≤ x ∧ x < 4294967296) (nx : xs ≠ []) (ny : ys ≠ []) (h : (EvLaw.show_ xs).toList = (EvLaw.show_ ys).toList) : xs = ys := by
  rw [show_bytes xs hx, show_bytes ys hy] at h
  have h2 := congrArg (parse 0) h
  have key : ∀ zs : List Int, zs ≠ [] → (∀ x ∈ zs, 0 ≤ x ∧ x < 4294967296) → parse 0 (Lib.join ((zs.map Int.toNat).map Lib.decDigits) [32]) = zs.map Int.toNat := by
    intro zs hz _
    obtain ⟨z, zs, rfl⟩ := List.exists_cons_of_ne_nil hz
    rw [List.map_cons, parse_join]
  rw [key xs nx hx, key ys ny hy] at h2
  have back : ∀ zs : List Int, (∀ x ∈ zs, 0 ≤ x ∧ x < 4294967296) → (zs.map Int.toNat).map (fun n : Nat => (n : Int)) = zs := by
    intro zs hz
    rw [List.map_map]
    conv => rhs; rw [← List.map_id zs]
    refine List.map_congr_left (fun x h => ?_)
    have := hz x h
    simp only [Function.comp, id_eq]
    omega
  rw [← back xs hx, ← back ys hy, h2]

theorem nums_inj (e0 e1 e2 e3 e4 e5 e6 e7 e8 e9 b0 b1 b2 b3 b4 b5 b6 b7 b8 b9 : Int) (hb : EvLaw.EvP e0 e1 e2 e3 e4 e5 e6 e7 e8 e9) (hb2 : EvLaw.EvP b0 b1 b2 b3 b4 b5 b6 b7 b8 b9) (h : EvLaw.nums e0 e1 e2 e3 e4 e5 e6 e7 e8 e9 = EvLaw.nums b0 b1 b2 b3 b4 b5 b6 b7 b8 b9) : (e0 = b0 ∧ e1 = b1 ∧ e2 = b2 ∧ e3 = b3 ∧ e4 = b4 ∧ e5 = b5 ∧ e6 = b6 ∧ e7 = b7 ∧ e8 = b8 ∧ e9 = b9) := by
  have z : ∀ a b c d e : Int, ¬ EvLaw.zF a b c d e = true → a = 0 ∧ b = 0 ∧ c = 0 ∧ d = 0 ∧ e = 0 := by
    intro a b c d e hz
    simpa [EvLaw.zF] using hz
  unfold EvLaw.nums at h
  by_cases h1 : EvLaw.zF e5 e6 e7 e8 e9 = true
  · rw [if_pos h1] at h
    by_cases h2 : EvLaw.zF b5 b6 b7 b8 b9 = true
    · rw [if_pos h2] at h
      simpa using h
    · rw [if_neg h2] at h
      simp at h
  · rw [if_neg h1] at h
    have z1 := z _ _ _ _ _ h1
    by_cases h2 : EvLaw.zF b5 b6 b7 b8 b9 = true
    · rw [if_pos h2] at h
      simp at h
    · rw [if_neg h2] at h
      have z2 := z _ _ _ _ _ h2
      simp only [List.cons.injEq, and_true] at h
      omega
theorem ev_law (e0 e1 e2 e3 e4 e5 e6 e7 e8 e9 b0 b1 b2 b3 b4 b5 b6 b7 b8 b9 : Int) : wharfagelaw18_Events.f 60 e0 e1 e2 e3 e4 e5 e6 e7 e8 e9 b0 b1 b2 b3 b4 b5 b6 b7 b8 b9 = some true := by
  have hA : ∃ s n, event_Show.f e0 e1 e2 e3 e4 e5 e6 e7 e8 e9 = some (s, n) := by by_cases h : EvLaw.EvP e0 e1 e2 e3 e4 e5 e6 e7 e8 e9; exact ⟨_, _, sh_yes _ _ _ _ _ _ _ _ _ _ h⟩; exact ⟨_, _, sh_no _ _ _ _ _ _ _ _ _ _ h⟩
  obtain ⟨s, n, hs⟩ := hA
  have hB : ∃ s n, event_Show.f b0 b1 b2 b3 b4 b5 b6 b7 b8 b9 = some (s, n) := by by_cases h : EvLaw.EvP b0 b1 b2 b3 b4 b5 b6 b7 b8 b9; exact ⟨_, _, sh_yes _ _ _ _ _ _ _ _ _ _ h⟩; exact ⟨_, _, sh_no _ _ _ _ _ _ _ _ _ _ h⟩
  obtain ⟨t, m, ht⟩ := hB
  unfold wharfagelaw18_Events.f
  rw [refshow_f e0 e1 e2 e3 e4 e5 e6 e7 e8 e9 60 (by omega), hs, ht]
  simp only [Option.bind_some, wharfagelaw0_Num.f, if_true]
  rw [EvLaw.ev_f e0 e1 e2 e3 e4 e5 e6 e7 e8 e9 60 (by omega), refmay_f, aw_f 60 (by omega)]
  simp only [Option.bind_some]
  rw [if_neg (by simp)]
  by_cases hn : n = 0
  · rw [if_pos hn]
    by_cases hm : m = 0
    · rw [if_pos hm]
      have pA : EvLaw.EvP e0 e1 e2 e3 e4 e5 e6 e7 e8 e9 := by
        refine Classical.byContradiction fun h => ?_
        rw [sh_no _ _ _ _ _ _ _ _ _ _ h] at hs
        simp only [Option.some.injEq, Prod.mk.injEq] at hs
        omega
      have pB : EvLaw.EvP b0 b1 b2 b3 b4 b5 b6 b7 b8 b9 := by
        refine Classical.byContradiction fun h => ?_
        rw [sh_no _ _ _ _ _ _ _ _ _ _ h] at ht
        simp only [Option.some.injEq, Prod.mk.injEq] at ht
        omega
      rw [sh_yes _ _ _ _ _ _ _ _ _ _ pA] at hs
      rw [sh_yes _ _ _ _ _ _ _ _ _ _ pB] at ht
      obtain ⟨rfl, rfl⟩ : EvLaw.show_ (EvLaw.nums e0 e1 e2 e3 e4 e5 e6 e7 e8 e9) = s ∧ 0 = n := by simpa only [Option.some.injEq, Prod.mk.injEq] using hs
      obtain ⟨rfl, rfl⟩ : EvLaw.show_ (EvLaw.nums b0 b1 b2 b3 b4 b5 b6 b7 b8 b9) = t ∧ 0 = m := by simpa only [Option.some.injEq, Prod.mk.injEq] using ht
      have hne : ∀ l : List Int, 0 < l.length → l ≠ [] := fun l h e => by rw [e] at h; exact absurd h (by decide)
      refine if_pos ?_
      by_cases heq : (EvLaw.show_ (EvLaw.nums e0 e1 e2 e3 e4 e5 e6 e7 e8 e9)).toList = (EvLaw.show_ (EvLaw.nums b0 b1 b2 b3 b4 b5 b6 b7 b8 b9)).toList
      · obtain ⟨rfl, rfl, rfl, rfl, rfl, rfl, rfl, rfl, rfl, rfl⟩ := nums_inj _ _ _ _ _ _ _ _ _ _ _ _ _ _ _ _ _ _ _ _ pA pB (show_inj _ _ (EvLaw.nums_in pA) (EvLaw.nums_in pB) (hne _ (EvLaw.nums_len _ _ _ _ _ _ _ _ _ _).1) (hne _ (EvLaw.nums_len _ _ _ _ _ _ _ _ _ _).1) heq)
        simp
      · rw [beq_eq_false_iff_ne.2 heq, beq_iff_eq]
        symm
        rw [Bool.eq_false_iff]
        intro hall
        apply heq
        simp only [Bool.and_eq_true, beq_iff_eq] at hall
        obtain ⟨rfl, rfl, rfl, rfl, rfl, rfl, rfl, rfl, rfl, rfl⟩ := hall
        rfl
    · rw [if_neg hm]
  · rw [if_neg hn]
theorem Events : wharfagelaw18_Events.PureX := fun x0 x1 _ _ => ⟨60, ev_law _ _ _ _ _ _ _ _ _ _ _ _ _ _ _ _ _ _ _ _⟩

end Go.Proofs.YtldfgigajdjcdaaDoor.Pure
