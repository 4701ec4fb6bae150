/- Plain facts on numbers, masks and words of bytes; no program in sight. -/
import Derived.WalkKit
import Derived.Laws.BitsLemmas
import Derived.Laws.BitsAllLaws
namespace Go.Proofs.Ytlapbhgkmmeeoaa.NumMath
open Go.RowKit

theorem ofInt_toNat (x : Int) : ((BitVec.ofInt 64 x).toNat : Int) = x % 18446744073709551616 := by
  rw [BitVec.toNat_ofInt]
  omega

theorem wrap_i64_in (n : Int) (h0 : -9223372036854775808 ≤ n) (h1 : n < 9223372036854775808) : IntKind.i64.wrap n = n := by
  rw [IntKind.wrap_i64]; omega

theorem and_mask (j : Nat) (hj : j ≤ 62) (x : Int) : bits .and .i64 x (2 ^ j - 1) = x % 2 ^ j := by
  have hb : (BitVec.ofInt 64 ((2 : Int) ^ j - 1)).toNat = 2 ^ j - 1 := by
    have hp : 0 < 2 ^ j := Nat.two_pow_pos j
    have e : ((2 : Int) ^ j - 1) = ((2 ^ j - 1 : Nat) : Int) := by rw [Int.natCast_sub hp]; simp
    have hlt : 2 ^ j ≤ 2 ^ 62 := Nat.pow_le_pow_right (by decide) hj
    rw [e, BitVec.ofInt_natCast, BitVec.toNat_ofNat]
    apply Nat.mod_eq_of_lt
    omega
  have hlt : 2 ^ j ≤ 2 ^ 62 := Nat.pow_le_pow_right (by decide) hj
  have hd : (2 ^ j : Nat) ∣ 18446744073709551616 := by
    have : (18446744073709551616 : Nat) = 2 ^ 64 := by decide
    rw [this]
    exact Nat.pow_dvd_pow 2 (by omega)
  show IntKind.i64.wrap (((BitVec.ofInt 64 x &&& BitVec.ofInt 64 ((2 : Int) ^ j - 1)).toNat : Nat) : Int) = x % 2 ^ j
  rw [BitVec.toNat_and, hb, Nat.and_two_pow_sub_one_eq_mod]
  have e1 : ((((BitVec.ofInt 64 x).toNat % 2 ^ j : Nat)) : Int) = x % 2 ^ j := by
    rw [Int.natCast_emod, ofInt_toNat]
    have : (((2 ^ j : Nat)) : Int) = 2 ^ j := by simp
    rw [this]
    apply Int.emod_emod_of_dvd
    have := Int.ofNat_dvd.2 hd
    simpa using this
  rw [e1]
  have hp : (0 : Int) < 2 ^ j := by
    have := Nat.two_pow_pos j
    have e : ((2 : Int) ^ j) = ((2 ^ j : Nat) : Int) := by simp
    rw [e]; omega
  have h1 := Int.emod_nonneg x (Int.ne_of_gt hp)
  have h2 := Int.emod_lt_of_pos x hp
  have h3 : (2 : Int) ^ j ≤ 4611686018427387904 := by
    have e : ((2 : Int) ^ j) = ((2 ^ j : Nat) : Int) := by simp
    rw [e]
    have : (2 : Nat) ^ 62 = 4611686018427387904 := by decide
    omega
  exact wrap_i64_in _ (by omega) (by omega)

theorem and1 (x : Int) : bits .and .i64 x 1 = x % 2 := and_mask 1 (by omega) x
theorem and3 (x : Int) : bits .and .i64 x 3 = x % 4 := and_mask 2 (by omega) x
theorem and7 (x : Int) : bits .and .i64 x 7 = x % 8 := and_mask 3 (by omega) x
theorem and15 (x : Int) : bits .and .i64 x 15 = x % 16 := and_mask 4 (by omega) x
theorem and31 (x : Int) : bits .and .i64 x 31 = x % 32 := and_mask 5 (by omega) x
theorem and63 (x : Int) : bits .and .i64 x 63 = x % 64 := and_mask 6 (by omega) x
theorem and127 (x : Int) : bits .and .i64 x 127 = x % 128 := and_mask 7 (by omega) x
theorem and255 (x : Int) : bits .and .i64 x 255 = x % 256 := and_mask 8 (by omega) x
theorem and1023 (x : Int) : bits .and .i64 x 1023 = x % 1024 := and_mask 10 (by omega) x
theorem and4095 (x : Int) : bits .and .i64 x 4095 = x % 4096 := and_mask 12 (by omega) x
theorem and16383 (x : Int) : bits .and .i64 x 16383 = x % 16384 := and_mask 14 (by omega) x
theorem and65535 (x : Int) : bits .and .i64 x 65535 = x % 65536 := and_mask 16 (by omega) x

theorem nat_andNot1 (x : Nat) (hx : x < 18446744073709551616) : x &&& 18446744073709551614 = x - x % 2 := by
  have h1 : (x &&& 18446744073709551614) / 2 = x / 2 := by
    have e : (x &&& 18446744073709551614) / 2 = (x / 2) &&& (18446744073709551614 / 2) := by
      have := Nat.and_div_two_pow (a := x) (b := 18446744073709551614) (n := 1)
      simpa using this
    have e2 : (18446744073709551614 / 2 : Nat) = 2 ^ 63 - 1 := by decide
    rw [e, e2, Nat.and_two_pow_sub_one_eq_mod]
    omega
  have h2 : (x &&& 18446744073709551614) % 2 = 0 := by
    have e : (x &&& 18446744073709551614) % 2 = (x % 2) &&& (18446744073709551614 % 2) := by
      have := Nat.and_mod_two_pow (a := x) (b := 18446744073709551614) (n := 1)
      simpa using this
    rw [e]; simp
  omega

theorem andNot1 (x : Int) (h0 : 0 ≤ x) (h1 : x < 9223372036854775808) : bits .andNot .i64 x 1 = x - x % 2 := by
  obtain ⟨a, rfl⟩ := Int.eq_ofNat_of_zero_le h0
  show IntKind.i64.wrap (((BitVec.ofInt 64 (a : Int) &&& ~~~ BitVec.ofInt 64 1).toNat : Nat) : Int) = (a : Int) - (a : Int) % 2
  have e : (BitVec.ofInt 64 (a : Int) &&& ~~~ BitVec.ofInt 64 1).toNat = a &&& 18446744073709551614 := by
    have e1 : (~~~ BitVec.ofInt 64 1).toNat = 18446744073709551614 := by decide
    rw [BitVec.toNat_and, e1, BitVec.ofInt_natCast, BitVec.toNat_ofNat]
    congr 1
    omega
  rw [e, nat_andNot1 a (by omega), wrap_i64_in]
  all_goals omega

theorem wrap64_in (n : Int) (h0 : -9223372036854775808 ≤ n) (h1 : n < 9223372036854775808) : wrap64 n = n := by
  unfold wrap64; omega
theorem wrap_u64_in (n : Int) (h0 : 0 ≤ n) (h1 : n < 18446744073709551616) : IntKind.u64.wrap n = n := by
  simp [IntKind.wrap, IntKind.bits, IntKind.signed]; omega
theorem wrap_u64_mod (n : Int) : IntKind.u64.wrap n = n % 18446744073709551616 := by
  simp [IntKind.wrap, IntKind.bits, IntKind.signed]
theorem wf_i64_bounds {x : Int} (h : (Lit.int .i64 x).wf = true) : -9223372036854775808 ≤ x ∧ x ≤ 9223372036854775807 := by
  simpa [Lit.wf, IntKind.min, IntKind.max, IntKind.signed, IntKind.bits] using h
theorem tmod_nn (x m : Int) (h : 0 ≤ x) : Int.tmod x m = x % m := Int.tmod_eq_emod_of_nonneg h
theorem tdiv_nn (x m : Int) (h : 0 ≤ x) : Int.tdiv x m = x / m := Int.tdiv_eq_ediv_of_nonneg h

/-! the sum's value -/
def F (x : Int) : Int := if x = 0 then 0 else (x - 1) % 65535 + 1
theorem F_small (x : Int) (h0 : 0 ≤ x) (h1 : x ≤ 65535) : F x = x := by unfold F; split <;> omega
theorem F_step (x : Int) (h : 65536 ≤ x) : F (x % 65536 + x / 65536) = F x := by unfold F; split <;> split <;> omega
theorem F_range (x : Int) : 0 ≤ F x ∧ F x ≤ 65535 := by unfold F; split <;> omega
theorem F_F (a : Int) : F (F a) = F a := F_small _ (F_range a).1 (F_range a).2
theorem F_add (a b : Int) (ha : 0 ≤ a) (hb : 0 ≤ b) : F (F a + b) = F (a + b) := by
  unfold F; split <;> split <;> split <;> omega
theorem F_add_r (a b : Int) (ha : 0 ≤ a) (hb : 0 ≤ b) : F (a + F b) = F (a + b) := by
  rw [Int.add_comm, F_add b a hb ha, Int.add_comm]
theorem F_full (x : Int) (h0 : 0 < x) (h1 : x ≤ 65535) : F (x + 65535) = x := by unfold F; split <;> omega
theorem F_rest (x : Int) (h0 : 0 ≤ x) : F (x + (65535 - F x)) = 65535 := by unfold F; split <;> split <;> omega

/-! words of bytes -/
def ws : List UInt8 → Int
  | [] => 0
  | [a] => a.toNat * 256
  | a :: b :: t => a.toNat * 256 + b.toNat + ws t
theorem ws_range : ∀ l : List UInt8, 0 ≤ ws l ∧ ws l ≤ 65535 * l.length
  | [] => by simp [ws]
  | [a] => by have := a.toNat_lt; simp [ws]; omega
  | a :: b :: t => by
    have h := ws_range t
    have := a.toNat_lt
    have := b.toNat_lt
    simp only [ws, List.length_cons]; omega
theorem ws_append : ∀ l r : List UInt8, l.length % 2 = 0 → ws (l ++ r) = ws l + ws r
  | [], r, _ => by simp [ws]
  | [a], r, h => by simp at h
  | a :: b :: t, r, h => by
    have := ws_append t r (by simp at h; omega)
    simp only [List.cons_append, ws, this]; omega
theorem ws_zero : ∀ l : List UInt8, ws (l ++ [0]) = ws l
  | [] => by simp [ws]
  | [a] => by simp [ws]
  | a :: b :: t => by
    have := ws_zero t
    simp only [List.cons_append, ws, this]

end Go.Proofs.Ytlapbhgkmmeeoaa.NumMath
