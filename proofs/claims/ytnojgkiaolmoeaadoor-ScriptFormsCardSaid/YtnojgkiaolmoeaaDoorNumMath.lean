/- Plain facts on numbers, masks and words of bytes; no program in sight. -/
import Derived.WalkKit
import Derived.Laws.BitsLemmas
import Derived.Laws.BitsAllLaws
namespace Go.Proofs.YtnojgkiaolmoeaaDoor.NumMath
open Go.RowKit

theorem ofInt_toNat (x : Int) : ((BitVec.ofInt 64 x).toNat : Int) = x % 18446744073709551616 := by
  rw [BitVec.toNat_ofInt]
  omega

theorem wrap_i64_in (n : Int) (h0 : -9223372036854775808 ≤ n) (h1 : n < 9223372036854775808) : IntKind.i64.wrap n = n := by
  rw [IntKind.wrap_i64]; omega

theorem and_mask (j : Nat) (hj : j ≤ 62) (x : Int) : bits .and .i64 x (2 ^ j - 1) = x % 2 ^ j := by
  have hb : (BitVec.ofInt 64 ((2 : Int) ^ j - 1)).toNat = 2 ^ j - 1 := by
    have hp : 0 < 2 ^ j := Nat.two_pow_pos j
    have e : ((2 : Int) ^ j - 1) = ((2 ^ j - 1 : Nat) : Int) := by rw [Int.natCast_sub hp]; simp
    have hlt : 2 ^ j ≤ 2 ^ 62 := Nat.pow_le_pow_right (by decide) hj
    rw [e, BitVec.ofInt_natCast, BitVec.toNat_ofNat]
    apply Nat.mod_eq_of_lt
    omega
  have hlt : 2 ^ j ≤ 2 ^ 62 := Nat.pow_le_pow_right (by decide) hj
  have hd : (2 ^ j : Nat) ∣ 18446744073709551616 := by
    have : (18446744073709551616 : Nat) = 2 ^ 64 := by decide
    rw [this]
    exact Nat.pow_dvd_pow 2 (by omega)
  show IntKind.i64.wrap (((BitVec.ofInt 64 x &&& BitVec.ofInt 64 ((2 : Int) ^ j - 1)).toNat : Nat) : Int) = x % 2 ^ j
  rw [BitVec.toNat_and, hb, Nat.and_two_pow_sub_one_eq_mod]
  have e1 : ((((BitVec.ofInt 64 x).toNat % 2 ^ j : Nat)) : Int) = x % 2 ^ j := by
    rw [Int.natCast_emod, ofInt_toNat]
    have : (((2 ^ j : Nat)) : Int) = 2 ^ j := by simp
    rw [this]
    apply Int.emod_emod_of_dvd
    have := Int.ofNat_dvd.2 hd
    simpa using this
  rw [e1]
  have hp : (0 : Int) < 2 ^ j := by
    have := Nat.two_pow_pos j
    have e : ((2 : Int) ^ j) = ((2 ^ j : Nat) : Int) := by simp
    rw [e]; omega
  have h1 := Int.emod_nonneg x (Int.ne_of_gt hp)
  have h2 := Int.emod_lt_of_pos x hp
  have h3 : (2 : Int) ^ j ≤ 4611686018427387904 := by
    have e : ((2 : Int) ^ j) = ((2 ^ j : Nat) : Int) := by simp
    rw [e]
    have : (2 : Nat) ^ 62 = 4611686018427387904 := by decide
    omega
  exact wrap_i64_in _ (by omega) (by omega)

theorem and1023 (x : Int) : bits .and .i64 x 1023 = x % 1024 := and_mask 10 (by omega) x
theorem wrap64_in (n : Int) (h0 : -9223372036854775808 ≤ n) (h1 : n < 9223372036854775808) : wrap64 n = n := by
  unfold wrap64; omega
theorem wrap_u64_mod (n : Int) : IntKind.u64.wrap n = n % 18446744073709551616 := by
  simp [IntKind.wrap, IntKind.bits, IntKind.signed]
/-! the sum's value -/
def F (x : Int) : Int := if x = 0 then 0 else (x - 1) % 65535 + 1
theorem F_step (x : Int) (h : 65536 ≤ x) : F (x % 65536 + x / 65536) = F x := by unfold F; split <;> split <;> omega
/-! words of bytes -/
end Go.Proofs.YtnojgkiaolmoeaaDoor.NumMath
