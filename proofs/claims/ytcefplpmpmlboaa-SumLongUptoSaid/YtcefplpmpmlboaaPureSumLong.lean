/- A text over and over has its sum over and over, for arguments of at most 1048576 values and letters. -/
import Derived.Test.YtcefplpmpmlboaaPSumBx12
import Derived.Test.YtcefplpmpmlboaaNumMath
set_option linter.unusedVariables false
set_option linter.unusedSimpArgs false
namespace Go.Proofs.Ytcefplpmpmlboaa.Pure
open Go.RowKit Go.Proofs.Ytcefplpmpmlboaa.PSumB Go.Proofs.YtcefplpmpmlboaaW.PrintWords Go.Proofs.YtcefplpmpmlboaaW.PrintLast Go.Proofs.YtcefplpmpmlboaaW.PrintMore Go.Proofs.Ytcefplpmpmlboaa.NumMath

/-! the printed functions against the plain ones -/
theorem fold64 (n : Nat) : ∀ (k : Nat) (x : Int), 0 ≤ x → x < 9223372036854775808 → x.toNat ≤ n → n < k → sum_fold_uint64.l0 k x = some (F x) := by
  induction n with
  | zero =>
    intro k x h0 h1 hn hk
    obtain ⟨k, rfl⟩ : ∃ m, k = m + 1 := ⟨k - 1, by omega⟩
    simp only [sum_fold_uint64.l0]
    rw [if_neg (by omega), wrap64_in x (by omega) (by omega), F_small x h0 (by omega)]
  | succ n ih =>
    intro k x h0 h1 hn hk
    obtain ⟨k, rfl⟩ : ∃ m, k = m + 1 := ⟨k - 1, by omega⟩
    simp only [sum_fold_uint64.l0]
    by_cases h : x ≥ 65536
    · rw [if_pos h, tmod_nn _ _ h0, tdiv_nn _ _ h0, wrap_u64_in (x / 65536) (by omega) (by omega), wrap_u64_in _ (by omega) (by omega), ih k _ (by omega) (by omega) (by omega) (by omega), F_step x h]
    · rw [if_neg h, wrap64_in x (by omega) (by omega), F_small x h0 (by omega)]
theorem foldInt (n : Nat) : ∀ (k : Nat) (x : Int), 0 ≤ x → x < 9223372036854775808 → x.toNat ≤ n → n < k → sum_fold_int.l0 k x = some (F x) := by
  induction n with
  | zero =>
    intro k x h0 h1 hn hk
    obtain ⟨k, rfl⟩ : ∃ m, k = m + 1 := ⟨k - 1, by omega⟩
    simp only [sum_fold_int.l0]
    rw [if_neg (by omega), F_small x h0 (by omega)]
  | succ n ih =>
    intro k x h0 h1 hn hk
    obtain ⟨k, rfl⟩ : ∃ m, k = m + 1 := ⟨k - 1, by omega⟩
    simp only [sum_fold_int.l0]
    by_cases h : x ≥ 65536
    · rw [if_pos h, tmod_nn _ _ h0, tdiv_nn _ _ h0, wrap64_in (x / 65536) (by omega) (by omega), wrap64_in _ (by omega) (by omega), ih k _ (by omega) (by omega) (by omega) (by omega), F_step x h]
    · rw [if_neg h, F_small x h0 (by omega)]
theorem bt_get (s : ByteArray) (i : Nat) (h : i < s.data.toList.length) : bt s (i : Int) = ((s.data.toList[i]).toNat : Int) := by
  have h' : i < s.size := by simpa using h
  unfold bt
  rw [dif_pos (by simpa using h')]
  rfl
theorem ws_two (s : ByteArray) (i : Nat) (h : i + 1 < s.data.toList.length) : ws (s.data.toList.drop i) = bt s (i : Int) * 256 + bt s ((i + 1 : Nat) : Int) + ws (s.data.toList.drop (i + 2)) := by
  rw [bt_get s i (by omega), bt_get s (i + 1) h, List.drop_eq_getElem_cons (by omega : i < s.data.toList.length), List.drop_eq_getElem_cons h]
  simp only [ws]
theorem ws_one (s : ByteArray) (i : Nat) (h : i + 1 = s.data.toList.length) : ws (s.data.toList.drop i) = bt s (i : Int) * 256 := by
  rw [bt_get s i (by omega), List.drop_eq_getElem_cons (by omega : i < s.data.toList.length), List.drop_of_length_le (by omega)]
  simp only [ws]
theorem ws_none (s : ByteArray) (i : Nat) (h : s.data.toList.length ≤ i) : ws (s.data.toList.drop i) = 0 := by
  rw [List.drop_of_length_le h]; rfl
theorem sum_loop (s : ByteArray) (hs : s.size ≤ 140737488355328) (d : Nat) : ∀ (k i : Nat) (a : Int), i ≤ s.size + 1 → s.size + 1 - i ≤ d → 0 ≤ a → a + ws (s.data.toList.drop i) < 9223372036854775808 →
    d + 9223372036854775809 ≤ k → sum_Sum.l0 k s a (i : Int) = some (F (a + ws (s.data.toList.drop i))) := by
  have hlen : s.data.toList.length = s.size := by simp
  induction d with
  | zero =>
    intro k i a hi hd ha hb hk
    obtain ⟨k, rfl⟩ : ∃ m, k = m + 1 := ⟨k - 1, by omega⟩
    simp only [sum_Sum.l0]
    rw [if_neg (by omega), ws_none s i (by omega)] at *
    rw [sum_fold_uint64.f, fold64 a.toNat k a ha (by omega) (by omega) (by omega), Int.add_zero]; rfl
  | succ d ih =>
    intro k i a hi hd ha hb hk
    obtain ⟨k, rfl⟩ : ∃ m, k = m + 1 := ⟨k - 1, by omega⟩
    simp only [sum_Sum.l0]
    by_cases h : (i : Int) < (s.size : Int)
    · have r1 := bt_range s (i : Int)
      rw [if_pos h, if_pos (by omega), wrap64_in ((i : Int) + 1) (by omega) (by omega), wrap_u64_in (bt s (i : Int)) (by omega) (by omega), wrap_u64_in (bt s (i : Int) * 256) (by omega) (by omega), wrap64_in ((i : Int) + 2) (by omega) (by omega)]
      by_cases h2 : (i : Int) + 1 < (s.size : Int)
      · have r2 := bt_range s ((i + 1 : Nat) : Int)
        have e := ws_two s i (by omega)
        have w3 := ws_range (s.data.toList.drop (i + 2))
        have ec : ((i : Int) + 1) = ((i + 1 : Nat) : Int) := by omega
        have ec2 : ((i : Int) + 2) = ((i + 2 : Nat) : Int) := by omega
        rw [if_pos h2, if_pos (by omega), ec, ec2, wrap_u64_in (bt s ((i + 1 : Nat) : Int)) (by omega) (by omega), wrap_u64_in (a + bt s (i : Int) * 256) (by omega) (by omega), wrap_u64_in _ (by omega) (by omega),
          ih k (i + 2) _ (by omega) (by omega) (by omega) (by omega) (by omega), e]
        congr 2; omega
      · have e := ws_one s i (by omega)
        have e0 := ws_none s (i + 2) (by omega)
        have ec2 : ((i : Int) + 2) = ((i + 2 : Nat) : Int) := by omega
        rw [if_neg h2, ec2, wrap_u64_in (a + bt s (i : Int) * 256) (by omega) (by omega), ih k (i + 2) _ (by omega) (by omega) (by omega) (by omega) (by omega), e, e0, Int.add_zero]
    · rw [if_neg h]
      rw [ws_none s i (by omega)] at *
      rw [sum_fold_uint64.f, fold64 a.toNat k a ha (by omega) (by omega) (by omega), Int.add_zero]; rfl
theorem sum_f (s : ByteArray) (hs : s.size ≤ 140737488355328) (k : Nat) (hk : 18446744073709551616 ≤ k) : sum_Sum.f k s = some (F (ws s.data.toList)) := by
  have w := ws_range s.data.toList
  have hlen : s.data.toList.length = s.size := by simp
  have := sum_loop s hs (s.size + 1) k 0 0 (by omega) (by omega) (by omega) (by simp; omega) (by omega)
  simpa [sum_Sum.f] using this
theorem add_f (a b : Int) (k : Nat) (hk : 18446744073709551616 ≤ k) : sum_Add.f k a b = some (F (a % 65536 + b % 65536)) := by
  unfold sum_Add.f sum_fold_int.f
  rw [and65535, and65535, wrap64_in _ (by omega) (by omega), foldInt 131072 k _ (by omega) (by omega) (by omega) (by omega)]; rfl
theorem awake_f (k : Nat) (hk : 18446744073709551616 ≤ k) : wharfagelaw1_awake.f k = some true := by
  unfold wharfagelaw1_awake.f wharfagelaw0_Num.f
  rw [sum_f _ (by decide) k hk, sum_f _ (by decide) k hk, sum_f _ (by decide) k hk, add_f _ _ k hk]
  simp [ws, F]
theorem enough : ∃ k : Nat, 18446744073709551616 ≤ k := ⟨_, Nat.le_refl _⟩

theorem even_at (s : ByteArray) (hs : s.size ≤ 140737488351232) : Go.bits .andNot .i64 (s.size : Int) 1 = (((s.size - s.size % 2 : Nat)) : Int) := by
  rw [andNot1 _ (by omega) (by omega)]; omega
theorem long_loop (t : ByteArray) (ht : t.size ≤ 1048576) (hev : t.size % 2 = 0) (many : Int) (d : Nat) :
    ∀ (k i : Nat) (all : ByteArray), 18446744073709551617 + d ≤ k → many % 16 - i ≤ d → i ≤ 16 → all.size ≤ i * 1048576 → all.size % 2 = 0 →
    wharfagelaw1_SumLong.l0 k many t (F (ws t.data.toList)) all (F (ws all.data.toList)) (i : Int) = some true := by
  have htl : t.data.toList.length = t.size := by simp
  have close : ∀ (k : Nat) (all : ByteArray), 18446744073709551616 ≤ k → all.size ≤ 17000000 → ((wharfagelaw0_Num.f 0).bind fun t111 => (if t111 = 0 then ((sum_Sum.f k all).bind fun t112 => (some (t112 == F (ws all.data.toList)))) else (none))) = some true := by
    intro k all hk hz
    rw [sum_f all (by omega) k hk]
    simp [wharfagelaw0_Num.f]
  induction d with
  | zero =>
    intro k i all hk hd hi hz he
    obtain ⟨k, rfl⟩ : ∃ m, k = m + 1 := ⟨k - 1, by omega⟩
    simp only [wharfagelaw1_SumLong.l0]
    rw [and15, if_neg (show ¬ (i : Int) < many % 16 by omega)]
    exact close k all (by omega) (Nat.le_trans hz (Nat.le_trans (Nat.mul_le_mul_right 1048576 hi) (by decide)))
  | succ d ih =>
    intro k i all hk hd hi hz he
    obtain ⟨k, rfl⟩ : ∃ m, k = m + 1 := ⟨k - 1, by omega⟩
    have hal : all.data.toList.length = all.size := by simp
    simp only [wharfagelaw1_SumLong.l0]
    rw [and15]
    by_cases h : (i : Int) < many % 16
    · have fa := F_range (ws all.data.toList)
      have ft := F_range (ws t.data.toList)
      have wa := ws_range all.data.toList
      have wt := ws_range t.data.toList
      rw [if_pos h, if_pos (by omega), add_f _ _ k (by omega), Int.emod_eq_of_lt fa.1 (by omega), Int.emod_eq_of_lt ft.1 (by omega), F_add _ _ wa.1 ft.1, F_add_r _ _ wa.1 wt.1]
      simp only [Option.bind_some]
      rw [wrap64_in _ (by omega) (by omega)]
      have hd2 : (all ++ t).data.toList = all.data.toList ++ t.data.toList := by simp
      have hs2 : (all ++ t).size = all.size + t.size := ByteArray.size_append
      have := ih k (i + 1) (all ++ t) (by omega) (by omega) (by omega) (by omega) (by omega)
      rw [hd2, ws_append _ _ (by omega)] at this
      exact this
    · rw [if_neg h]
      exact close k all (by omega) (Nat.le_trans hz (Nat.le_trans (Nat.mul_le_mul_right 1048576 hi) (by decide)))
theorem SumLong (s : ByteArray) (a : Int) (hs : s.size ≤ 1048576) : ∃ k, wharfagelaw1_SumLong.f k s a = some true := by
  obtain ⟨k, hk⟩ := enough
  refine ⟨k + 20, ?_⟩
  unfold wharfagelaw1_SumLong.f
  rw [awake_f _ (by omega), even_at s (by omega)]
  simp only [Option.bind_some, if_true, Int.toNat_natCast]
  rw [if_pos (by omega), if_pos (by omega)]
  have he : (s.extract 0 (s.size - s.size % 2)).size = s.size - s.size % 2 := by simp <;> omega
  rw [sum_f _ (by omega) _ (by omega)]
  simp only [Option.bind_some]
  have := long_loop (s.extract 0 (s.size - s.size % 2)) (by omega) (by omega) a 16 (k + 20) 0 (⟨#[]⟩ : ByteArray) (by omega) (by omega) (by omega) (Nat.zero_le _) rfl
  simpa [ws, F] using this

end Go.Proofs.Ytcefplpmpmlboaa.Pure
