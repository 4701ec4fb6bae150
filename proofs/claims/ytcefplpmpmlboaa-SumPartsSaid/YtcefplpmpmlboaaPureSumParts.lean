/- A text in two has the sum of both, and its words in any row have its sum. -/
import Derived.Test.YtcefplpmpmlboaaPSumBx11
import Derived.Test.YtcefplpmpmlboaaNumMath
set_option linter.unusedVariables false
set_option linter.unusedSimpArgs false
namespace Go.Proofs.Ytcefplpmpmlboaa.Pure
open Go.RowKit Go.Proofs.Ytcefplpmpmlboaa.PSumB Go.Proofs.YtcefplpmpmlboaaW.PrintWords Go.Proofs.YtcefplpmpmlboaaW.PrintLast Go.Proofs.YtcefplpmpmlboaaW.PrintMore Go.Proofs.Ytcefplpmpmlboaa.NumMath

/-! the printed functions against the plain ones -/
theorem fold64 (n : Nat) : ∀ (k : Nat) (x : Int), 0 ≤ x → x < 9223372036854775808 → x.toNat ≤ n → n < k → sum_fold_uint64.l0 k x = some (F x) := by
  induction n with
  | zero =>
    intro k x h0 h1 hn hk
    obtain ⟨k, rfl⟩ : ∃ m, k = m + 1 := ⟨k - 1, by omega⟩
    simp only [sum_fold_uint64.l0]
    rw [if_neg (by omega), wrap64_in x (by omega) (by omega), F_small x h0 (by omega)]
  | succ n ih =>
    intro k x h0 h1 hn hk
    obtain ⟨k, rfl⟩ : ∃ m, k = m + 1 := ⟨k - 1, by omega⟩
    simp only [sum_fold_uint64.l0]
    by_cases h : x ≥ 65536
    · rw [if_pos h, tmod_nn _ _ h0, tdiv_nn _ _ h0, wrap_u64_in (x / 65536) (by omega) (by omega), wrap_u64_in _ (by omega) (by omega), ih k _ (by omega) (by omega) (by omega) (by omega), F_step x h]
    · rw [if_neg h, wrap64_in x (by omega) (by omega), F_small x h0 (by omega)]
theorem foldInt (n : Nat) : ∀ (k : Nat) (x : Int), 0 ≤ x → x < 9223372036854775808 → x.toNat ≤ n → n < k → sum_fold_int.l0 k x = some (F x) := by
  induction n with
  | zero =>
    intro k x h0 h1 hn hk
    obtain ⟨k, rfl⟩ : ∃ m, k = m + 1 := ⟨k - 1, by omega⟩
    simp only [sum_fold_int.l0]
    rw [if_neg (by omega), F_small x h0 (by omega)]
  | succ n ih =>
    intro k x h0 h1 hn hk
    obtain ⟨k, rfl⟩ : ∃ m, k = m + 1 := ⟨k - 1, by omega⟩
    simp only [sum_fold_int.l0]
    by_cases h : x ≥ 65536
    · rw [if_pos h, tmod_nn _ _ h0, tdiv_nn _ _ h0, wrap64_in (x / 65536) (by omega) (by omega), wrap64_in _ (by omega) (by omega), ih k _ (by omega) (by omega) (by omega) (by omega), F_step x h]
    · rw [if_neg h, F_small x h0 (by omega)]
theorem bt_get (s : ByteArray) (i : Nat) (h : i < s.data.toList.length) : bt s (i : Int) = ((s.data.toList[i]).toNat : Int) := by
  have h' : i < s.size := by simpa using h
  unfold bt
  rw [dif_pos (by simpa using h')]
  rfl
theorem ws_two (s : ByteArray) (i : Nat) (h : i + 1 < s.data.toList.length) : ws (s.data.toList.drop i) = bt s (i : Int) * 256 + bt s ((i + 1 : Nat) : Int) + ws (s.data.toList.drop (i + 2)) := by
  rw [bt_get s i (by omega), bt_get s (i + 1) h, List.drop_eq_getElem_cons (by omega : i < s.data.toList.length), List.drop_eq_getElem_cons h]
  simp only [ws]
theorem ws_one (s : ByteArray) (i : Nat) (h : i + 1 = s.data.toList.length) : ws (s.data.toList.drop i) = bt s (i : Int) * 256 := by
  rw [bt_get s i (by omega), List.drop_eq_getElem_cons (by omega : i < s.data.toList.length), List.drop_of_length_le (by omega)]
  simp only [ws]
theorem ws_none (s : ByteArray) (i : Nat) (h : s.data.toList.length ≤ i) : ws (s.data.toList.drop i) = 0 := by
  rw [List.drop_of_length_le h]; rfl
theorem sum_loop (s : ByteArray) (hs : s.size ≤ 140737488355328) (d : Nat) : ∀ (k i : Nat) (a : Int), i ≤ s.size + 1 → s.size + 1 - i ≤ d → 0 ≤ a → a + ws (s.data.toList.drop i) < 9223372036854775808 →
    d + 9223372036854775809 ≤ k → sum_Sum.l0 k s a (i : Int) = some (F (a + ws (s.data.toList.drop i))) := by
  have hlen : s.data.toList.length = s.size := by simp
  induction d with
  | zero =>
    intro k i a hi hd ha hb hk
    obtain ⟨k, rfl⟩ : ∃ m, k = m + 1 := ⟨k - 1, by omega⟩
    simp only [sum_Sum.l0]
    rw [if_neg (by omega), ws_none s i (by omega)] at *
    rw [sum_fold_uint64.f, fold64 a.toNat k a ha (by omega) (by omega) (by omega), Int.add_zero]; rfl
  | succ d ih =>
    intro k i a hi hd ha hb hk
    obtain ⟨k, rfl⟩ : ∃ m, k = m + 1 := ⟨k - 1, by omega⟩
    simp only [sum_Sum.l0]
    by_cases h : (i : Int) < (s.size : Int)
    · have r1 := bt_range s (i : Int)
      rw [if_pos h, if_pos (by omega), wrap64_in ((i : Int) + 1) (by omega) (by omega), wrap_u64_in (bt s (i : Int)) (by omega) (by omega), wrap_u64_in (bt s (i : Int) * 256) (by omega) (by omega), wrap64_in ((i : Int) + 2) (by omega) (by omega)]
      by_cases h2 : (i : Int) + 1 < (s.size : Int)
      · have r2 := bt_range s ((i + 1 : Nat) : Int)
        have e := ws_two s i (by omega)
        have w3 := ws_range (s.data.toList.drop (i + 2))
        have ec : ((i : Int) + 1) = ((i + 1 : Nat) : Int) := by omega
        have ec2 : ((i : Int) + 2) = ((i + 2 : Nat) : Int) := by omega
        rw [if_pos h2, if_pos (by omega), ec, ec2, wrap_u64_in (bt s ((i + 1 : Nat) : Int)) (by omega) (by omega), wrap_u64_in (a + bt s (i : Int) * 256) (by omega) (by omega), wrap_u64_in _ (by omega) (by omega),
          ih k (i + 2) _ (by omega) (by omega) (by omega) (by omega) (by omega), e]
        congr 2; omega
      · have e := ws_one s i (by omega)
        have e0 := ws_none s (i + 2) (by omega)
        have ec2 : ((i : Int) + 2) = ((i + 2 : Nat) : Int) := by omega
        rw [if_neg h2, ec2, wrap_u64_in (a + bt s (i : Int) * 256) (by omega) (by omega), ih k (i + 2) _ (by omega) (by omega) (by omega) (by omega) (by omega), e, e0, Int.add_zero]
    · rw [if_neg h]
      rw [ws_none s i (by omega)] at *
      rw [sum_fold_uint64.f, fold64 a.toNat k a ha (by omega) (by omega) (by omega), Int.add_zero]; rfl
theorem sum_f (s : ByteArray) (hs : s.size ≤ 140737488355328) (k : Nat) (hk : 18446744073709551616 ≤ k) : sum_Sum.f k s = some (F (ws s.data.toList)) := by
  have w := ws_range s.data.toList
  have hlen : s.data.toList.length = s.size := by simp
  have := sum_loop s hs (s.size + 1) k 0 0 (by omega) (by omega) (by omega) (by simp; omega) (by omega)
  simpa [sum_Sum.f] using this
theorem add_f (a b : Int) (k : Nat) (hk : 18446744073709551616 ≤ k) : sum_Add.f k a b = some (F (a % 65536 + b % 65536)) := by
  unfold sum_Add.f sum_fold_int.f
  rw [and65535, and65535, wrap64_in _ (by omega) (by omega), foldInt 131072 k _ (by omega) (by omega) (by omega) (by omega)]; rfl
theorem awake_f (k : Nat) (hk : 18446744073709551616 ≤ k) : wharfagelaw1_awake.f k = some true := by
  unfold wharfagelaw1_awake.f wharfagelaw0_Num.f
  rw [sum_f _ (by decide) k hk, sum_f _ (by decide) k hk, sum_f _ (by decide) k hk, add_f _ _ k hk]
  simp [ws, F]
theorem enough : ∃ k : Nat, 18446744073709551616 ≤ k := ⟨_, Nat.le_refl _⟩

theorem even_at (s : ByteArray) (hs : s.size ≤ 140737488351232) : Go.bits .andNot .i64 (s.size : Int) 1 = (((s.size - s.size % 2 : Nat)) : Int) := by
  rw [andNot1 _ (by omega) (by omega)]; omega
theorem ext_take (s : ByteArray) (n : Nat) : (s.extract 0 n).data.toList = s.data.toList.take n := by
  simp [ByteArray.data_extract]
theorem ext_drop (s : ByteArray) (n : Nat) : (s.extract n s.size).data.toList = s.data.toList.drop n := by
  rw [ByteArray.data_extract]
  simp
  rw [List.take_of_length_le (by simp)]
theorem ext_mid (s : ByteArray) (i j : Nat) : (s.extract i j).data.toList = (s.data.toList.take j).drop i := by
  rw [ByteArray.data_extract]
  simp [List.drop_take]
theorem parts_loop (s e : ByteArray) (hs : s.size ≤ 140737488351232) (he : e.size ≤ s.size) (hev : e.size % 2 = 0) (c : Nat) (hc : c ≤ s.size) (hc2 : c % 2 = 0) (m : Nat) :
    ∀ (k : Nat) (t : ByteArray), 18446744073709551617 + m ≤ k → t.size + 2 * m = e.size → ws t.data.toList + ws (e.data.toList.take (2 * m)) = ws e.data.toList →
    wharfagelaw1_SumParts.l0 k s (c : Int) (F (ws s.data.toList)) e t ((2 * m : Nat) : Int) = some true := by
  have hsl : s.data.toList.length = s.size := by simp
  have hel : e.data.toList.length = e.size := by simp
  induction m with
  | zero =>
    intro k t hk hsz hws
    obtain ⟨k, rfl⟩ : ∃ m, k = m + 1 := ⟨k - 1, by omega⟩
    have fr := F_range (ws s.data.toList)
    simp only [wharfagelaw1_SumParts.l0]
    rw [if_neg (by omega), if_pos (by omega), if_pos (by omega)]
    simp only [Int.toNat_natCast]
    have e1 : (s.extract 0 c).size ≤ 140737488351232 := by simp <;> omega
    have e2 : (s.extract c s.size).size ≤ 140737488351232 := by simp <;> omega
    have hws' : ws t.data.toList = ws e.data.toList := by simpa [ws] using hws
    have fa := F_range (ws (s.data.toList.take c))
    have fb := F_range (ws (s.data.toList.drop c))
    have wa := ws_range (s.data.toList.take c)
    have wb := ws_range (s.data.toList.drop c)
    have hw : ws (s.data.toList.take c) + ws (s.data.toList.drop c) = ws s.data.toList := by
      rw [← ws_append _ _ (by rw [List.length_take]; omega), List.take_append_drop]
    have hz : (s ++ (⟨#[0]⟩ : ByteArray)).data.toList = s.data.toList ++ [0] := by simp
    have hzs : (s ++ (⟨#[0]⟩ : ByteArray)).size = s.size + 1 := by rw [ByteArray.size_append]; rfl
    rw [sum_f (s.extract 0 c) (by omega) k (by omega), sum_f (s.extract c s.size) (by omega) k (by omega), sum_f t (by omega) k (by omega), sum_f e (by omega) k (by omega), sum_f (s ++ (⟨#[0]⟩ : ByteArray)) (by omega) k (by omega), ext_take, ext_drop, hws', hz, ws_zero]
    simp only [Option.bind_some, if_true]
    rw [add_f _ _ k (by omega)]
    have ead : F (F (ws (s.data.toList.take c)) % 65536 + F (ws (s.data.toList.drop c)) % 65536) = F (ws s.data.toList) := by
      rw [Int.emod_eq_of_lt fa.1 (by omega), Int.emod_eq_of_lt fb.1 (by omega), F_add _ _ wa.1 fb.1, F_add_r _ _ wa.1 wb.1, hw]
    simp only [Option.bind_some]
    rw [if_pos ead, if_pos fr.1, if_pos fr.2, if_pos (by omega)]
    simp
  | succ m ih =>
    intro k t hk hsz hws
    obtain ⟨k, rfl⟩ : ∃ m, k = m + 1 := ⟨k - 1, by omega⟩
    simp only [wharfagelaw1_SumParts.l0]
    have ei : wrap64 (((2 * (m + 1) : Nat) : Int) - 2) = ((2 * m : Nat) : Int) := by rw [wrap64_in _ (by omega) (by omega)]; omega
    rw [if_pos (by omega), ei, if_pos (by omega), if_pos (by omega), if_pos (by omega)]
    simp only [Int.toNat_natCast]
    have hg : (e.extract (2 * m) (2 * (m + 1))).size = 2 := by simp <;> omega
    have hgl : (e.extract (2 * m) (2 * (m + 1))).data.toList = (e.data.toList.take (2 * (m + 1))).drop (2 * m) := ext_mid e _ _
    have htl : t.data.toList.length = t.size := by simp
    have hsz2 : (t ++ e.extract (2 * m) (2 * (m + 1))).size = t.size + 2 := by rw [ByteArray.size_append, hg]
    rw [if_pos (by omega)]
    refine ih k _ (by omega) (by omega) ?_
    have hd : (t ++ e.extract (2 * m) (2 * (m + 1))).data.toList = t.data.toList ++ (e.extract (2 * m) (2 * (m + 1))).data.toList := by simp
    rw [hd, ws_append _ _ (by omega), hgl]
    have ht : e.data.toList.take (2 * (m + 1)) = e.data.toList.take (2 * m) ++ (e.data.toList.take (2 * (m + 1))).drop (2 * m) := by
      have h0 : e.data.toList.take (2 * m) = (e.data.toList.take (2 * (m + 1))).take (2 * m) := by
        rw [List.take_take, Nat.min_eq_left (by omega)]
      rw [h0, List.take_append_drop]
    have h2 : ws (e.data.toList.take (2 * (m + 1))) = ws (e.data.toList.take (2 * m)) + ws ((e.data.toList.take (2 * (m + 1))).drop (2 * m)) := by
      have hle : (e.data.toList.take (2 * m)).length % 2 = 0 := by rw [List.length_take]; omega
      have := ws_append (e.data.toList.take (2 * m)) ((e.data.toList.take (2 * (m + 1))).drop (2 * m)) hle
      rw [← this, ← ht]
    omega
theorem SumParts : wharfagelaw1_SumParts.Pure := by
  intro s a hs ha
  obtain ⟨k, hk⟩ : ∃ k : Nat, 18446744073709551616 + 140737488351236 ≤ k := ⟨_, Nat.le_refl _⟩
  refine ⟨k, ?_⟩
  have hsl : s.data.toList.length = s.size := by simp
  unfold wharfagelaw1_SumParts.f
  rw [awake_f _ (by omega), even_at s hs, wrap64_in ((s.size : Int) + 1) (by omega) (by omega), wrap_u64_in ((s.size : Int) + 1) (by omega) (by omega), wrap_u64_mod]
  simp only [Option.bind_some, if_true]
  have hr := Int.emod_nonneg (a % 18446744073709551616) (show ((s.size : Int) + 1) ≠ 0 by omega)
  have hr2 := Int.emod_lt_of_pos (a % 18446744073709551616) (show 0 < ((s.size : Int) + 1) by omega)
  rw [if_neg (by omega), sum_f s (by omega) _ (by omega), tmod_nn _ _ (by omega), wrap64_in _ (by omega) (by omega), andNot1 _ hr (by omega)]
  simp only [Option.bind_some, Int.toNat_natCast]
  rw [if_pos (by omega), if_pos (by omega)]
  generalize hq : a % 18446744073709551616 % ((s.size : Int) + 1) = q at *
  have he : (s.extract 0 (s.size - s.size % 2)).size = s.size - s.size % 2 := by simp <;> omega
  have hc : q - q % 2 = (((q - q % 2).toNat : Nat) : Int) := by omega
  rw [hc, show ((s.extract 0 (s.size - s.size % 2)).size : Int) = ((2 * ((s.size - s.size % 2) / 2) : Nat) : Int) from by rw [he]; omega]
  refine parts_loop s _ hs (by omega) (by omega) _ (by omega) (by omega) _ _ _ (by omega) ?_ ?_
  · show 0 + 2 * ((s.size - s.size % 2) / 2) = _
    omega
  · rw [List.take_of_length_le]
    · show ws [] + _ = _
      simp [ws]
    · rw [Array.length_toList]; show (s.extract 0 (s.size - s.size % 2)).size ≤ _; omega

end Go.Proofs.Ytcefplpmpmlboaa.Pure
