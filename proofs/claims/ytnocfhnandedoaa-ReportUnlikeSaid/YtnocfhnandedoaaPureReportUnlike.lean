/- Unlike reports have unlike bytes. -/
import Derived.Test.YtnocfhnandedoaaPReportx22
import Derived.Test.YtnocfhnandedoaaOpenReportUnlike
import Derived.Test.YtnocfhnandedoaaNumMath
set_option linter.unusedVariables false
set_option linter.unusedSimpArgs false
namespace Go.Proofs.Ytnocfhnandedoaa.Pure
open Go.RowKit Go.Proofs.Ytnocfhnandedoaa.PReport Go.Proofs.YtnocfhnandedoaaW.PrintWords Go.Proofs.YtnocfhnandedoaaW.PrintLast Go.Proofs.YtnocfhnandedoaaW.PrintMore Go.Proofs.Ytnocfhnandedoaa.NumMath

/-! the printed functions against the plain ones -/
theorem fold64 (n : Nat) : ∀ (k : Nat) (x : Int), 0 ≤ x → x < 9223372036854775808 → x.toNat ≤ n → n < k → sum_fold_uint64.l0 k x = some (F x) := by
  induction n with
  | zero =>
    intro k x h0 h1 hn hk
    obtain ⟨k, rfl⟩ : ∃ m, k = m + 1 := ⟨k - 1, by omega⟩
    simp only [sum_fold_uint64.l0]
    rw [if_neg (by omega), wrap64_in x (by omega) (by omega), F_small x h0 (by omega)]
  | succ n ih =>
    intro k x h0 h1 hn hk
    obtain ⟨k, rfl⟩ : ∃ m, k = m + 1 := ⟨k - 1, by omega⟩
    simp only [sum_fold_uint64.l0]
    by_cases h : x ≥ 65536
    · rw [if_pos h, tmod_nn _ _ h0, tdiv_nn _ _ h0, wrap_u64_in (x / 65536) (by omega) (by omega), wrap_u64_in _ (by omega) (by omega), ih k _ (by omega) (by omega) (by omega) (by omega), F_step x h]
    · rw [if_neg h, wrap64_in x (by omega) (by omega), F_small x h0 (by omega)]
theorem bt_get (s : ByteArray) (i : Nat) (h : i < s.data.toList.length) : bt s (i : Int) = ((s.data.toList[i]).toNat : Int) := by
  have h' : i < s.size := by simpa using h
  unfold bt
  rw [dif_pos (by simpa using h')]
  rfl
theorem ws_two (s : ByteArray) (i : Nat) (h : i + 1 < s.data.toList.length) : ws (s.data.toList.drop i) = bt s (i : Int) * 256 + bt s ((i + 1 : Nat) : Int) + ws (s.data.toList.drop (i + 2)) := by
  rw [bt_get s i (by omega), bt_get s (i + 1) h, List.drop_eq_getElem_cons (by omega : i < s.data.toList.length), List.drop_eq_getElem_cons h]
  simp only [ws]
theorem ws_one (s : ByteArray) (i : Nat) (h : i + 1 = s.data.toList.length) : ws (s.data.toList.drop i) = bt s (i : Int) * 256 := by
  rw [bt_get s i (by omega), List.drop_eq_getElem_cons (by omega : i < s.data.toList.length), List.drop_of_length_le (by omega)]
  simp only [ws]
theorem ws_none (s : ByteArray) (i : Nat) (h : s.data.toList.length ≤ i) : ws (s.data.toList.drop i) = 0 := by
  rw [List.drop_of_length_le h]; rfl
theorem sum_loop (s : ByteArray) (hs : s.size ≤ 140737488355328) (d : Nat) : ∀ (k i : Nat) (a : Int), i ≤ s.size + 1 → s.size + 1 - i ≤ d → 0 ≤ a → a + ws (s.data.toList.drop i) < 9223372036854775808 →
    d + 9223372036854775809 ≤ k → sum_Sum.l0 k s a (i : Int) = some (F (a + ws (s.data.toList.drop i))) := by
  have hlen : s.data.toList.length = s.size := by simp
  induction d with
  | zero =>
    intro k i a hi hd ha hb hk
    obtain ⟨k, rfl⟩ : ∃ m, k = m + 1 := ⟨k - 1, by omega⟩
    simp only [sum_Sum.l0]
    rw [if_neg (by omega), ws_none s i (by omega)] at *
    rw [sum_fold_uint64.f, fold64 a.toNat k a ha (by omega) (by omega) (by omega), Int.add_zero]; rfl
  | succ d ih =>
    intro k i a hi hd ha hb hk
    obtain ⟨k, rfl⟩ : ∃ m, k = m + 1 := ⟨k - 1, by omega⟩
    simp only [sum_Sum.l0]
    by_cases h : (i : Int) < (s.size : Int)
    · have r1 := bt_range s (i : Int)
      rw [if_pos h, if_pos (by omega), wrap64_in ((i : Int) + 1) (by omega) (by omega), wrap_u64_in (bt s (i : Int)) (by omega) (by omega), wrap_u64_in (bt s (i : Int) * 256) (by omega) (by omega), wrap64_in ((i : Int) + 2) (by omega) (by omega)]
      by_cases h2 : (i : Int) + 1 < (s.size : Int)
      · have r2 := bt_range s ((i + 1 : Nat) : Int)
        have e := ws_two s i (by omega)
        have w3 := ws_range (s.data.toList.drop (i + 2))
        have ec : ((i : Int) + 1) = ((i + 1 : Nat) : Int) := by omega
        have ec2 : ((i : Int) + 2) = ((i + 2 : Nat) : Int) := by omega
        rw [if_pos h2, if_pos (by omega), ec, ec2, wrap_u64_in (bt s ((i + 1 : Nat) : Int)) (by omega) (by omega), wrap_u64_in (a + bt s (i : Int) * 256) (by omega) (by omega), wrap_u64_in _ (by omega) (by omega),
          ih k (i + 2) _ (by omega) (by omega) (by omega) (by omega) (by omega), e]
        congr 2; omega
      · have e := ws_one s i (by omega)
        have e0 := ws_none s (i + 2) (by omega)
        have ec2 : ((i : Int) + 2) = ((i + 2 : Nat) : Int) := by omega
        rw [if_neg h2, ec2, wrap_u64_in (a + bt s (i : Int) * 256) (by omega) (by omega), ih k (i + 2) _ (by omega) (by omega) (by omega) (by omega) (by omega), e, e0, Int.add_zero]
    · rw [if_neg h]
      rw [ws_none s i (by omega)] at *
      rw [sum_fold_uint64.f, fold64 a.toNat k a ha (by omega) (by omega) (by omega), Int.add_zero]; rfl
theorem sum_f (s : ByteArray) (hs : s.size ≤ 140737488355328) (k : Nat) (hk : 18446744073709551616 ≤ k) : sum_Sum.f k s = some (F (ws s.data.toList)) := by
  have w := ws_range s.data.toList
  have hlen : s.data.toList.length = s.size := by simp
  have := sum_loop s hs (s.size + 1) k 0 0 (by omega) (by omega) (by omega) (by simp; omega) (by omega)
  simpa [sum_Sum.f] using this
theorem enough : ∃ k : Nat, 18446744073709551616 ≤ k := ⟨_, Nat.le_refl _⟩

theorem in_any (x : Int) (b n : Nat) (hb : b ≤ 64) (hn : 2 ^ b = n) : ip_In.f x (b : Int) = some (decide (0 ≤ x ∧ x < (n : Int))) := by
  unfold ip_In.f
  by_cases h : x ≥ 0
  · rw [if_pos h, if_pos (by omega)]
    have hn0 : 0 < n := by rw [← hn]; exact Nat.two_pow_pos b
    have e : shr .i64 x (b : Int) = x / (n : Int) := by
      unfold shr
      rw [Int.toNat_natCast, Nat.min_eq_left (by simpa [IntKind.bits] using hb), ← hn]
      simp
    rw [e]; congr 1
    rw [Bool.eq_iff_iff]
    simp only [beq_iff_eq, decide_eq_true_eq]
    constructor
    · intro hz
      refine ⟨h, ?_⟩
      have := Int.lt_ediv_add_one_mul_self x (show (0 : Int) < n by omega)
      rw [hz] at this
      omega
    · rintro ⟨_, hlt⟩
      exact Int.ediv_eq_zero_of_lt h hlt
  · rw [if_neg h]; congr 1; simp; omega
theorem in8 (x : Int) : ip_In.f x 8 = some (decide (0 ≤ x ∧ x < 256)) := in_any x 8 256 (by decide) (by decide)
def Rm (a b c d : Int) : Prop := (0 ≤ a ∧ a < 3) ∧ (0 ≤ b ∧ b < 65536) ∧ (0 ≤ c ∧ c < 256) ∧ (0 ≤ d ∧ d < 256)
instance (a b c d : Int) : Decidable (Rm a b c d) := by unfold Rm; infer_instance
theorem site_f (a : Int) : report_Site.f a = some (decide (0 ≤ a ∧ a < 3)) := by
  unfold report_Site.f
  by_cases h : a ≥ 0
  · rw [if_pos h]; congr 1; simp; omega
  · rw [if_neg h]; congr 1; simp; omega
theorem serial_f (a : Int) : report_serial.f a = some (decide (0 ≤ a ∧ a < 65536)) := by
  unfold report_serial.f
  by_cases h : a ≥ 0
  · rw [if_pos h]; congr 1; simp; omega
  · rw [if_neg h]; congr 1; simp; omega
theorem may_f (a b c d : Int) : report_May.f a b c d = some (decide (Rm a b c d)) := by
  unfold report_May.f
  rw [site_f, serial_f, in8, in8]
  simp only [Option.bind_some]
  by_cases h1 : 0 ≤ a ∧ a < 3 <;> by_cases h2 : 0 ≤ b ∧ b < 65536 <;> by_cases h3 : 0 ≤ c ∧ c < 256 <;> by_cases h4 : 0 ≤ d ∧ d < 256 <;> simp [Rm, h1, h2, h3, h4]
theorem num_f (a : Int) : wharfagelaw0_Num.f a = some a := rfl
theorem son_append (l r : List Int) : strOfNums l ++ strOfNums r = strOfNums (l ++ r) := by
  apply ByteArray.ext
  apply Array.toList_inj.mp
  simp [strOfNums]
theorem w_0 : wrap64 0 = 0 := wrap64_in _ (by omega) (by omega)
theorem w_1 : wrap64 1 = 1 := wrap64_in _ (by omega) (by omega)
theorem w_8 : wrap64 8 = 8 := wrap64_in _ (by omega) (by omega)
theorem w_m : wrap64 (-1) = -1 := wrap64_in _ (by omega) (by omega)
theorem bytes1 (x : Int) (k : Nat) (hk : 3 < k) : ip_Bytes.f k x 1 = some (strOfNums [x % 256]) := by
  obtain ⟨k, rfl⟩ : ∃ m, k = m + 2 := ⟨k - 2, by omega⟩
  simp [ip_Bytes.f, ip_Bytes.l0, w_0, w_m]
theorem bytes2 (x : Int) (k : Nat) (hk : 3 < k) : ip_Bytes.f k x 2 = some (strOfNums [x / 256 % 256, x % 256]) := by
  obtain ⟨k, rfl⟩ : ∃ m, k = m + 3 := ⟨k - 3, by omega⟩
  simp [ip_Bytes.f, ip_Bytes.l0, w_0, w_1, w_m, List.replicate]
/-- the five bytes ahead of the sum's -/
def five (a b c d : Int) : List Int := [a, b / 256, b % 256, c, d]
def sumOf (a b c d : Int) : Int := F (ws (strOfNums (five a b c d)).data.toList)
def text (a b c d : Int) : ByteArray := strOfNums [a, b / 256, b % 256, c, d, 255 - sumOf a b c d % 256]
theorem xor255 : ∀ x : Fin 256, Go.bits .xor .u8 255 (x.val : Int) = 255 - (x.val : Int) := by decide +kernel
theorem xor_f (x : Int) : Go.bits .xor .u8 255 (x % 256) = 255 - x % 256 := by
  obtain ⟨a, ha⟩ := Int.eq_ofNat_of_zero_le (show 0 ≤ x % 256 by omega)
  rw [ha]
  exact xor255 ⟨a, by omega⟩
theorem put_in (a b c d : Int) (h : Rm a b c d) (k : Nat) (hk : 18446744073709551616 ≤ k) : report_Put.f k a b c d = some (text a b c d, 0) := by
  unfold report_Put.f
  rw [may_f, decide_eq_true h]
  obtain ⟨ha, hb, hc, hd⟩ := h
  rw [bytes1 a k (by omega), bytes2 b k (by omega), bytes1 c k (by omega), bytes1 d k (by omega), Int.emod_eq_of_lt ha.1 (by omega), Int.emod_eq_of_lt (show 0 ≤ b / 256 by omega) (by omega), Int.emod_eq_of_lt hc.1 hc.2, Int.emod_eq_of_lt hd.1 hd.2]
  simp only [Option.bind_some, if_true, son_append, strOfNums_size, List.cons_append, List.nil_append, List.length_cons, List.length_nil]
  rw [if_pos (by decide), if_pos (by decide), if_pos (by decide), sum_f _ (by rw [strOfNums_size]; simp) k hk]
  simp only [Option.bind_some, xor_f]
  rw [if_pos (by decide)]
  rfl
theorem put_out (a b c d : Int) (h : ¬ Rm a b c d) (k : Nat) : report_Put.f k a b c d = some ((⟨#[]⟩ : ByteArray), 700) := by
  unfold report_Put.f
  rw [may_f, decide_eq_false h]; rfl
theorem put_some (a b c d : Int) (k : Nat) (hk : 18446744073709551616 ≤ k) : ∃ r, report_Put.f k a b c d = some r := by
  by_cases h : Rm a b c d
  · exact ⟨_, put_in a b c d h k hk⟩
  · exact ⟨_, put_out a b c d h k⟩
theorem awake_f (k : Nat) (hk : 18446744073709551616 ≤ k) : wharfagelaw7_awake.f k = some true :=
  at_rounds wharfagelaw7_awake.mono (k := 300) (by omega) (by decide +kernel)
theorem newer_in (a b : Int) (ha : 0 ≤ a ∧ a < 65536) (hb : 0 ≤ b ∧ b < 65536) : report_Newer.f a b = some (decide (1 ≤ (a - b + 65536) % 65536 ∧ (a - b + 65536) % 65536 < 32768), 0) := by
  unfold report_Newer.f
  rw [serial_f, serial_f, decide_eq_true ha, decide_eq_true hb]
  simp only [Option.bind_some, if_true]
  rw [wrap64_in (a - b) (by omega) (by omega), wrap64_in (a - b + 65536) (by omega) (by omega), tmod_nn _ _ (by omega)]
  by_cases h : (a - b + 65536) % 65536 ≥ 1
  · rw [if_pos h]; congr 2; simp; omega
  · rw [if_neg h]; congr 2; simp; omega
theorem newer_out (a b : Int) (h : ¬ ((0 ≤ a ∧ a < 65536) ∧ (0 ≤ b ∧ b < 65536))) : report_Newer.f a b = some (false, 700) := by
  unfold report_Newer.f
  rw [serial_f, serial_f]
  by_cases h1 : 0 ≤ a ∧ a < 65536
  · have h2 : ¬ (0 ≤ b ∧ b < 65536) := fun h2 => h ⟨h1, h2⟩
    rw [decide_eq_true h1, decide_eq_false h2]; rfl
  · rw [decide_eq_false h1]; rfl
/-! reading the bytes back -/
theorem bt_son (l : List Int) (i : Nat) (h : i < l.length) (hr : 0 ≤ l[i] ∧ l[i] < 256) : bt (strOfNums l) (i : Int) = l[i] := by
  rw [bt_get (strOfNums l) i (by rw [strOfNums_data]; simpa using h)]
  simp only [strOfNums_data, List.getElem_map, UInt8.toNat_ofNat']
  omega
theorem two62 : (2 : Int) ^ 62 = 4611686018427387904 := by decide
theorem two8 : (2 : Int) ^ 8 = 256 := by decide
theorem or_join (x y : Int) (hx : 0 ≤ x ∧ x < 1099511627776) (hy : 0 ≤ y ∧ y < 256) : Go.bits .or .i64 (x * 256) y = x * 256 + y :=
  bits_join .i64 62 (by decide) (fun n h0 h1 => by rw [two62] at h1; rw [IntKind.wrap_i64]; omega) 8 (x * 256) y (by omega) (by rw [two8]; omega) (by rw [two62]; omega) hy.1 (by rw [two8]; omega) (by rw [two62]; omega)
theorem number2 (t : ByteArray) (ht : t.size = 2) (k : Nat) (hk : 4 < k) : ip_Number.f k t = some (bt t 0 * 256 + bt t 1) := by
  obtain ⟨k, rfl⟩ : ∃ m, k = m + 3 := ⟨k - 3, by omega⟩
  have r0 := bt_range t 0
  have r1 := bt_range t 1
  have w0 : wrap64 (0 * 256) = 0 * 256 := wrap64_in _ (by omega) (by omega)
  have w1 : wrap64 (0 + 1) = 1 := wrap64_in _ (by omega) (by omega)
  have w2 : wrap64 (1 + 1) = 2 := wrap64_in _ (by omega) (by omega)
  have w3 : wrap64 (bt t 0) = bt t 0 := wrap64_in _ (by omega) (by omega)
  have w4 : wrap64 (bt t 1) = bt t 1 := wrap64_in _ (by omega) (by omega)
  have w5 : wrap64 (bt t 0 * 256) = bt t 0 * 256 := wrap64_in _ (by omega) (by omega)
  have o1 : Go.bits .or .i64 (0 * 256) (bt t 0) = bt t 0 := by rw [or_join 0 _ (by omega) (by omega)]; omega
  have o2 := or_join (bt t 0) (bt t 1) (by omega) (by omega)
  simp only [ip_Number.f, ip_Number.l0, ht]
  rw [if_pos (by decide), if_pos (by decide), if_pos (by decide), w0, w1, w2, w3, w4, o1, w5, o2, if_pos (by decide), if_pos (by decide), if_pos (by decide), if_neg (by decide)]
theorem get_short (s : ByteArray) (h : ¬ s.size = 6) (k : Nat) : report_Get.f k s = some (0, 0, 0, 0, 700) := by
  unfold report_Get.f
  rw [if_neg (by omega)]
theorem get_six (s : ByteArray) (h : s.size = 6) (k : Nat) (hk : 18446744073709551616 ≤ k) : report_Get.f k s = (report_Put.f k (bt s 0) (bt s 1 * 256 + bt s 2) (bt s 3) (bt s 4)).bind fun bt140 => (if bt140.2 = 0 then (if bt140.1.toList = s.toList then (some (bt s 0, bt s 1 * 256 + bt s 2, bt s 3, bt s 4, 0)) else (some (0, 0, 0, 0, 700))) else (some (0, 0, 0, 0, 700))) := by
  have r0 := bt_range s 0
  have r3 := bt_range s 3
  have r4 := bt_range s 4
  have hx : (s.extract 1 3).size = 2 := by simp [h]
  have hl : s.data.toList.length = 6 := by simpa using h
  have hxl : (s.extract 1 3).data.toList.length = 2 := by rw [Array.length_toList]; exact hx
  have e1 : bt (s.extract 1 3) 0 = bt s 1 := by
    rw [show (0 : Int) = ((0 : Nat) : Int) from rfl, show (1 : Int) = ((1 : Nat) : Int) from rfl, bt_get _ 0 (by omega), bt_get s 1 (by omega)]
    congr 2
    simp [ByteArray.data_extract]
  have e2 : bt (s.extract 1 3) 1 = bt s 2 := by
    rw [show (1 : Int) = ((1 : Nat) : Int) from rfl, show (2 : Int) = ((2 : Nat) : Int) from rfl, bt_get _ 1 (by omega), bt_get s 2 (by omega)]
    congr 2
    simp [ByteArray.data_extract]
  unfold report_Get.f
  rw [if_pos (by omega), if_pos (by omega), if_pos (by decide), if_pos (by omega), number2 _ hx k (by omega), e1, e2]
  simp only [Option.bind_some]
  rw [if_pos (by omega), if_pos (by omega), wrap64_in (bt s 0) (by omega) (by omega), wrap64_in (bt s 3) (by omega) (by omega), wrap64_in (bt s 4) (by omega) (by omega)]
theorem get_some (s : ByteArray) (k : Nat) (hk : 18446744073709551616 ≤ k) : ∃ r, report_Get.f k s = some r := by
  by_cases h : s.size = 6
  · rw [get_six s h k hk]
    obtain ⟨r, hr⟩ := put_some (bt s 0) (bt s 1 * 256 + bt s 2) (bt s 3) (bt s 4) k hk
    rw [hr]
    simp only [Option.bind_some]
    split
    · split <;> exact ⟨_, rfl⟩
    · exact ⟨_, rfl⟩
  · exact ⟨_, get_short s h k⟩
theorem sumOf_range (a b c d : Int) : 0 ≤ sumOf a b c d ∧ sumOf a b c d ≤ 65535 := F_range _
theorem text_size (a b c d : Int) : (text a b c d).size = 6 := by simp [text, strOfNums_size]
theorem get_put (a b c d : Int) (h : Rm a b c d) (k : Nat) (hk : 18446744073709551616 ≤ k) : report_Get.f k (text a b c d) = some (a, b, c, d, 0) := by
  have hs := sumOf_range a b c d
  rw [get_six _ (text_size a b c d) k hk]
  have h' := h
  obtain ⟨ha, hb, hc, hd⟩ := h
  have b0 : bt (text a b c d) 0 = a := bt_son _ 0 (by simp) (by simp <;> omega)
  have b1 : bt (text a b c d) 1 = b / 256 := bt_son _ 1 (by simp) (by simp <;> omega)
  have b2 : bt (text a b c d) 2 = b % 256 := bt_son _ 2 (by simp) (by simp <;> omega)
  have b3 : bt (text a b c d) 3 = c := bt_son _ 3 (by simp) (by simp <;> omega)
  have b4 : bt (text a b c d) 4 = d := bt_son _ 4 (by simp) (by simp <;> omega)
  rw [b0, b1, b2, b3, b4, show b / 256 * 256 + b % 256 = b by omega, put_in a b c d h' k hk]
  simp

theorem ReportUnlike : wharfagelaw7_ReportUnlike.PureX := by
  intro x y _ _
  obtain ⟨k, hk⟩ := enough
  refine ⟨k, ?_⟩
  obtain ⟨p, q, r, t⟩ := x
  obtain ⟨p', q', r', t'⟩ := y
  unfold wharfagelaw7_ReportUnlike.f
  rw [awake_f k hk]
  by_cases h : Rm p q r t
  · rw [put_in p q r t h k hk]
    by_cases h' : Rm p' q' r' t'
    · rw [put_in p' q' r' t' h' k hk]
      simp only [Option.bind_some, num_f, if_true]
      congr 1
      rw [beq_iff_eq, Bool.eq_iff_iff]
      simp only [beq_iff_eq, Bool.and_eq_true]
      constructor
      · intro e
        have e2 : text p q r t = text p' q' r' t' := by
          apply ByteArray.ext
          apply Array.toList_inj.mp
          rw [ByteArray.toList_eq, ByteArray.toList_eq] at e
          exact e
        have g1 := get_put p q r t h k hk
        rw [e2, get_put p' q' r' t' h' k hk] at g1
        simp only [Option.some.injEq, Prod.mk.injEq] at g1
        exact ⟨g1.1.symm, g1.2.1.symm, g1.2.2.1.symm, g1.2.2.2.1.symm⟩
      · rintro ⟨rfl, rfl, rfl, rfl⟩
        rfl
    · rw [put_out p' q' r' t' h' k]
      simp [num_f]
      try rfl
  · rw [put_out p q r t h k]
    by_cases h' : Rm p' q' r' t'
    · rw [put_in p' q' r' t' h' k hk]
      simp [num_f]
      try rfl
    · rw [put_out p' q' r' t' h' k]
      simp [num_f]
      try rfl

end Go.Proofs.Ytnocfhnandedoaa.Pure
