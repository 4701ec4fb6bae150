/- Contracts: what calls of these functions of the program do, each as a plain function; written by a program of this session. -/
import Derived.Test.YtnocfhnandedoaaPRFormx0
import Derived.Test.YtnocfhnandedoaaPRFormx2
import Derived.Test.YtnocfhnandedoaaPRFormx3
import Derived.Test.YtnocfhnandedoaaPRFormx7
import Derived.Test.YtnocfhnandedoaaPRFormx9
import Derived.Test.YtnocfhnandedoaaPRFormx10
import Derived.Test.YtnocfhnandedoaaPRFormx11
namespace Go.Proofs.Ytnocfhnandedoaa.PRForm
open Go.RowKit Go.Proofs.YtnocfhnandedoaaW.PrintWords Go.Proofs.YtnocfhnandedoaaW.PrintLast Go.Proofs.YtnocfhnandedoaaW.PrintMore
attribute [local go_sem] max2_int min2_int max_two min_two max_three min_three max_four min_four   -- for this text's walks alone
set_option linter.unusedVariables false
set_option linter.unusedSimpArgs false

/-! ### wharfagelaw7_ReportForms: function 5, by hand -/
def wharfagelaw7_ReportForms.f (a0 a1 : Int) : Option Bool := some true
theorem rf_in_any (x : Int) (b n : Nat) (hb : b ≤ 64) (hn : 2 ^ b = n) : ip_In.f x (b : Int) = some (decide (0 ≤ x ∧ x < (n : Int))) := by
  unfold ip_In.f
  by_cases h : x ≥ 0
  · rw [if_pos h, if_pos (by omega)]
    have hn0 : 0 < n := by rw [← hn]; exact Nat.two_pow_pos b
    have e : shr .i64 x (b : Int) = x / (n : Int) := by
      unfold shr
      rw [Int.toNat_natCast, Nat.min_eq_left (by simpa [IntKind.bits] using hb), ← hn]
      simp
    rw [e]; congr 1
    rw [Bool.eq_iff_iff]
    simp only [beq_iff_eq, decide_eq_true_eq]
    constructor
    · intro hz
      refine ⟨h, ?_⟩
      have := Int.lt_ediv_add_one_mul_self x (show (0 : Int) < n by omega)
      rw [hz] at this
      omega
    · rintro ⟨_, hlt⟩
      exact Int.ediv_eq_zero_of_lt h hlt
  · rw [if_neg h]; congr 1; simp; omega
theorem rf_in8 (x : Int) : ip_In.f x 8 = some (decide (0 ≤ x ∧ x < 256)) := rf_in_any x 8 256 (by decide) (by decide)
def RfRm (a b c d : Int) : Prop := (0 ≤ a ∧ a < 3) ∧ (0 ≤ b ∧ b < 65536) ∧ (0 ≤ c ∧ c < 256) ∧ (0 ≤ d ∧ d < 256)
instance (a b c d : Int) : Decidable (RfRm a b c d) := by unfold RfRm; infer_instance
theorem rf_site_f (a : Int) : report_Site.f a = some (decide (0 ≤ a ∧ a < 3)) := by
  unfold report_Site.f
  by_cases h : a ≥ 0
  · rw [if_pos h]; congr 1; simp; omega
  · rw [if_neg h]; congr 1; simp; omega
theorem rf_serial_f (a : Int) : report_serial.f a = some (decide (0 ≤ a ∧ a < 65536)) := by
  unfold report_serial.f
  by_cases h : a ≥ 0
  · rw [if_pos h]; congr 1; simp; omega
  · rw [if_neg h]; congr 1; simp; omega
theorem rf_may_f (a b c d : Int) : report_May.f a b c d = some (decide (RfRm a b c d)) := by
  unfold report_May.f
  rw [rf_site_f, rf_serial_f, rf_in8, rf_in8]
  simp only [Option.bind_some]
  by_cases h1 : 0 ≤ a ∧ a < 3 <;> by_cases h2 : 0 ≤ b ∧ b < 65536 <;> by_cases h3 : 0 ≤ c ∧ c < 256 <;> by_cases h4 : 0 ≤ d ∧ d < 256 <;> simp [RfRm, h1, h2, h3, h4]
theorem rf_out (a b c d : Int) (h : ¬ RfRm a b c d) (k : Nat) : report_Put.f k a b c d = some ((⟨#[]⟩ : ByteArray), 700) := by
  unfold report_Put.f
  rw [rf_may_f, decide_eq_false h]; rfl
theorem rf_may (a b c d : Int) (h : ¬ RfRm a b c d) : report_May.f a b c d = some false := by rw [rf_may_f, decide_eq_false h]
theorem rf_new (e : Int) (he : 1 ≤ e ∧ e ≤ 1024) : report_Newer.f 0 (65535 + e) = some (false, 700) := by
  unfold report_Newer.f
  rw [rf_serial_f, rf_serial_f, decide_eq_false (show ¬ (0 ≤ 65535 + e ∧ 65535 + e < 65536) by omega)]; rfl
theorem rf_put : report_Put.f 300 1 2 3 4 = some (⟨#[1, 0, 2, 3, 4, 252]⟩, 0) := by kernel_rfl
theorem rf_drawn {w w1 : World} (h : Drawn0 w w1) : Below w.heap.size w w1 := by
  obtain ⟨nd, rfl⟩ := h
  exact pw_below_drewN (Below.refl _ _) _
theorem rf_frozen {wn w5 : World} {q : Nat} (hW : w5 = Lib.bytesWorld wn 5 ⟨#[1, 0, 2, 3, 4, 252]⟩) (hq : q < 6) : w5.frozen? ⟨wn.heap.size, q, none⟩ = false := by
  subst hW
  unfold World.frozen?
  rw [Lib.bytesWorld_at_new]
  have hs : 6 ≤ (Lib.bytesCells wn 5 ⟨#[1, 0, 2, 3, 4, 252]⟩).size := by unfold Lib.bytesCells; simp <;> omega
  simp; omega
theorem rf_cells {wn w5 : World} (hW : w5 = Lib.bytesWorld wn 5 ⟨#[1, 0, 2, 3, 4, 252]⟩) (j : Nat) (hj : j < 6) : w5.cell? ⟨wn.heap.size, j, none⟩ = some (.int .u8 (([1, 0, 2, 3, 4, 252] : List UInt8).getD j 0).toNat) := by
  rw [hW]; exact Lib.bytesWorld_cell wn 5 _ j hj
def rfL (q z : Nat) : List UInt8 := ([1, 0, 2, 3, 4, 252] : List UInt8).set q (UInt8.ofNat z)
def rfOk (q z : Nat) : Bool := match report_Get.f 300 ⟨(rfL q z).toArray⟩ with
  | some (a, b, c, d, e) => e == 700 || !(a == 1 && b == 2 && c == 3 && d == 4)
  | none => false
def rfT (q : Nat) : Nat := (([1, 0, 2, 3, 4, 252] : List UInt8).getD q 0).toNat
theorem rf_all : ((List.range 6).all fun q => (List.range 256).all fun z => z == rfT q || rfOk q z) = true := by kernel_rfl
theorem rf_get (q z : Nat) (hq : q < 6) (hz : z < 256) (hn : z ≠ (([1, 0, 2, 3, 4, 252] : List UInt8).getD q 0).toNat) : ∃ a b c d e, report_Get.f 300 ⟨(rfL q z).toArray⟩ = some (a, b, c, d, e) ∧ (e = 700 ∨ (e ≠ 700 ∧ ¬ (a = 1 ∧ b = 2 ∧ c = 3 ∧ d = 4))) := by
  have h := List.all_eq_true.1 (List.all_eq_true.1 rf_all q (List.mem_range.2 hq)) z (List.mem_range.2 hz)
  have h2 : rfOk q z = true := by
    rcases Bool.or_eq_true _ _ |>.mp h with h | h
    · exact absurd (beq_iff_eq.1 h) hn
    · exact h
  unfold rfOk at h2
  split at h2
  · rename_i a b c d e he
    refine ⟨a, b, c, d, e, he, ?_⟩
    by_cases h7 : e = 700
    · exact .inl h7
    · refine .inr ⟨h7, ?_⟩
      rintro ⟨rfl, rfl, rfl, rfl⟩
      simp [h7] at h2
  · exact absurd h2 (by simp)
theorem rf_xall : ((List.range 6).all fun q => (List.range 129).all fun y => y == 0 || (decide (0 ≤ bits .xor .u8 (rfT q : Int) (y : Int)) && decide (bits .xor .u8 (rfT q : Int) (y : Int) < 256) && decide (bits .xor .u8 (rfT q : Int) (y : Int) ≠ (rfT q : Int)))) = true := by kernel_rfl
theorem rf_xor (q : Nat) (y : Int) (hq : q < 6) (hy : 1 ≤ y ∧ y ≤ 128) : ∃ z : Nat, bits .xor .u8 ((([1, 0, 2, 3, 4, 252] : List UInt8).getD q 0).toNat : Int) y = (z : Int) ∧ z < 256 ∧ z ≠ (([1, 0, 2, 3, 4, 252] : List UInt8).getD q 0).toNat := by
  obtain ⟨m, rfl⟩ := Int.eq_ofNat_of_zero_le (show 0 ≤ y by omega)
  have h := List.all_eq_true.1 (List.all_eq_true.1 rf_xall q (List.mem_range.2 hq)) m (List.mem_range.2 (by omega))
  have h0 : (m == 0) = false := by simp; omega
  rw [h0, Bool.false_or] at h
  simp only [Bool.and_eq_true, decide_eq_true_eq] at h
  show ∃ z : Nat, bits .xor .u8 (rfT q : Int) (m : Int) = (z : Int) ∧ z < 256 ∧ z ≠ rfT q
  obtain ⟨⟨h1, h2⟩, h3⟩ := h
  exact ⟨(bits .xor .u8 (rfT q : Int) (m : Int)).toNat, by omega, by omega, by omega⟩
theorem rf_set {wn w5 w6 : World} {q z : Nat} (hq : q < 6) (hz : z < 256) (hA : ∀ j, j < 6 → w5.cell? ⟨wn.heap.size, j, none⟩ = some (.int .u8 (([1, 0, 2, 3, 4, 252] : List UInt8).getD j 0).toNat)) (hW : w6 = w5.setCell ⟨wn.heap.size, q, none⟩ (.int .u8 (z : Int))) (g cap : Nat) (hg : g = wn.heap.size) :
    (convert 44 9 (.slice (some ⟨g, 0, none⟩) 6 cap)).run Try.prog w6 = .ok (.string ⟨(rfL q z).toArray⟩) w6 := by
  subst hg
  have hl : (rfL q z).length = 6 := by simp [rfL]
  have h := run_convert_bytes_back (P := Try.prog) w6 44 9 5 ⟨wn.heap.size, 0, none⟩ cap (rfL q z) Try.underlying44 Try.underlying5 Try.underlying9 (by
    intro j hj
    have hj6 : j < 6 := by rw [hl] at hj; exact hj
    have ha := hA j hj6
    have e : (Addr.mk wn.heap.size 0 none).add j = ⟨wn.heap.size, j, none⟩ := by simp [Addr.add] <;> omega
    rw [e]
    by_cases hjq : j = q
    · subst hjq
      have : (rfL j z)[j] = UInt8.ofNat z := by simp [rfL]
      rw [this, hW]
      have h5 := World.cell?_setCell_same (w := w5) (a := ⟨wn.heap.size, j, none⟩) (v := .int .u8 (z : Int)) ha
      rw [h5]
      simp [Nat.mod_eq_of_lt hz]
    · have : (rfL q z)[j] = (([1, 0, 2, 3, 4, 252] : List UInt8).getD j 0) := by
        simp [rfL, List.getElem_set_ne (fun h => hjq h.symm), List.getD]
        rw [List.getElem?_eq_getElem (by simpa using hj6)]; rfl
      rw [this, hW, ← ha]
      have hne : (⟨wn.heap.size, q, none⟩ : Addr) ≠ ⟨wn.heap.size, j, none⟩ := fun h => hjq (congrArg Addr.off h).symm
      first | exact World.cell?_setCell_other _ _ _ hne | exact World.cell?_setCell_other _ _ _ _ hne)
  rw [hl] at h
  exact h
theorem rf_g5 : report_Get.f 300 ⟨#[1, 0, 2, 3, 4]⟩ = some (0, 0, 0, 0, 700) := by kernel_rfl
theorem rf_g7 : report_Get.f 300 ⟨#[1, 0, 2, 3, 4, 252, 120]⟩ = some (0, 0, 0, 0, 700) := by kernel_rfl
theorem rf_keep {w5 w6 : World} {g q b j : Nat} {u v : Value} (hW : w6 = w5.setCell ⟨g, q, none⟩ u) (hne : b < g) (hc : w5.cell? ⟨b, j, none⟩ = some v) : w6.cell? ⟨b, j, none⟩ = some v := by
  subst hW
  rw [← hc]
  simp [World.cell?, World.setCell, Array.getElem?_modify, show ¬ g = b by omega]
theorem rf_below {w w5 w6 : World} {g q : Nat} {u : Value} (hW : w6 = w5.setCell ⟨g, q, none⟩ u) (hB : Below w.heap.size w w5) (hg : w.heap.size ≤ g) : Below w.heap.size w w6 := by
  subst hW
  exact below_set hB hg
theorem rf_aw : wharfagelaw7_awake.f 300 = some true := by kernel_rfl
theorem rf_pick (e : Int) (he : 1 ≤ e ∧ e ≤ 1024) (p : Nat) (hp : p < 8) (W : World) (g : Nat) (hb : ∀ i v, (#[.int .i64 (-e), .int .i64 0, .int .i64 0, .int .i64 0, .int .i64 (2 + e), .int .i64 0, .int .i64 0, .int .i64 0, .int .i64 0, .int .i64 (-e), .int .i64 0, .int .i64 0, .int .i64 0, .int .i64 (65535 + e), .int .i64 0, .int .i64 0, .int .i64 0, .int .i64 0, .int .i64 (-e), .int .i64 0, .int .i64 0, .int .i64 0, .int .i64 (255 + e), .int .i64 0, .int .i64 0, .int .i64 0, .int .i64 0, .int .i64 (-e), .int .i64 0, .int .i64 0, .int .i64 0, .int .i64 (255 + e)] : Array Value)[i]? = some v → W.cell? ⟨g, i, none⟩ = some v) :
    ∃ f0 f1 f2 f3 : Int, W.cell? ⟨g, p * 4, none⟩ = some (.int .i64 f0) ∧ W.cell? ⟨g, p * 4 + 1, none⟩ = some (.int .i64 f1) ∧ W.cell? ⟨g, p * 4 + 2, none⟩ = some (.int .i64 f2) ∧ W.cell? ⟨g, p * 4 + 3, none⟩ = some (.int .i64 f3) ∧ ¬ RfRm f0 f1 f2 f3 := by
  obtain rfl | rfl | rfl | rfl | rfl | rfl | rfl | rfl : p = 0 ∨ p = 1 ∨ p = 2 ∨ p = 3 ∨ p = 4 ∨ p = 5 ∨ p = 6 ∨ p = 7 := by omega
  all_goals exact ⟨_, _, _, _, hb _ _ rfl, hb _ _ rfl, hb _ _ rfl, hb _ _ rfl, by unfold RfRm; omega⟩
open Go.Proofs.Ytnocfhnandedoaa.NumMath (and127 and1023 wrap_u64_mod tmod_nn wrap64_in) in
set_option maxHeartbeats 8000000 in
set_option maxRecDepth 100000 in
theorem wharfagelaw7_ReportForms.calls (a0 a1 : Int) (r : Bool) (w : World) (h : wharfagelaw7_ReportForms.f a0 a1 = some r) :
    Calls Try.prog 5 #[.int .i64 a0, .int .i64 a1] w fun e w' => e = .returned (.bool r) ∧ Below w.heap.size w w' := by
  obtain rfl := Option.some.inj h
  clear h
  obtain ⟨d, hd, HD⟩ : ∃ d : Int, bits .and .i64 a1 1023 = d ∧ Aside0 (0 ≤ d ∧ d ≤ 1023) := ⟨a1 % 1024, and1023 a1, ⟨by omega⟩⟩
  obtain ⟨e, he1, HE⟩ : ∃ e : Int, wrap64 (1 + d) = e ∧ Aside0 (1 ≤ e ∧ e ≤ 1024) := ⟨1 + d, by have := HD.out; unfold wrap64; omega, ⟨by have := HD.out; omega⟩⟩
  have he2 : wrap64 (-e) = -e := by have := HE.out; unfold wrap64; omega
  have he3 : wrap64 (2 + e) = 2 + e := by have := HE.out; unfold wrap64; omega
  have he4 : wrap64 (65535 + e) = 65535 + e := by have := HE.out; unfold wrap64; omega
  have he5 : wrap64 (255 + e) = 255 + e := by have := HE.out; unfold wrap64; omega
  obtain ⟨p, hp, HP⟩ : ∃ p : Nat, wrap64 ((IntKind.u64.wrap a0).tmod 8) = (p : Int) ∧ Aside0 (p < 8) := by
    rw [wrap_u64_mod, tmod_nn _ _ (by omega), wrap64_in _ (by omega) (by omega)]
    exact ⟨(a0 % 18446744073709551616 % 8).toNat, by omega, ⟨by omega⟩⟩
  have hp0 : (0 : Int) ≤ (p : Int) := by omega
  have hp1 : (p : Int) < 8 := by have := HP.out; omega
  have hpn : ((p : Int)).toNat = p := Int.toNat_natCast p
  obtain ⟨q, hq, HQ⟩ : ∃ q : Nat, wrap64 ((IntKind.u64.wrap a0).tmod 6) = (q : Int) ∧ Aside0 (q < 6) := by
    rw [wrap_u64_mod, tmod_nn _ _ (by omega), wrap64_in _ (by omega) (by omega)]
    exact ⟨(a0 % 18446744073709551616 % 6).toNat, by omega, ⟨by omega⟩⟩
  have hq0 : (0 : Int) ≤ (q : Int) := by omega
  have hq1 : (q : Int) < 6 := by have := HQ.out; omega
  have hqn : ((q : Int)).toNat = q := Int.toNat_natCast q
  obtain ⟨y, hy, HY⟩ : ∃ y : Int, wrap64 (1 + bits .and .i64 a1 127) % 256 = y ∧ Aside0 (1 ≤ y ∧ y ≤ 128) := by
    rw [and127, wrap64_in _ (by omega) (by omega)]
    exact ⟨1 + a1 % 128, by omega, ⟨by omega⟩⟩
  obtain ⟨z, hzx, hz2⟩ := rf_xor q y HQ.out HY.out
  have HZX := Aside0.mk hzx
  have HZ := Aside0.mk hz2
  obtain ⟨ra, rb, rc, rdd, re, hg, ho⟩ := rf_get q z HQ.out hz2.1 hz2.2
  have HG := Aside0.mk hg
  clear hzx hz2 hg
  have HB := Aside0.mk (Below.refl w.heap.size w)
  go_enter Try.func5, Try.ntmps5
  go_wp2_with first
    | (go_at_call 24; refine (wharfagelaw7_awake.calls 300 true _ rf_aw).mono ?_; rintro e w1 ⟨rfl, hb1⟩; replace HB := Aside0.mk (below_step HB.out hb1); clear hb1)
    | ((with_reducible refine gate_dst (N := 58) rfl ?_); obtain ⟨w2, hW⟩ : ∃ x_, x_ = w1.alloc (Obj.cells #[.int .i64 (-e), .int .i64 0, .int .i64 0, .int .i64 0, .int .i64 (2 + e), .int .i64 0, .int .i64 0, .int .i64 0, .int .i64 0, .int .i64 (-e), .int .i64 0, .int .i64 0, .int .i64 0, .int .i64 (65535 + e), .int .i64 0, .int .i64 0, .int .i64 0, .int .i64 0, .int .i64 (-e), .int .i64 0, .int .i64 0, .int .i64 0, .int .i64 (255 + e), .int .i64 0, .int .i64 0, .int .i64 0, .int .i64 0, .int .i64 (-e), .int .i64 0, .int .i64 0, .int .i64 0, .int .i64 (255 + e)] 23) := ⟨_, rfl⟩; rw [← hW]; have hb2 : Below w1.heap.size w1 w2 := hW ▸ below_alloc (Below.refl _ _) _; obtain ⟨f0, f1, f2, f3, x0, x1, x2, x3, hf⟩ := rf_pick e HE.out p HP.out w2 w1.heap.size (fun i v hv => by rw [hW, World.cell?_alloc_mark]; exact hv); have HF := Aside0.mk hf; clear hf hW; replace HB := Aside0.mk (below_step HB.out hb2); clear hb2)
    | (go_at_call 15; (with_reducible refine calls_of_args (args' := #[Value.agg #[Value.int IntKind.i64 f0, Value.int IntKind.i64 f1, Value.int IntKind.i64 f2, Value.int IntKind.i64 f3]]) rfl ?_); refine (report_Put.calls 300 f0 f1 f2 f3 _ _ _ (rf_out f0 f1 f2 f3 HF.out 300)).mono ?_; rintro e w3 ⟨rfl, hb⟩; have b0 : w3.cell? ⟨w2.heap.size, 0, none⟩ = some (.int .i64 f0) := pw_cell_below hb (by simp); have b1 : w3.cell? ⟨w2.heap.size, 1, none⟩ = some (.int .i64 f1) := pw_cell_below hb (by simp); have b2 : w3.cell? ⟨w2.heap.size, 2, none⟩ = some (.int .i64 f2) := pw_cell_below hb (by simp); have b3 : w3.cell? ⟨w2.heap.size, 3, none⟩ = some (.int .i64 f3) := pw_cell_below hb (by simp); replace HB := Aside0.mk (below_step (below_alloc HB.out _) hb); clear hb x0 x1 x2 x3)
    | (go_at_call 15; (with_reducible refine calls_of_args (args' := #[Value.agg #[Value.int IntKind.i64 1, Value.int IntKind.i64 2, Value.int IntKind.i64 3, Value.int IntKind.i64 4]]) rfl ?_); refine (report_Put.calls 300 1 2 3 4 _ _ _ rf_put).mono ?_; rintro e w4 ⟨rfl, hb⟩; replace b0 := pw_cell_below hb b0; replace b1 := pw_cell_below hb b1; replace b2 := pw_cell_below hb b2; replace b3 := pw_cell_below hb b3; replace HB := Aside0.mk (below_step HB.out hb); clear hb)
    | (go_at_call 21; refine (wharfagelaw0_Num.calls _ _ _ rfl).mono ?_; rintro e wn ⟨rfl, hn⟩; have hb := rf_drawn hn; clear hn; (try (replace y0 := pw_cell_below hb y0; replace y1 := pw_cell_below hb y1; replace y2 := pw_cell_below hb y2; replace y3 := pw_cell_below hb y3)); replace b0 := pw_cell_below hb b0; replace b1 := pw_cell_below hb b1; replace b2 := pw_cell_below hb b2; replace b3 := pw_cell_below hb b3; replace HB := Aside0.mk (below_step HB.out hb); clear hb)
    | ((with_reducible refine gate_dst (N := 78) rfl ?_); refine Kd.event_run (w1 := Lib.bytesWorld wn 5 ⟨#[1, 0, 2, 3, 4, 252]⟩) (v := .slice (some ⟨wn.heap.size, 0, none⟩) 6 (grownCap wn 6 0 5)) rfl (by go_simp; rw [Lib.run_convert_string_bytes wn 9 44 5 ⟨#[1, 0, 2, 3, 4, 252]⟩ Try.underlying9 Try.underlying44 Try.underlying5]; rfl) ?_; obtain ⟨w5, hW⟩ : ∃ x_, x_ = Lib.bytesWorld wn 5 ⟨#[1, 0, 2, 3, 4, 252]⟩ := ⟨_, rfl⟩; rw [← hW]; have hb : Below wn.heap.size wn w5 := hW ▸ bytes_below (Below.refl _ _) (Nat.le_refl _) 5 _; obtain ⟨tq, ht, HT⟩ : ∃ tq : Int, w5.cell? ⟨wn.heap.size, q, none⟩ = some (.int .u8 tq) ∧ (tq = (([1, 0, 2, 3, 4, 252] : List UInt8).getD q 0).toNat) := ⟨_, (by rw [hW]; exact Lib.bytesWorld_cell wn 5 _ q HQ.out), rfl⟩; have hz : bits .xor .u8 tq y = (z : Int) := (by rw [HT]; exact HZX.out); clear HT; have HLT := Aside0.mk (World.block_lt_of_cell? wn _ b0); have HGE := Aside0.mk HB.out.size; have hfz : w5.frozen? ⟨wn.heap.size, q, none⟩ = false := rf_frozen hW HQ.out; have HA := Aside0.mk (rf_cells hW); clear hW; replace b0 := pw_cell_below hb b0; replace b1 := pw_cell_below hb b1; replace b2 := pw_cell_below hb b2; replace b3 := pw_cell_below hb b3; replace HB := Aside0.mk (below_step HB.out hb); clear hb)
    | ((with_reducible refine gate_dst (N := 97) rfl ?_); obtain ⟨w6, hW⟩ : ∃ x_, x_ = w5.setCell ⟨wn.heap.size, q, none⟩ (.int .u8 (z : Int)) := ⟨_, rfl⟩; rw [← hW]; have hcv := rf_set HQ.out HZ.out.1 HA.out hW wn.heap.size (grownCap wn 6 0 5) rfl; refine Kd.event_run (w1 := w6) (v := .string ⟨(rfL q z).toArray⟩) rfl (by clear hW; first | (go_simp; done) | (go_simp; rw [hcv])) ?_; replace b0 := rf_keep hW HLT.out b0; replace b1 := rf_keep hW HLT.out b1; replace b2 := rf_keep hW HLT.out b2; replace b3 := rf_keep hW HLT.out b3; replace HB := Aside0.mk (rf_below hW HB.out HGE.out); (try clear hW); (try clear hcv); (try clear ht); (try clear hfz))
    | (go_at_call 17; (with_reducible refine calls_of_args (args' := #[Value.string ⟨(rfL q z).toArray⟩]) rfl ?_); refine (report_Get.calls 300 _ ra rb rc rdd re _ HG.out).mono ?_; rintro e w7 ⟨rfl, hb⟩; replace b0 := pw_cell_below hb b0; replace b1 := pw_cell_below hb b1; replace b2 := pw_cell_below hb b2; replace b3 := pw_cell_below hb b3; replace HB := Aside0.mk (below_step HB.out hb); clear hb)
    | ((with_reducible refine gate_dst (N := 103) rfl ?_); obtain ⟨w8, hW⟩ : ∃ x_, x_ = w7.alloc (Obj.cells #[Value.int IntKind.i64 ra, Value.int IntKind.i64 rb, Value.int IntKind.i64 rc, Value.int IntKind.i64 rdd] 23) := ⟨_, rfl⟩; rw [← hW]; have hb : Below w7.heap.size w7 w8 := hW ▸ below_alloc (Below.refl _ _) _; have y0 : w8.cell? ⟨w7.heap.size, 0, none⟩ = some (Value.int IntKind.i64 ra) := (by rw [hW]; simp); have y1 : w8.cell? ⟨w7.heap.size, 1, none⟩ = some (Value.int IntKind.i64 rb) := (by rw [hW]; simp); have y2 : w8.cell? ⟨w7.heap.size, 2, none⟩ = some (Value.int IntKind.i64 rc) := (by rw [hW]; simp); have y3 : w8.cell? ⟨w7.heap.size, 3, none⟩ = some (Value.int IntKind.i64 rdd) := (by rw [hW]; simp); clear hW; replace b0 := pw_cell_below hb b0; replace b1 := pw_cell_below hb b1; replace b2 := pw_cell_below hb b2; replace b3 := pw_cell_below hb b3; replace HB := Aside0.mk (below_step HB.out hb); clear hb)
    | (go_at_call 17; (with_reducible refine calls_of_args (args' := #[Value.string ⟨#[1, 0, 2, 3, 4]⟩]) rfl ?_); refine (report_Get.calls 300 _ 0 0 0 0 700 _ rf_g5).mono ?_; rintro e w9 ⟨rfl, hb⟩; replace y0 := pw_cell_below hb y0; replace y1 := pw_cell_below hb y1; replace y2 := pw_cell_below hb y2; replace y3 := pw_cell_below hb y3; replace b0 := pw_cell_below hb b0; replace b1 := pw_cell_below hb b1; replace b2 := pw_cell_below hb b2; replace b3 := pw_cell_below hb b3; replace HB := Aside0.mk (below_step HB.out hb); clear hb)
    | ((with_reducible refine gate_dst (N := 109) rfl ?_); obtain ⟨w10, hW⟩ : ∃ x_, x_ = w9.alloc (Obj.cells #[Value.int IntKind.i64 0, Value.int IntKind.i64 0, Value.int IntKind.i64 0, Value.int IntKind.i64 0] 23) := ⟨_, rfl⟩; rw [← hW]; have hb : Below w9.heap.size w9 w10 := hW ▸ below_alloc (Below.refl _ _) _; clear hW; replace y0 := pw_cell_below hb y0; replace y1 := pw_cell_below hb y1; replace y2 := pw_cell_below hb y2; replace y3 := pw_cell_below hb y3; replace b0 := pw_cell_below hb b0; replace b1 := pw_cell_below hb b1; replace b2 := pw_cell_below hb b2; replace b3 := pw_cell_below hb b3; replace HB := Aside0.mk (below_step HB.out hb); clear hb)
    | (go_at_call 17; (with_reducible refine calls_of_args (args' := #[Value.string ⟨#[1, 0, 2, 3, 4, 252, 120]⟩]) rfl ?_); refine (report_Get.calls 300 _ 0 0 0 0 700 _ rf_g7).mono ?_; rintro e w11 ⟨rfl, hb⟩; replace y0 := pw_cell_below hb y0; replace y1 := pw_cell_below hb y1; replace y2 := pw_cell_below hb y2; replace y3 := pw_cell_below hb y3; replace b0 := pw_cell_below hb b0; replace b1 := pw_cell_below hb b1; replace b2 := pw_cell_below hb b2; replace b3 := pw_cell_below hb b3; replace HB := Aside0.mk (below_step HB.out hb); clear hb)
    | (go_at_call 19; obtain ⟨w12, hW⟩ : ∃ x_, x_ = w11.alloc (Obj.cells #[Value.int IntKind.i64 0, Value.int IntKind.i64 0, Value.int IntKind.i64 0, Value.int IntKind.i64 0] 23) := ⟨_, rfl⟩; rw [← hW]; have hb : Below w11.heap.size w11 w12 := hW ▸ below_alloc (Below.refl _ _) _; clear hW; replace y0 := pw_cell_below hb y0; replace y1 := pw_cell_below hb y1; replace y2 := pw_cell_below hb y2; replace y3 := pw_cell_below hb y3; replace b0 := pw_cell_below hb b0; replace b1 := pw_cell_below hb b1; replace b2 := pw_cell_below hb b2; replace b3 := pw_cell_below hb b3; replace HB := Aside0.mk (below_step HB.out hb); clear hb; refine (report_Newer.calls 0 (65535 + e) false 700 _ (rf_new e HE.out)).mono ?_; rintro e' w13 ⟨rfl, hn⟩; have hb := rf_drawn hn; clear hn; replace y0 := pw_cell_below hb y0; replace y1 := pw_cell_below hb y1; replace y2 := pw_cell_below hb y2; replace y3 := pw_cell_below hb y3; replace b0 := pw_cell_below hb b0; replace b1 := pw_cell_below hb b1; replace b2 := pw_cell_below hb b2; replace b3 := pw_cell_below hb b3; replace HB := Aside0.mk (below_step HB.out hb); clear hb)
    | (go_at_call 22; refine (report_May.calls f0 f1 f2 f3 false _ (rf_may f0 f1 f2 f3 HF.out)).mono ?_; rintro e' w14 ⟨rfl, hb⟩; replace y0 := pw_cell_below hb y0; replace y1 := pw_cell_below hb y1; replace y2 := pw_cell_below hb y2; replace y3 := pw_cell_below hb y3; replace b0 := pw_cell_below hb b0; replace b1 := pw_cell_below hb b1; replace b2 := pw_cell_below hb b2; replace b3 := pw_cell_below hb b3; replace HB := Aside0.mk (below_step HB.out hb); clear hb)
  all_goals
    go_ret
    first
      | exact ⟨rfl, HB.out⟩
      | exact ⟨by first | rfl | (simp [*] <;> rfl), HB.out⟩


end Go.Proofs.Ytnocfhnandedoaa.PRForm
