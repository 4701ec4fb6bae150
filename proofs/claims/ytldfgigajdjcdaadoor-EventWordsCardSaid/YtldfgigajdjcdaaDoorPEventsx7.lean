/- Contracts: what calls of these functions of the program do, each as a plain function; written by a program of this session. -/
import Derived.Test.YtldfgigajdjcdaaDoorPEventsx0
import Derived.Test.YtldfgigajdjcdaaDoorPEventsx1
import Derived.Test.YtldfgigajdjcdaaDoorPEventsx3
import Derived.Test.YtldfgigajdjcdaaDoorPEventsx4
import Derived.Test.YtldfgigajdjcdaaDoorPEventsx5
namespace Go.Proofs.YtldfgigajdjcdaaDoor.PEvents
open Go.RowKit Go.Proofs.YtldfgigajdjcdaaDoorW.PrintWords Go.Proofs.YtldfgigajdjcdaaDoorW.PrintLast Go.Proofs.YtldfgigajdjcdaaDoorW.PrintMore
attribute [local go_sem] max2_int min2_int max_two min_two max_three min_three max_four min_four   -- for this text's walks alone
set_option linter.unusedVariables false
set_option linter.unusedSimpArgs false

/-! ### event_Show: function 6, by hand -/
namespace EvLaw
open Go.Proofs.YtldfgigajdjcdaaDoor.NumMath (wrap64_in)
def Fm (a b c d e : Int) : Prop := (0 ≤ a ∧ a < 4294967296) ∧ (0 ≤ b ∧ b < 4294967296) ∧ (c = 6 ∨ c = 17) ∧ (0 ≤ d ∧ d < 65536) ∧ (0 ≤ e ∧ e < 65536)
instance (a b c d e : Int) : Decidable (Fm a b c d e) := by unfold Fm; infer_instance
theorem in_any (x : Int) (b n : Nat) (hb : b ≤ 64) (hn : 2 ^ b = n) : ip_In.f x (b : Int) = some (decide (0 ≤ x ∧ x < (n : Int))) := by
  unfold ip_In.f
  by_cases h : x ≥ 0
  · rw [if_pos h, if_pos (by omega)]
    have hn0 : 0 < n := by rw [← hn]; exact Nat.two_pow_pos b
    have e : shr .i64 x (b : Int) = x / (n : Int) := by
      unfold shr
      rw [Int.toNat_natCast, Nat.min_eq_left (by simpa [IntKind.bits] using hb), ← hn]
      simp
    rw [e]; congr 1
    rw [Bool.eq_iff_iff]
    simp only [beq_iff_eq, decide_eq_true_eq]
    constructor
    · intro hz
      refine ⟨h, ?_⟩
      have := Int.lt_ediv_add_one_mul_self x (show (0 : Int) < n by omega)
      rw [hz] at this
      omega
    · rintro ⟨_, hlt⟩
      exact Int.ediv_eq_zero_of_lt h hlt
  · rw [if_neg h]; congr 1; simp; omega
theorem in32 (x : Int) : ip_In.f x 32 = some (decide (0 ≤ x ∧ x < 4294967296)) := in_any x 32 4294967296 (by decide) (by decide)
theorem in16 (x : Int) : ip_In.f x 16 = some (decide (0 ≤ x ∧ x < 65536)) := in_any x 16 65536 (by decide) (by decide)
theorem in8 (x : Int) : ip_In.f x 8 = some (decide (0 ≤ x ∧ x < 256)) := in_any x 8 256 (by decide) (by decide)
theorem handled_f (c : Int) : flow_handled.f c = some (decide (c = 6 ∨ c = 17)) := by
  unfold flow_handled.f
  by_cases h : c = 6
  · simp [h]
  · rw [if_neg h]; simp [h]
    rfl
theorem flowMay_f (a b c d e : Int) : flow_May.f a b c d e = some (decide (Fm a b c d e)) := by
  unfold flow_May.f
  rw [in32, in32, in16, in16, handled_f]
  simp only [Option.bind_some]
  by_cases h1 : 0 ≤ a ∧ a < 4294967296 <;> by_cases h2 : 0 ≤ b ∧ b < 4294967296 <;> by_cases h3 : c = 6 ∨ c = 17 <;> by_cases h4 : 0 ≤ d ∧ d < 65536 <;> by_cases h5 : 0 ≤ e ∧ e < 65536 <;> simp [Fm, h1, h2, h3, h4, h5]
def EvP (e0 e1 e2 e3 e4 e5 e6 e7 e8 e9 : Int) : Prop := (0 ≤ e0 ∧ e0 ≤ 13) ∧ (0 ≤ e1 ∧ e1 ≤ 2) ∧ (0 ≤ e2 ∧ e2 < 256) ∧ (0 ≤ e3 ∧ e3 < 256) ∧ (0 ≤ e4 ∧ e4 < 256) ∧ (Fm e5 e6 e7 e8 e9 ∨ (e5 = 0 ∧ e6 = 0 ∧ e7 = 0 ∧ e8 = 0 ∧ e9 = 0))
instance (e0 e1 e2 e3 e4 e5 e6 e7 e8 e9 : Int) : Decidable (EvP e0 e1 e2 e3 e4 e5 e6 e7 e8 e9) := by unfold EvP; infer_instance
theorem ev_f (e0 e1 e2 e3 e4 e5 e6 e7 e8 e9 : Int) (k : Nat) (hk : 2 ≤ k) : event_May.f k e0 e1 e2 e3 e4 e5 e6 e7 e8 e9 = some (decide (EvP e0 e1 e2 e3 e4 e5 e6 e7 e8 e9)) := by
  obtain ⟨k, rfl⟩ : ∃ m, k = m + 2 := ⟨k - 2, by omega⟩
  have hz : (e5 == 0 && (e6 == 0 && (e7 == 0 && (e8 == 0 && (e9 == 0))))) = decide (e5 = 0 ∧ e6 = 0 ∧ e7 = 0 ∧ e8 = 0 ∧ e9 = 0) := by
    simp only [Bool.decide_and]; rfl
  have hb : event_May.f (k + 2) e0 e1 e2 e3 e4 e5 e6 e7 e8 e9 = some (decide (0 ≤ e0 ∧ e0 ≤ 13) && (decide (0 ≤ e1 ∧ e1 ≤ 2) && (decide (0 ≤ e2 ∧ e2 < 256) && (decide (0 ≤ e3 ∧ e3 < 256) && (decide (0 ≤ e4 ∧ e4 < 256) && (decide (Fm e5 e6 e7 e8 e9) || decide (e5 = 0 ∧ e6 = 0 ∧ e7 = 0 ∧ e8 = 0 ∧ e9 = 0))))))) := by
    unfold event_May.f
    simp only [event_May.j0, event_May.j1, in8, flowMay_f, Option.bind_some, hz]
    by_cases a0 : e0 ≥ 0
    · rw [if_pos a0, show decide (0 ≤ e0 ∧ e0 ≤ 13) = decide (e0 ≤ 13) from decide_eq_decide.2 (by omega)]
      by_cases b0 : e1 ≥ 0
      · rw [if_pos b0, show decide (0 ≤ e1 ∧ e1 ≤ 2) = decide (e1 ≤ 2) from decide_eq_decide.2 (by omega)]
        cases decide (e0 ≤ 13) <;> cases decide (e1 ≤ 2) <;> cases decide (0 ≤ e2 ∧ e2 < 256) <;> cases decide (0 ≤ e3 ∧ e3 < 256) <;> cases decide (0 ≤ e4 ∧ e4 < 256) <;> cases decide (Fm e5 e6 e7 e8 e9) <;> rfl
      · rw [if_neg b0, show decide (0 ≤ e1 ∧ e1 ≤ 2) = false from decide_eq_false (by omega)]
        cases decide (e0 ≤ 13) <;> rfl
    · rw [if_neg a0, show decide (0 ≤ e0 ∧ e0 ≤ 13) = false from decide_eq_false (by omega)]
      by_cases b0 : e1 ≥ 0
      · rw [if_pos b0]; rfl
      · rw [if_neg b0]; rfl
  rw [hb]
  refine congrArg some ?_
  rw [show decide (EvP e0 e1 e2 e3 e4 e5 e6 e7 e8 e9) = decide ((0 ≤ e0 ∧ e0 ≤ 13) ∧ (0 ≤ e1 ∧ e1 ≤ 2) ∧ (0 ≤ e2 ∧ e2 < 256) ∧ (0 ≤ e3 ∧ e3 < 256) ∧ (0 ≤ e4 ∧ e4 < 256) ∧ (Fm e5 e6 e7 e8 e9 ∨ (e5 = 0 ∧ e6 = 0 ∧ e7 = 0 ∧ e8 = 0 ∧ e9 = 0))) from rfl]
  rw [Bool.decide_and (0 ≤ e0 ∧ e0 ≤ 13), Bool.decide_and (0 ≤ e1 ∧ e1 ≤ 2), Bool.decide_and (0 ≤ e2 ∧ e2 < 256), Bool.decide_and (0 ≤ e3 ∧ e3 < 256), Bool.decide_and (0 ≤ e4 ∧ e4 < 256), Bool.decide_or (Fm e5 e6 e7 e8 e9)]
def zF (e5 e6 e7 e8 e9 : Int) : Bool := !(e5 == 0) || (!(e6 == 0) || (!(e7 == 0) || (!(e8 == 0) || (!(e9 == 0)))))
def nums (e0 e1 e2 e3 e4 e5 e6 e7 e8 e9 : Int) : List Int := if zF e5 e6 e7 e8 e9 = true then [e0, e1, e2, e3, e4, e5, e6, e7, e8, e9] else [e0, e1, e2, e3, e4]
def strI (n : Int) : ByteArray := ⟨(Lib.itoa n).toArray⟩
def show_ (xs : List Int) : ByteArray := ⟨(Lib.join ((xs.map strI).map (·.data.toList)) (⟨#[32]⟩ : ByteArray).data.toList).toArray⟩
theorem nums_in {e0 e1 e2 e3 e4 e5 e6 e7 e8 e9 : Int} (h : EvP e0 e1 e2 e3 e4 e5 e6 e7 e8 e9) : ∀ x ∈ nums e0 e1 e2 e3 e4 e5 e6 e7 e8 e9, 0 ≤ x ∧ x < 4294967296 := by
  obtain ⟨h0, h1, h2, h3, h4, h5⟩ := h
  have h6 : (0 ≤ e5 ∧ e5 < 4294967296) ∧ (0 ≤ e6 ∧ e6 < 4294967296) ∧ (0 ≤ e7 ∧ e7 < 4294967296) ∧ (0 ≤ e8 ∧ e8 < 4294967296) ∧ (0 ≤ e9 ∧ e9 < 4294967296) := by
    rcases h5 with h5 | h5
    · unfold Fm at h5; omega
    · omega
  unfold nums
  split
  · intro x hx
    simp only [List.mem_cons, List.not_mem_nil, or_false] at hx
    omega
  · intro x hx
    simp only [List.mem_cons, List.not_mem_nil, or_false] at hx
    omega
theorem nums_len (e0 e1 e2 e3 e4 e5 e6 e7 e8 e9 : Int) : 0 < (nums e0 e1 e2 e3 e4 e5 e6 e7 e8 e9).length ∧ (nums e0 e1 e2 e3 e4 e5 e6 e7 e8 e9).length ≤ 10 := by
  unfold nums
  split
  · exact ⟨by simp, by simp⟩
  · exact ⟨by simp, by simp⟩
def part (xs : List Int) (n i : Nat) : List ByteArray := (xs.take i).map strI ++ List.replicate (n - i) ⟨#[]⟩
theorem part_zero (xs : List Int) (n : Nat) : part xs n 0 = List.replicate n ⟨#[]⟩ := rfl
theorem part_all (xs : List Int) : part xs xs.length xs.length = xs.map strI := by simp [part]
theorem part_len (xs : List Int) (n i : Nat) (hn : xs.length = n) (hi : i ≤ n) : (part xs n i).length = n := by
  simp only [part, List.length_append, List.length_map, List.length_take, List.length_replicate]
  omega
theorem part_set (xs : List Int) (n i : Nat) (hn : xs.length = n) (hi : i < n) : (part xs n i).set i (strI (xs[i]'(by omega))) = part xs n (i + 1) := by
  have h1 : ((xs.take i).map strI).length = i := by rw [List.length_map, List.length_take]; omega
  unfold part
  rw [List.set_append_right _ _ (by omega), h1, Nat.sub_self]
  obtain ⟨m, hm⟩ : ∃ m, n - i = m + 1 := ⟨n - i - 1, by omega⟩
  rw [hm, show n - (i + 1) = m by omega, List.replicate_succ, List.set_cons_zero, List.take_succ_eq_append_getElem (by omega), List.map_append, List.append_assoc]
  rfl
theorem itoa_len {x : Int} (h : 0 ≤ x ∧ x < 4294967296) : (Lib.itoa x).length ≤ 20 := by
  obtain ⟨u, rfl⟩ := Int.eq_ofNat_of_zero_le h.1
  rw [Lib.itoa_nonneg, Lib.decDigits_length]
  exact Lib.nDigits_le20 u (by omega)
theorem lens_le (xs : List Int) (h : ∀ x ∈ xs, 0 ≤ x ∧ x < 4294967296) : Lib.lens ((xs.map strI).map (·.data.toList)) ≤ 20 * xs.length := by
  induction xs with
  | nil => exact Nat.zero_le _
  | cons x xs ih =>
    have h1 := ih (fun y hy => h y (List.mem_cons_of_mem _ hy))
    have h2 := itoa_len (h x List.mem_cons_self)
    unfold Lib.lens at h1 ⊢
    simp only [List.map_cons, List.sum_cons, List.length_cons]
    have h3 : (strI x).data.toList.length = (Lib.itoa x).length := by simp [strI]
    omega
theorem show_len (xs : List Int) (h : ∀ x ∈ xs, 0 ≤ x ∧ x < 4294967296) (hl : xs.length ≤ 10) : (Lib.join ((xs.map strI).map (·.data.toList)) (⟨#[32]⟩ : ByteArray).data.toList).length ≤ 140737488355328 := by
  cases xs with
  | nil => simp [Lib.join_nil]
  | cons x xs =>
    have h1 := lens_le (x :: xs) h
    simp only [List.map_cons] at h1 ⊢
    have h2 : (⟨#[32]⟩ : ByteArray).data.toList.length = 1 := rfl
    rw [Lib.join_length, h2]
    simp only [List.length_map, List.length_cons] at h1 hl ⊢
    omega
end EvLaw
theorem es_below {w w1 : World} {b : Nat} {o : Obj} (h : w.heap[b]? = some o) (hb : Below w.heap.size w w1) : w1.heap[b]? = some o := (hb.block b (Array.getElem?_eq_some_iff.1 h).1).trans h
theorem es_cell {w : World} {b j : Nat} {cs : Array Value} {t : TypeId} {m : Nat × Nat} (h : w.heap[b]? = some (.cells cs t m)) : w.cell? ⟨b, j, none⟩ = cs[j]? := by simp [World.cell?, h]
theorem es_word {w : World} {base g n c : Nat} {ok : Nat → Prop} {xs : List ByteArray} (h : Kd.R Kd.string 9 w base ok (.slice (some ⟨g, 0, none⟩) n c) xs) (i : Nat) (hi : i < n) : (∃ x : ByteArray, w.cell? ⟨g, i, none⟩ = some (.string x)) ∧ w.frozen? ⟨g, i, none⟩ = false := by
  obtain ⟨cs, hcl, hM, hcc, hfr⟩ := Kd.R_elem h ⟨#[]⟩ (i : Int) (by omega) (by omega)
  obtain rfl : cs = [.string _] := hM
  have h1 := hcc 0 _ rfl
  have h2 := hfr 0
  rw [show (i : Int).toNat * Kd.sz Kd.string + 0 = i by show (i : Int).toNat * 1 + 0 = i; simp] at h1 h2
  exact ⟨⟨_, h1⟩, h2⟩
attribute [local go_sem high] eqA23
open EvLaw in
def event_Show.f (e0 e1 e2 e3 e4 e5 e6 e7 e8 e9 : Int) : Option (ByteArray × Int) := if EvP e0 e1 e2 e3 e4 e5 e6 e7 e8 e9 then some (show_ (nums e0 e1 e2 e3 e4 e5 e6 e7 e8 e9), 0) else some (⟨#[]⟩, 1800)
def event_Show.tab : String := "internal/strconv.uint64pow10"
theorem event_Show.info : (Tryd.prog.info? 3).map (fun i => (i.zero, i.size, i.bytes)) = some (some (.int .i64 0), 1, 8) := by kernel_rfl
theorem event_Show.infoS : (Tryd.prog.info? 9).map (fun i => (i.zero, i.size, i.bytes)) = some (some (.string ⟨#[]⟩), 1, 16) := by kernel_rfl
theorem event_Show.join (g c : Nat) (xs : List Int) (n : Nat) (w : World) (hn : xs.length = n) (hl : n ≤ 10) (hin : ∀ x ∈ xs, 0 ≤ x ∧ x < 4294967296) (base : Nat) (ok : Nat → Prop) (hR : Kd.R Kd.string 9 w base ok (.slice (some ⟨g, 0, none⟩) n c) (xs.map EvLaw.strI)) :
    Calls Tryd.prog 13 #[.slice (some ⟨g, 0, none⟩) n c, .string ⟨#[32]⟩] w fun e w' => e = .returned (.string (EvLaw.show_ xs)) ∧ Below w.heap.size w w' := by
  have hC := Kd.R_reads' hR
  have hlm : (xs.map EvLaw.strI).length = n := by rw [List.length_map, hn]
  have hcells : ∀ (j : Nat) (x : ByteArray), (xs.map EvLaw.strI)[j]? = some x → w.cell? ⟨g, 0 + j, none⟩ = some (.string x) := by
    intro j x hj
    obtain ⟨hj1, hj2⟩ := List.getElem?_eq_some_iff.1 hj
    have h1 := hC.2.2
    obtain ⟨ad, ea, h2⟩ := Kd.at_string h1 (j : Int) (by omega) (by omega)
    cases ea
    simp only [Go.Proofs.YtldfgigajdjcdaaDoor.Hand.hk_add0, Int.toNat_natCast] at h2
    rw [h2]
    congr 2
    simp [rdOf, List.getD_eq_getElem?_getD, hj]
  have hbk : g < w.heap.size := Kd.R_lt hR g (by simp [Value.ownBlock])
  have h3 := Tryd.strings_Join g 0 c (xs.map EvLaw.strI) ⟨#[32]⟩ w hcells hbk (by rw [hlm]; omega) (by have := hC.2.1; omega) (EvLaw.show_len xs hin (by omega))
  rw [hlm] at h3
  exact h3
set_option maxHeartbeats 8000000 in
set_option maxRecDepth 100000 in
theorem event_Show.calls (e0 e1 e2 e3 e4 e5 e6 e7 e8 e9 : Int) (r1 : ByteArray) (r2 : Int) (w : World) (ht : Lib.TabIs Tryd.prog w "internal/strconv.uint64pow10" .u64 Lib.pow10Tab) (h : event_Show.f e0 e1 e2 e3 e4 e5 e6 e7 e8 e9 = some (r1, r2)) :
    Calls Tryd.prog 6 #[.agg #[.int .i64 e0, .int .i64 e1, .int .i64 e2, .int .i64 e3, .int .i64 e4, .int .i64 e5, .int .i64 e6, .int .i64 e7, .int .i64 e8, .int .i64 e9]] w fun e w' => e = .returned (.tuple #[.string r1, .int .i64 r2]) ∧ Below w.heap.size w w' := by
  have hu := Tryd.underlying25
  have hu2 := Tryd.underlying23
  have HT := Aside0.mk (Lib.tabBelow_of_tabIs ht)
  have HB := Aside0.mk (Below.refl w.heap.size w)
  clear ht
  unfold event_Show.f at h
  by_cases hE : EvLaw.EvP e0 e1 e2 e3 e4 e5 e6 e7 e8 e9
  · rw [if_pos hE] at h
    have HE := Aside0.mk (show event_May.f 10 e0 e1 e2 e3 e4 e5 e6 e7 e8 e9 = some true by rw [EvLaw.ev_f e0 e1 e2 e3 e4 e5 e6 e7 e8 e9 10 (by omega), decide_eq_true hE])
    have HIN := Aside0.mk (EvLaw.nums_in hE)
    have HH := Aside0.mk h
    clear hE h
    go_enter Tryd.func6, Tryd.ntmps6
    go_upto_region 1 with fail
    obtain ⟨n1, hn1⟩ : ∃ n, n = w.heap.size := ⟨_, rfl⟩
    obtain ⟨wb, hwb⟩ : ∃ x_, x_ = w.alloc (.cells #[.int .i64 e0, .int .i64 e1, .int .i64 e2, .int .i64 e3, .int .i64 e4, .int .i64 e5, .int .i64 e6, .int .i64 e7, .int .i64 e8, .int .i64 e9] 25) := ⟨_, rfl⟩
    have H1 := Aside0.mk (show wb.heap[n1]? = some (.cells #[.int .i64 e0, .int .i64 e1, .int .i64 e2, .int .i64 e3, .int .i64 e4, .int .i64 e5, .int .i64 e6, .int .i64 e7, .int .i64 e8, .int .i64 e9] 25 (0, 0)) by rw [hwb, hn1]; exact heap_alloc_new w _)
    replace HB := Aside0.mk (show Below w.heap.size w wb by rw [hwb]; exact below_alloc HB.out _)
    rw [← hwb, ← hn1]
    clear hwb hn1
    have k0 : wb.cell? ⟨n1, 0, none⟩ = some (.int .i64 e0) := (es_cell H1.out).trans rfl
    have k1 : wb.cell? ⟨n1, 1, none⟩ = some (.int .i64 e1) := (es_cell H1.out).trans rfl
    have k2 : wb.cell? ⟨n1, 2, none⟩ = some (.int .i64 e2) := (es_cell H1.out).trans rfl
    have k3 : wb.cell? ⟨n1, 3, none⟩ = some (.int .i64 e3) := (es_cell H1.out).trans rfl
    have k4 : wb.cell? ⟨n1, 4, none⟩ = some (.int .i64 e4) := (es_cell H1.out).trans rfl
    have k5 : wb.cell? ⟨n1, 5, none⟩ = some (.int .i64 e5) := (es_cell H1.out).trans rfl
    have k6 : wb.cell? ⟨n1, 6, none⟩ = some (.int .i64 e6) := (es_cell H1.out).trans rfl
    have k7 : wb.cell? ⟨n1, 7, none⟩ = some (.int .i64 e7) := (es_cell H1.out).trans rfl
    have k8 : wb.cell? ⟨n1, 8, none⟩ = some (.int .i64 e8) := (es_cell H1.out).trans rfl
    have k9 : wb.cell? ⟨n1, 9, none⟩ = some (.int .i64 e9) := (es_cell H1.out).trans rfl
    go_upto_if 27 with first
      | (go_at_call 9; refine (event_May.calls 10 e0 e1 e2 e3 e4 e5 e6 e7 e8 e9 true _ HE.out).mono ?_; rintro e w1 ⟨rfl, hb⟩; replace H1 := Aside0.mk (es_below H1.out hb); replace HB := Aside0.mk (below_step HB.out hb); clear k0 k1 k2 k3 k4 k5 k6 k7 k8 k9; have k0 : w1.cell? ⟨n1, 0, none⟩ = some (.int .i64 e0) := (es_cell H1.out).trans rfl; have k1 : w1.cell? ⟨n1, 1, none⟩ = some (.int .i64 e1) := (es_cell H1.out).trans rfl; have k2 : w1.cell? ⟨n1, 2, none⟩ = some (.int .i64 e2) := (es_cell H1.out).trans rfl; have k3 : w1.cell? ⟨n1, 3, none⟩ = some (.int .i64 e3) := (es_cell H1.out).trans rfl; have k4 : w1.cell? ⟨n1, 4, none⟩ = some (.int .i64 e4) := (es_cell H1.out).trans rfl; have k5 : w1.cell? ⟨n1, 5, none⟩ = some (.int .i64 e5) := (es_cell H1.out).trans rfl; have k6 : w1.cell? ⟨n1, 6, none⟩ = some (.int .i64 e6) := (es_cell H1.out).trans rfl; have k7 : w1.cell? ⟨n1, 7, none⟩ = some (.int .i64 e7) := (es_cell H1.out).trans rfl; have k8 : w1.cell? ⟨n1, 8, none⟩ = some (.int .i64 e8) := (es_cell H1.out).trans rfl; have k9 : w1.cell? ⟨n1, 9, none⟩ = some (.int .i64 e9) := (es_cell H1.out).trans rfl; clear hb)
      | ((with_reducible refine gate_dst (N := 22) rfl ?_); refine Kd.R_lit (Kd.int .i64) _ 3 ?hg (N := 22) ?hd (xs := [e0, e1, e2, e3, e4]) (inner := [.int .i64 e0, .int .i64 e1, .int .i64 e2, .int .i64 e3, .int .i64 e4]) (ok := fun _ => True) (okp := fun _ => True) ?hr ?hp (fun _ hk => hk) trivial (Below.refl _ _) (Nat.le_refl _) (by simp) ?_; (case hd => rfl); (case hg => rfl); (case hr => first | (go_simp; done) | (go_simp; rfl)); (case hp => exact (Reps.one (show Kd.M (Kd.int .i64) _ _ _ e0 [.int .i64 e0] from rfl) (Reps.one (show Kd.M (Kd.int .i64) _ _ _ e1 [.int .i64 e1] from rfl) (Reps.one (show Kd.M (Kd.int .i64) _ _ _ e2 [.int .i64 e2] from rfl) (Reps.one (show Kd.M (Kd.int .i64) _ _ _ e3 [.int .i64 e3] from rfl) (Reps.one (show Kd.M (Kd.int .i64) _ _ _ e4 [.int .i64 e4] from rfl) (Reps.none _ _))))))); intro v22 w2 ho hb hg_ hnew_; have HO := Aside0.mk (Kd.R_lower ho (below_size HB.out)); replace H1 := Aside0.mk (es_below H1.out hb); replace HB := Aside0.mk (below_step HB.out hb); clear k0 k1 k2 k3 k4 k5 k6 k7 k8 k9; have k0 : w2.cell? ⟨n1, 0, none⟩ = some (.int .i64 e0) := (es_cell H1.out).trans rfl; have k1 : w2.cell? ⟨n1, 1, none⟩ = some (.int .i64 e1) := (es_cell H1.out).trans rfl; have k2 : w2.cell? ⟨n1, 2, none⟩ = some (.int .i64 e2) := (es_cell H1.out).trans rfl; have k3 : w2.cell? ⟨n1, 3, none⟩ = some (.int .i64 e3) := (es_cell H1.out).trans rfl; have k4 : w2.cell? ⟨n1, 4, none⟩ = some (.int .i64 e4) := (es_cell H1.out).trans rfl; have k5 : w2.cell? ⟨n1, 5, none⟩ = some (.int .i64 e5) := (es_cell H1.out).trans rfl; have k6 : w2.cell? ⟨n1, 6, none⟩ = some (.int .i64 e6) := (es_cell H1.out).trans rfl; have k7 : w2.cell? ⟨n1, 7, none⟩ = some (.int .i64 e7) := (es_cell H1.out).trans rfl; have k8 : w2.cell? ⟨n1, 8, none⟩ = some (.int .i64 e8) := (es_cell H1.out).trans rfl; have k9 : w2.cell? ⟨n1, 9, none⟩ = some (.int .i64 e9) := (es_cell H1.out).trans rfl; clear hb ho hg_ hnew_)
    (try simp only [Act.put, List.setIfInBounds_toArray, List.set_cons_zero, List.set_cons_succ])
    by_cases hz : EvLaw.zF e5 e6 e7 e8 e9 = true
    · have hnum : EvLaw.nums e0 e1 e2 e3 e4 e5 e6 e7 e8 e9 = [e0, e1, e2, e3, e4] ++ [e5, e6, e7, e8, e9] := if_pos hz
      have c15 : (!(e5 == 0) || (!(e6 == 0) || (!(e7 == 0) || (!(e8 == 0) || (!(e9 == 0)))))) = true := hz
      have HNU := Aside0.mk hnum
      rw [c15]
      clear hz hnum c15
      go_upto_region 7 with first
        | ((with_reducible refine gate_dst (N := 39) rfl ?_); refine Kd.R_lit (Kd.int .i64) _ 3 ?hg (N := 39) ?hd (xs := [e5, e6, e7, e8, e9]) (inner := [.int .i64 e5, .int .i64 e6, .int .i64 e7, .int .i64 e8, .int .i64 e9]) (ok := fun _ => True) (okp := fun _ => True) ?hr ?hp (fun _ hk => hk) trivial (Below.refl _ _) (Nat.le_refl _) (by simp) ?_; (case hd => rfl); (case hg => rfl); (case hr => first | (go_simp; done) | (go_simp; rfl)); (case hp => exact (Reps.one (show Kd.M (Kd.int .i64) _ _ _ e5 [.int .i64 e5] from rfl) (Reps.one (show Kd.M (Kd.int .i64) _ _ _ e6 [.int .i64 e6] from rfl) (Reps.one (show Kd.M (Kd.int .i64) _ _ _ e7 [.int .i64 e7] from rfl) (Reps.one (show Kd.M (Kd.int .i64) _ _ _ e8 [.int .i64 e8] from rfl) (Reps.one (show Kd.M (Kd.int .i64) _ _ _ e9 [.int .i64 e9] from rfl) (Reps.none _ _))))))); intro v39 w3 ho hb hg_ hnew_; have HO2 := Aside0.mk (Kd.R_below (Kd.R_alloc HO.out _) hb); replace HB := Aside0.mk (below_step (below_alloc HB.out _) hb); obtain ⟨g39, c39, rfl, _, _⟩ := Go.Proofs.YtldfgigajdjcdaaDoor.Hand.hk_own ho (by simp); have O39 := Aside0.mk (Kd.R_reads' ho).2.2; clear hb ho hg_ hnew_)
        | ((with_reducible refine gate_builtin (b := .append) (xs := #[.tmp 28, .tmp 39]) rfl ?_); at_builtin; refine Kd.R_append_rows (Kd.int .i64) (w0 := w) w.heap.size rfl (.tmp 28) (.tmp 39) 38 3 (.int .i64 0) 8 rfl Tryd.underlying38 event_Show.info rfl (by decide) (by omega) v22 [e0, e1, e2, e3, e4] [e5, e6, e7, e8, e9] _ _ _ (fun _ => True) (fun _ => False) rfl rfl ?aO ?aR (fun _ _ h => h) (fun _ h => h.elim) ?aF ?aB ?aS ?aL ?_; (case aR => exact O39.out); (case aB => exact HB.out); (case aF => exact (fun _ _ => trivial)); (case aO => exact HO2.out); (case aS => exact below_size HB.out); (case aL => simp); intro v40 w4 ho hb hg hat; have HO4 := Aside0.mk ho; replace HB := Aside0.mk hb; clear ho hb hg hat)
      have HO3 := Aside0.mk (show Kd.R (Kd.int .i64) 3 w4 w.heap.size (fun _ => True) v40 (EvLaw.nums e0 e1 e2 e3 e4 e5 e6 e7 e8 e9) by rw [HNU.out]; exact HO4.out)
      obtain ⟨xs, hxs⟩ : ∃ xs, EvLaw.nums e0 e1 e2 e3 e4 e5 e6 e7 e8 e9 = xs := ⟨_, rfl⟩
      have hin := HIN.out
      have hlen := EvLaw.nums_len e0 e1 e2 e3 e4 e5 e6 e7 e8 e9
      have hh := HH.out
      rw [hxs] at hin hlen hh HO3
      clear hxs
      obtain ⟨rfl, rfl⟩ : EvLaw.show_ xs = r1 ∧ 0 = r2 := by simpa using hh
      clear hh HH HIN HNU HO
      obtain ⟨gN, cN, rfl, _, _⟩ := Go.Proofs.YtldfgigajdjcdaaDoor.Hand.hk_own HO3.out hlen.1
      have HC := Aside0.mk (Kd.R_reads' HO3.out).2.2
      obtain ⟨n, hn⟩ : ∃ n, xs.length = n := ⟨_, rfl⟩
      rw [hn] at HO3 HC hlen ⊢
      have HIN := Aside0.mk hin
      have HN := Aside0.mk hn
      have HL := Aside0.mk hlen
      clear hin hn hlen
      go_upto_region 8 with
        ((with_reducible refine gate_dst (N := 43) rfl ?_); refine Kd.R_make Kd.string (w0 := w4) w4.heap.size 9 rfl (N := 43) rfl 39 (.tmp 42) (.tmp 42) rfl (n : Int) rfl rfl Tryd.underlying39 (.string ⟨#[]⟩) 16 event_Show.infoS rfl (by decide) (by omega) ⟨#[]⟩ (ok := fun _ => True) (okp := fun _ => True) (show Kd.M Kd.string _ _ _ ⟨#[]⟩ [.string ⟨#[]⟩] from rfl) (fun _ hk => hk) trivial (by omega) (by have := HL.out; simp only [Int.toNat_natCast]; omega) (Below.refl _ _) (Nat.le_refl _) ?_; intro v43 w5 ho hb hg_ hnew_; rw [Int.toNat_natCast] at ho; obtain ⟨gW, cW, rfl, hgW, _⟩ := Go.Proofs.YtldfgigajdjcdaaDoor.Hand.hk_own ho (by rw [List.length_replicate]; exact HL.out.1); rw [List.length_replicate] at ho; rw [List.length_replicate]; have HW := Aside0.mk ho; have HB5 := Aside0.mk hb; have HGW := Aside0.mk hgW; clear hb ho hg_ hnew_ hgW)
      go_wp2_with fail
      go_loopw [46] (fun vi wr => ∃ i : Nat, vi = .int .i64 i ∧ i ≤ n ∧ Aside0 (Kd.R Kd.string 9 wr w4.heap.size (fun _ => True) (.slice (some ⟨gW, 0, none⟩) n cW) (EvLaw.part xs n i)) ∧ Aside0 (Below w4.heap.size w4 wr)) (fun vi _ => n - (intOf vi).toNat)
      case atStart => exact ⟨0, rfl, Nat.zero_le _, HW, HB5⟩
      case round =>
        clear HW HB5
        obtain ⟨i, rfl, hi, HW, HB5⟩ := hrel
        by_cases hlt : i < n
        · obtain ⟨ad, ea, q0⟩ := Kd.at_int (Kd.C_below HC.out HB5.out) (i : Int) (by omega) (by omega)
          cases ea
          have hxi : i < xs.length := by have := HN.out; omega
          obtain ⟨x, hx⟩ : ∃ x, rd xs (i : Int) = x := ⟨_, rfl⟩
          have hx2 : xs[i] = x := by rw [← hx]; simp [rd, hxi]
          have HX := Aside0.mk (show 0 ≤ x ∧ x < 4294967296 from HIN.out x (by rw [← hx2]; exact List.getElem_mem hxi))
          have HPS := Aside0.mk (show (EvLaw.part xs n i).set i (EvLaw.strI x) = EvLaw.part xs n (i + 1) by rw [← hx2]; exact EvLaw.part_set xs n i HN.out hlt)
          rw [hx] at q0
          simp only [Go.Proofs.YtldfgigajdjcdaaDoor.Hand.hk_add0, Int.toNat_natCast, Nat.zero_add] at q0
          clear hx hx2 hxi
          have p1 : ((0 : Int) ≤ (i : Int)) = True := eq_true (by omega)
          have p2 : ((i : Int) < (n : Int)) = True := eq_true (by omega)
          go_wp2_with first
            | (go_at_call 12; refine (Tryd.strconv_Itoa x (by have := HX.out; omega) (by have := HX.out; omega) _ (HT.out _ (below_step HB.out HB5.out))).mono ?_; rintro e w6 ⟨rfl, k_, os_, hw6⟩; have HB6 := Aside0.mk (show Below wr.heap.size wr w6 by rw [hw6]; exact Lib.below_grow wr.heap.size wr (Nat.le_refl _) k_ os_); clear hw6; have HW6 := Aside0.mk (Kd.R_below HW.out HB6.out); obtain ⟨⟨s_, z0⟩, y0⟩ := es_word HW6.out i hlt)
          have hnn := HL.out.2
          have hw : wrap64 ((i : Int) + 1) = ((i + 1 : Nat) : Int) := by unfold wrap64; omega
          have HP := Aside0.mk (show Kd.R Kd.string 9 (w6.setCell ⟨gW, i, none⟩ (.string (EvLaw.strI x))) w4.heap.size (fun _ => True) (.slice (some ⟨gW, 0, none⟩) n cW) (EvLaw.part xs n (i + 1)) by have h1 := Kd.R_putn HW6.out (i : Int) (EvLaw.strI x); rw [Int.toNat_natCast, HPS.out] at h1; exact h1)
          have HB9 := Aside0.mk (show Below w4.heap.size w4 (w6.setCell ⟨gW, i, none⟩ (.string (EvLaw.strI x))) from (below_step HB5.out HB6.out).setCell HGW.out _)
          have hle1 : i + 1 ≤ n := hlt
          have hms : n - (i + 1) < n - i := Nat.sub_lt_sub_left hlt (Nat.lt_succ_self i)
          go_roundw
          case rel => exact ⟨i + 1, by rw [hw], hle1, HP, HB9⟩
          case measure =>
            have e1 : (intOf (.int .i64 (wrap64 ((i : Int) + 1)))).toNat = i + 1 := by rw [hw]; rfl
            have e2 : (intOf (.int .i64 (i : Int))).toNat = i := rfl
            rw [e1, e2]
            exact hms
        · obtain rfl : i = n := by omega
          have p3 : ((i : Int) < (i : Int)) = False := eq_false (by omega)
          have HP := Aside0.mk (show Kd.R Kd.string 9 wr w4.heap.size (fun _ => True) (.slice (some ⟨gW, 0, none⟩) i cW) (xs.map EvLaw.strI) by have h1 := HW.out; rw [← HN.out, EvLaw.part_all] at h1; rw [← HN.out]; exact h1)
          go_wp2_with
            (go_at_call 13; refine (event_Show.join gW cW xs i wr HN.out HL.out.2 HIN.out w4.heap.size (fun _ => True) HP.out).mono ?_; rintro e w7 ⟨rfl, hb⟩; have HB7 := Aside0.mk (below_step HB5.out hb); clear hb)
          refine bodyPost_ret (results_list (rs := [.tmp 2, .tmp 3]) rfl (by simp) (.tmp (.tmp .nil))) rfl ?_
          exact ⟨rfl, below_step HB.out HB7.out⟩
    · have hnum : EvLaw.nums e0 e1 e2 e3 e4 e5 e6 e7 e8 e9 = [e0, e1, e2, e3, e4] := if_neg hz
      have c15 : (!(e5 == 0) || (!(e6 == 0) || (!(e7 == 0) || (!(e8 == 0) || (!(e9 == 0)))))) = false := by simpa [EvLaw.zF] using hz
      have HNU := Aside0.mk hnum
      rw [c15]
      clear hz hnum c15
      go_upto_region 7 with fail
      obtain ⟨w4, hw4⟩ : ∃ x_, x_ = w2.alloc (.cells #[.int .i64 e5, .int .i64 e6, .int .i64 e7, .int .i64 e8, .int .i64 e9] 23) := ⟨_, rfl⟩
      have HO3 := Aside0.mk (show Kd.R (Kd.int .i64) 3 w4 w.heap.size (fun _ => True) v22 (EvLaw.nums e0 e1 e2 e3 e4 e5 e6 e7 e8 e9) by rw [HNU.out, hw4]; exact Kd.R_alloc HO.out _)
      replace HB := Aside0.mk (show Below w.heap.size w w4 by rw [hw4]; exact below_alloc HB.out _)
      rw [← hw4]
      clear hw4
      obtain ⟨xs, hxs⟩ : ∃ xs, EvLaw.nums e0 e1 e2 e3 e4 e5 e6 e7 e8 e9 = xs := ⟨_, rfl⟩
      have hin := HIN.out
      have hlen := EvLaw.nums_len e0 e1 e2 e3 e4 e5 e6 e7 e8 e9
      have hh := HH.out
      rw [hxs] at hin hlen hh HO3
      clear hxs
      obtain ⟨rfl, rfl⟩ : EvLaw.show_ xs = r1 ∧ 0 = r2 := by simpa using hh
      clear hh HH HIN HNU HO
      obtain ⟨gN, cN, rfl, _, _⟩ := Go.Proofs.YtldfgigajdjcdaaDoor.Hand.hk_own HO3.out hlen.1
      have HC := Aside0.mk (Kd.R_reads' HO3.out).2.2
      obtain ⟨n, hn⟩ : ∃ n, xs.length = n := ⟨_, rfl⟩
      rw [hn] at HO3 HC hlen ⊢
      have HIN := Aside0.mk hin
      have HN := Aside0.mk hn
      have HL := Aside0.mk hlen
      clear hin hn hlen
      go_upto_region 8 with
        ((with_reducible refine gate_dst (N := 43) rfl ?_); refine Kd.R_make Kd.string (w0 := w4) w4.heap.size 9 rfl (N := 43) rfl 39 (.tmp 42) (.tmp 42) rfl (n : Int) rfl rfl Tryd.underlying39 (.string ⟨#[]⟩) 16 event_Show.infoS rfl (by decide) (by omega) ⟨#[]⟩ (ok := fun _ => True) (okp := fun _ => True) (show Kd.M Kd.string _ _ _ ⟨#[]⟩ [.string ⟨#[]⟩] from rfl) (fun _ hk => hk) trivial (by omega) (by have := HL.out; simp only [Int.toNat_natCast]; omega) (Below.refl _ _) (Nat.le_refl _) ?_; intro v43 w5 ho hb hg_ hnew_; rw [Int.toNat_natCast] at ho; obtain ⟨gW, cW, rfl, hgW, _⟩ := Go.Proofs.YtldfgigajdjcdaaDoor.Hand.hk_own ho (by rw [List.length_replicate]; exact HL.out.1); rw [List.length_replicate] at ho; rw [List.length_replicate]; have HW := Aside0.mk ho; have HB5 := Aside0.mk hb; have HGW := Aside0.mk hgW; clear hb ho hg_ hnew_ hgW)
      go_wp2_with fail
      go_loopw [46] (fun vi wr => ∃ i : Nat, vi = .int .i64 i ∧ i ≤ n ∧ Aside0 (Kd.R Kd.string 9 wr w4.heap.size (fun _ => True) (.slice (some ⟨gW, 0, none⟩) n cW) (EvLaw.part xs n i)) ∧ Aside0 (Below w4.heap.size w4 wr)) (fun vi _ => n - (intOf vi).toNat)
      case atStart => exact ⟨0, rfl, Nat.zero_le _, HW, HB5⟩
      case round =>
        clear HW HB5
        obtain ⟨i, rfl, hi, HW, HB5⟩ := hrel
        by_cases hlt : i < n
        · obtain ⟨ad, ea, q0⟩ := Kd.at_int (Kd.C_below HC.out HB5.out) (i : Int) (by omega) (by omega)
          cases ea
          have hxi : i < xs.length := by have := HN.out; omega
          obtain ⟨x, hx⟩ : ∃ x, rd xs (i : Int) = x := ⟨_, rfl⟩
          have hx2 : xs[i] = x := by rw [← hx]; simp [rd, hxi]
          have HX := Aside0.mk (show 0 ≤ x ∧ x < 4294967296 from HIN.out x (by rw [← hx2]; exact List.getElem_mem hxi))
          have HPS := Aside0.mk (show (EvLaw.part xs n i).set i (EvLaw.strI x) = EvLaw.part xs n (i + 1) by rw [← hx2]; exact EvLaw.part_set xs n i HN.out hlt)
          rw [hx] at q0
          simp only [Go.Proofs.YtldfgigajdjcdaaDoor.Hand.hk_add0, Int.toNat_natCast, Nat.zero_add] at q0
          clear hx hx2 hxi
          have p1 : ((0 : Int) ≤ (i : Int)) = True := eq_true (by omega)
          have p2 : ((i : Int) < (n : Int)) = True := eq_true (by omega)
          go_wp2_with first
            | (go_at_call 12; refine (Tryd.strconv_Itoa x (by have := HX.out; omega) (by have := HX.out; omega) _ (HT.out _ (below_step HB.out HB5.out))).mono ?_; rintro e w6 ⟨rfl, k_, os_, hw6⟩; have HB6 := Aside0.mk (show Below wr.heap.size wr w6 by rw [hw6]; exact Lib.below_grow wr.heap.size wr (Nat.le_refl _) k_ os_); clear hw6; have HW6 := Aside0.mk (Kd.R_below HW.out HB6.out); obtain ⟨⟨s_, z0⟩, y0⟩ := es_word HW6.out i hlt)
          have hnn := HL.out.2
          have hw : wrap64 ((i : Int) + 1) = ((i + 1 : Nat) : Int) := by unfold wrap64; omega
          have HP := Aside0.mk (show Kd.R Kd.string 9 (w6.setCell ⟨gW, i, none⟩ (.string (EvLaw.strI x))) w4.heap.size (fun _ => True) (.slice (some ⟨gW, 0, none⟩) n cW) (EvLaw.part xs n (i + 1)) by have h1 := Kd.R_putn HW6.out (i : Int) (EvLaw.strI x); rw [Int.toNat_natCast, HPS.out] at h1; exact h1)
          have HB9 := Aside0.mk (show Below w4.heap.size w4 (w6.setCell ⟨gW, i, none⟩ (.string (EvLaw.strI x))) from (below_step HB5.out HB6.out).setCell HGW.out _)
          have hle1 : i + 1 ≤ n := hlt
          have hms : n - (i + 1) < n - i := Nat.sub_lt_sub_left hlt (Nat.lt_succ_self i)
          go_roundw
          case rel => exact ⟨i + 1, by rw [hw], hle1, HP, HB9⟩
          case measure =>
            have e1 : (intOf (.int .i64 (wrap64 ((i : Int) + 1)))).toNat = i + 1 := by rw [hw]; rfl
            have e2 : (intOf (.int .i64 (i : Int))).toNat = i := rfl
            rw [e1, e2]
            exact hms
        · obtain rfl : i = n := by omega
          have p3 : ((i : Int) < (i : Int)) = False := eq_false (by omega)
          have HP := Aside0.mk (show Kd.R Kd.string 9 wr w4.heap.size (fun _ => True) (.slice (some ⟨gW, 0, none⟩) i cW) (xs.map EvLaw.strI) by have h1 := HW.out; rw [← HN.out, EvLaw.part_all] at h1; rw [← HN.out]; exact h1)
          go_wp2_with
            (go_at_call 13; refine (event_Show.join gW cW xs i wr HN.out HL.out.2 HIN.out w4.heap.size (fun _ => True) HP.out).mono ?_; rintro e w7 ⟨rfl, hb⟩; have HB7 := Aside0.mk (below_step HB5.out hb); clear hb)
          refine bodyPost_ret (results_list (rs := [.tmp 2, .tmp 3]) rfl (by simp) (.tmp (.tmp .nil))) rfl ?_
          exact ⟨rfl, below_step HB.out HB7.out⟩
  · rw [if_neg hE] at h
    obtain ⟨rfl, rfl⟩ : (⟨#[]⟩ : ByteArray) = r1 ∧ 1800 = r2 := by simpa using h
    have HE := Aside0.mk (show event_May.f 10 e0 e1 e2 e3 e4 e5 e6 e7 e8 e9 = some false by rw [EvLaw.ev_f e0 e1 e2 e3 e4 e5 e6 e7 e8 e9 10 (by omega), decide_eq_false hE])
    clear hE h
    go_enter Tryd.func6, Tryd.ntmps6
    go_wp2_with first
      | (go_at_call 9; refine (event_May.calls 10 e0 e1 e2 e3 e4 e5 e6 e7 e8 e9 false _ HE.out).mono ?_; rintro e w1 ⟨rfl, hb⟩; replace HB := Aside0.mk (below_step (below_alloc HB.out _) hb); clear hb)
    refine bodyPost_ret (results_list (rs := [.tmp 2, .tmp 3]) rfl (by simp) (.tmp (.tmp .nil))) rfl ?_
    exact ⟨rfl, HB.out⟩


end Go.Proofs.YtldfgigajdjcdaaDoor.PEvents
