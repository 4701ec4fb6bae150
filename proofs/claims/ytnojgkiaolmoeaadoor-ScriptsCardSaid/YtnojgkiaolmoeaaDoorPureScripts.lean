/- Scripts are shown and parsed as the document says, for any acts and any text; the acts stay. -/
import Derived.Test.YtnojgkiaolmoeaaDoorPScx38
import Derived.Test.YtnojgkiaolmoeaaDoorOpenScripts
import Derived.Test.YtnojgkiaolmoeaaDoorText
import Derived.Lib.LazyBuf
set_option linter.unusedVariables false
set_option linter.unusedSimpArgs false
namespace Go.Proofs.YtnojgkiaolmoeaaDoor.Pure
open Go.RowKit Go.Proofs.YtnojgkiaolmoeaaDoor.PSc Go.Proofs.YtnojgkiaolmoeaaDoorW.PrintWords Go.Proofs.YtnojgkiaolmoeaaDoorW.PrintLast Go.Proofs.YtnojgkiaolmoeaaDoorW.PrintMore

theorem in_any (x : Int) (b n : Nat) (hb : b ≤ 64) (hn : 2 ^ b = n) : ip_In.f x (b : Int) = some (decide (0 ≤ x ∧ x < (n : Int))) := by
  unfold ip_In.f
  by_cases h : x ≥ 0
  · rw [if_pos h, if_pos (by omega)]
    have hn0 : 0 < n := by rw [← hn]; exact Nat.two_pow_pos b
    have e : shr .i64 x (b : Int) = x / (n : Int) := by
      unfold shr
      rw [Int.toNat_natCast, Nat.min_eq_left (by simpa [IntKind.bits] using hb), ← hn]
      simp
    rw [e]; congr 1
    rw [Bool.eq_iff_iff]
    simp only [beq_iff_eq, decide_eq_true_eq]
    constructor
    · intro hz
      refine ⟨h, ?_⟩
      have := Int.lt_ediv_add_one_mul_self x (show (0 : Int) < n by omega)
      rw [hz] at this
      omega
    · rintro ⟨_, hlt⟩
      exact Int.ediv_eq_zero_of_lt h hlt
  · rw [if_neg h]; congr 1; simp; omega
theorem in8 (x : Int) : ip_In.f x 8 = some (decide (0 ≤ x ∧ x < 256)) := in_any x 8 256 (by decide) (by decide)
abbrev Ac := S40
abbrev Si := S63
theorem j0_f (k : Nat) (b4 b5 : Bool) (a0 a1 a2 a3 a4 a5 : Int) (a6 : Bool) (a7 : ByteArray) (a8 : Int) (l9 : List Si) : script_May.j0 (k + 2) b4 b5 a0 a1 a2 a3 a4 a5 a6 a7 a8 l9 = some (b4 && (b5 && (decide (0 ≤ a1 ∧ a1 ≤ 2) && (decide (0 ≤ a2 ∧ a2 < 256) && (decide (0 ≤ a3 ∧ a3 < 256) && (decide (0 ≤ a4 ∧ a4 < 256) && (decide (0 ≤ a5 ∧ a5 < 32) && (decide (a7.size ≤ 512) && (l9.all siteOk && decide (0 ≤ a8 ∧ a8 ≤ 1048576) && decide (l9.length ≤ 3)))))))))) := rfl
theorem may_j (k : Nat) (a0 a1 a2 a3 a4 a5 : Int) (a6 : Bool) (a7 : ByteArray) (a8 : Int) (l9 : List Si) : ∃ is b : Bool, script_May.f (k + 2) a0 a1 a2 a3 a4 a5 a6 a7 a8 l9 = script_May.j0 (k + 2) is b a0 a1 a2 a3 a4 a5 a6 a7 a8 l9 ∧ (is = true → 0 ≤ a0 ∧ a0 ≤ 9) ∧ (b = true → a0 ≠ 9 → a8 = 0 ∧ l9 = []) := by
  refine ⟨_, _, rfl, fun h => of_decide_eq_true h, fun h h9 => ?_⟩
  have h2 : (a0 == 9) = false := beq_eq_false_iff_ne.2 h9
  simp only [script_May.nB, script_named.nC, script_named.nN, h2, Bool.false_eq_true, if_false, Bool.and_eq_true, decide_eq_true_eq, beq_iff_eq] at h
  exact ⟨h.2.2.2.1, List.eq_nil_of_length_eq_zero (by have := h.2.2.2.2; omega)⟩

theorem may_some (k : Nat) (x : Ac) : ∃ b, script_May.f (k + 2) x.f0 x.f1 x.f2 x.f3 x.f4 x.f5 x.f6 x.f7 x.f8.f0 x.f8.f1 = some b := by
  obtain ⟨is, b, e, _, _⟩ := may_j k x.f0 x.f1 x.f2 x.f3 x.f4 x.f5 x.f6 x.f7 x.f8.f0 x.f8.f1
  exact ⟨_, e.trans (j0_f k is b _ _ _ _ _ _ _ _ _ _)⟩
theorem okI_small {n : Int} (h : 0 ≤ n ∧ n ≤ 1048576) : okI n = true := by
  unfold okI
  rw [decide_eq_true (by omega), decide_eq_true (by omega)]
  rfl
theorem sm_of {n : Int} (h : 0 ≤ n ∧ n ≤ 1048576) : Take.Sm n := ⟨by omega, by omega⟩
theorem may_yes (k : Nat) (x : Ac) (h : script_May.f (k + 2) x.f0 x.f1 x.f2 x.f3 x.f4 x.f5 x.f6 x.f7 x.f8.f0 x.f8.f1 = some true) : Take.ActS x ∧ actOkI x = true := by
  obtain ⟨is, b, e, h1, h2⟩ := may_j k x.f0 x.f1 x.f2 x.f3 x.f4 x.f5 x.f6 x.f7 x.f8.f0 x.f8.f1
  rw [e, j0_f] at h
  replace h := Option.some.inj h
  simp only [Bool.and_eq_true, decide_eq_true_eq, List.all_eq_true] at h
  obtain ⟨ha, hb, hr, hs, hn, ht, hat, hz, ⟨hsi, hv⟩, hl⟩ := h
  have hk := h1 ha
  have hst : ∀ y ∈ x.f8.f1, (0 ≤ y.f0 ∧ y.f0 ≤ 16) ∧ (0 ≤ y.f2 ∧ y.f2 ≤ 8) ∧ y.f3.length ≤ 4 ∧ ∀ z ∈ y.f3, 0 ≤ z.f0 ∧ z.f0 ≤ 16 := by
    intro y hy
    have h := hsi y hy
    unfold siteOk backOk at h
    simp only [Bool.and_eq_true, decide_eq_true_eq, List.all_eq_true] at h
    exact ⟨h.1.1.2, h.1.2, h.2, h.1.1.1⟩
  constructor
  · refine ⟨sm_of (by omega), sm_of (by omega), sm_of (by omega), sm_of (by omega), sm_of (by omega), sm_of (by omega), hz, sm_of (by omega), hl, fun y hy => ?_, fun h9 => ?_⟩
    · obtain ⟨p0, p2, p3, pb⟩ := hst y hy
      exact ⟨sm_of (by omega), sm_of (by omega), p3, fun z hz => sm_of (by have := pb z hz; omega)⟩
    · obtain ⟨e1, e2⟩ := h2 hb h9
      cases hx : x.f8 with
      | mk p q =>
        rw [hx] at e1 e2
        cases e1
        cases e2
        rfl
  · unfold actOkI
    rw [okI_small (by omega), okI_small (by omega), okI_small (by omega), okI_small (by omega), okI_small (by omega), okI_small (by omega), decide_eq_true hz, okI_small (by omega), decide_eq_true hl]
    simp only [Bool.true_and, List.all_eq_true]
    intro y hy
    obtain ⟨p0, p2, p3, pb⟩ := hst y hy
    unfold siteOkI
    rw [okI_small (by omega), okI_small (by omega), decide_eq_true p3]
    simp only [Bool.true_and, List.all_eq_true]
    intro z hz
    have := pb z hz
    exact okI_small (by omega)
def mayB (x : Ac) : Bool := (script_May.f 2 x.f0 x.f1 x.f2 x.f3 x.f4 x.f5 x.f6 x.f7 x.f8.f0 x.f8.f1).getD false
theorem may_eq (k : Nat) (x : Ac) : script_May.f (k + 2) x.f0 x.f1 x.f2 x.f3 x.f4 x.f5 x.f6 x.f7 x.f8.f0 x.f8.f1 = some (mayB x) := by
  induction k with
  | zero =>
    obtain ⟨b, e⟩ := may_some 0 x
    unfold mayB
    rw [e]
    rfl
  | succ k ih => exact script_May.mono _ _ _ _ _ _ _ _ _ _ _ _ ih
theorem mayB_ (x : Ac) (h : mayB x = true) : Take.ActS x ∧ actOkI x = true := may_yes 0 x (by rw [may_eq, h])
def good (l : List Ac) : Prop := l.length ≤ 256 ∧ l.all mayB = true
def txt (l : List Ac) : ByteArray := ⟨(l.flatMap Pen.actT).toArray⟩
theorem showR_f (k : Nat) (l : List Ac) : ∀ acc, showR (k + 2) l acc = if l.all mayB = true then some (⟨(acc ++ l.flatMap Pen.actT).toArray⟩, 0) else some ((⟨#[]⟩ : ByteArray), 2300) := by
  induction l with
  | nil => intro acc; simp [showR]
  | cons x r ih =>
    intro acc
    rw [showR, may_eq, Option.bind_some, List.all_cons]
    cases hm : mayB x
    · rfl
    · rw [if_pos rfl, if_pos (mayB_ x hm).2, ih, Bool.true_and]
      simp
theorem show_f (k : Nat) (l : List Ac) (h : good l) : script_Show.f (k + 2) l = some (txt l, 0) := by
  unfold script_Show.f
  rw [if_neg (by have := h.1; omega), showR_f, if_pos h.2]
  rfl
theorem show_no (k : Nat) (l : List Ac) (h : ¬ good l) : script_Show.f (k + 2) l = some ((⟨#[]⟩ : ByteArray), 2300) := by
  unfold script_Show.f
  by_cases h1 : l.length > 256
  · rw [if_pos h1]
  · rw [if_neg h1, showR_f, if_neg (fun q => h ⟨by omega, q⟩)]
theorem parseL_f (l : List Ac) (hs : ∀ x ∈ l, Take.ActS x) : ∀ (f : Nat) (acc : List Ac), acc.length + l.length ≤ 256 → l.length < f → parseL f acc (l.flatMap Pen.actT, false) = (acc ++ l, ([], false)) := by
  induction l with
  | nil =>
    intro f acc ha hf
    obtain ⟨f, rfl⟩ : ∃ n, f = n + 1 := ⟨f - 1, by simp only [List.length_nil] at hf; omega⟩
    rw [parseL, if_neg (fun q => q.1 rfl)]
    simp
  | cons x r ih =>
    intro f acc ha hf
    simp only [List.length_cons] at ha hf
    obtain ⟨f, rfl⟩ : ∃ n, f = n + 1 := ⟨f - 1, by omega⟩
    have e : (x :: r).flatMap Pen.actT = Pen.actT x ++ r.flatMap Pen.actT := by simp
    rw [parseL, e, if_pos ⟨Take.act_ne x _, rfl, by omega⟩, Take.act_at (hs x List.mem_cons_self)]
    simp only []
    rw [ih (fun z hz => hs z (List.mem_cons_of_mem _ hz)) f (acc ++ [x]) (by rw [List.length_append, List.length_singleton]; omega) (by omega)]
    simp
theorem txt_len (l : List Ac) (h : l.all mayB = true) : (l.flatMap Pen.actT).length ≤ 1400 * l.length := by
  induction l with
  | nil => simp
  | cons x r ih =>
    rw [List.all_cons, Bool.and_eq_true] at h
    have h1 := ih h.2
    have h2 := Pen.actT_len (actOkI_ (mayB_ x h.1).2)
    rw [List.flatMap_cons, List.length_append, List.length_cons]
    omega
theorem txt_size (l : List Ac) (h : good l) : (txt l).size ≤ 358400 := by
  have h1 := txt_len l h.2
  have h2 := h.1
  have h3 : (txt l).size = (l.flatMap Pen.actT).length := by
    unfold txt
    show (l.flatMap Pen.actT).toArray.size = _
    simp
  omega
theorem parse_f (k : Nat) (l : List Ac) (h : good l) : script_Parse.f (k + 2) (txt l) = some (l, 0) := by
  have hz := txt_size l h
  have hp : parseL 258 [] ((txt l).data.toList, false) = (l, ([], false)) := by
    have h1 := parseL_f l (fun x hx => (mayB_ x (List.all_eq_true.1 h.2 x hx)).1) 258 [] (by simpa using h.1) (by have := h.1; omega)
    unfold txt
    simpa using h1
  unfold script_Parse.f
  rw [if_pos (by omega), hp]
  simp only []
  rw [show_f k l h]
  simp
theorem parse_any (k : Nat) (a : ByteArray) (ha : a.size ≤ 281474976710656) : ∃ u r, script_Parse.f (k + 2) a = some (u, r) ∧ ((r = 0 ∧ good u ∧ a = txt u) ∨ (r = 2300 ∧ u = [])) := by
  unfold script_Parse.f
  rw [if_pos ha]
  generalize parseL 258 [] (a.data.toList, false) = R
  by_cases h : good R.1
  · rw [show_f k _ h, Option.bind_some]
    by_cases hb : R.2.2 = true
    · rw [if_pos hb]; exact ⟨_, _, rfl, .inr ⟨rfl, rfl⟩⟩
    · rw [if_neg hb, if_pos rfl]
      by_cases he : txt R.1 = a
      · rw [if_pos he]; exact ⟨_, _, rfl, .inl ⟨rfl, h, he.symm⟩⟩
      · rw [if_neg he]; exact ⟨_, _, rfl, .inr ⟨rfl, rfl⟩⟩
  · rw [show_no k _ h, Option.bind_some]
    by_cases hb : R.2.2 = true
    · rw [if_pos hb]; exact ⟨_, _, rfl, .inr ⟨rfl, rfl⟩⟩
    · rw [if_neg hb, if_neg (by decide)]; exact ⟨_, _, rfl, .inr ⟨rfl, rfl⟩⟩
theorem same_f (k : Nat) (l : List Ac) (h : good l) : wharfagelaw0_SameActs.f (k + 5) l l = some true := by
  unfold wharfagelaw0_SameActs.f
  refine if_pos ⟨rfl, by have := h.1; omega, fun x hx => ?_⟩
  have ha := (mayB_ x (List.all_eq_true.1 h.2 x hx)).1
  refine ⟨by have := ha.n; omega, fun s hs => ?_⟩
  have := (ha.s s hs).n
  omega
theorem awake_f : wharfagelaw23_awake.f 7 = some true := by kernel_rfl
theorem awake_k (k : Nat) : wharfagelaw23_awake.f (k + 7) = some true := by
  induction k with
  | zero => exact awake_f
  | succ k ih => exact wharfagelaw23_awake.mono _ _ ih

def sizeOk (l : List S63) : Bool := decide (l.length < 2932031007402) && l.all (fun x => decide (x.f3.length < 8796093022208))
theorem cc_loop (v : Int) (l : List S63) (hl : l.length < 2932031007402) (hb : ∀ x ∈ l, x.f3.length < 8796093022208) (d : Nat) : ∀ (k i : Nat), l.length - i ≤ d → d < k → i ≤ l.length → wharfagelaw0_CopyConfig.l0 k (i : Int) v l v (l.take i) = some (v, l) := by
  induction d with
  | zero =>
    intro k i hd hk hi
    obtain ⟨k, rfl⟩ : ∃ m, k = m + 1 := ⟨k - 1, by omega⟩
    simp only [wharfagelaw0_CopyConfig.l0]
    rw [if_neg (by omega), List.take_of_length_le (by omega)]
  | succ d ih =>
    intro k i hd hk hi
    obtain ⟨k, rfl⟩ : ∃ m, k = m + 1 := ⟨k - 1, by omega⟩
    simp only [wharfagelaw0_CopyConfig.l0]
    by_cases h : (i : Int) < (l.length : Int)
    · have hlt : i < l.length := by omega
      have hx := hb l[i] (List.getElem_mem hlt)
      have er : rd_T63 l (i : Int) = l[i] := by simp [rd_T63, hlt]
      rw [if_pos h, if_pos (show (0 : Int) ≤ (i : Int) by omega), er, Option.bind_some, if_pos (by simpa using hx), if_pos (by rw [List.length_take]; omega), show wrap64 ((i : Int) + 1) = ((i + 1 : Nat) : Int) by unfold wrap64; omega]
      have := ih k (i + 1) (by omega) (by omega) (by omega)
      rw [List.take_succ_eq_append_getElem hlt] at this
      exact this
    · rw [if_neg h, List.take_of_length_le (by omega)]
theorem cc_f (v : Int) (l : List S63) (h : sizeOk l = true) (k : Nat) (hk : l.length < k) : wharfagelaw0_CopyConfig.f k v l = some (v, l) := by
  unfold sizeOk at h
  simp only [Bool.and_eq_true, decide_eq_true_eq, List.all_eq_true] at h
  have := cc_loop v l h.1 h.2 l.length k 0 (by omega) hk (by omega)
  simpa [wharfagelaw0_CopyConfig.f] using this
theorem ca_loop (l : List S40) (hl : l.length < 1353245080339) (M : Nat) (hm : ∀ x ∈ l, sizeOk x.f8.f1 = true ∧ x.f8.f1.length ≤ M) (d : Nat) : ∀ (k i : Nat), l.length - i ≤ d → d + M + 1 < k → i ≤ l.length → wharfagelaw0_CopyActs.l0 k l (l.take i) (i : Int) = some l := by
  induction d with
  | zero =>
    intro k i hd hk hi
    obtain ⟨k, rfl⟩ : ∃ m, k = m + 1 := ⟨k - 1, by omega⟩
    simp only [wharfagelaw0_CopyActs.l0]
    rw [if_neg (by omega), List.take_of_length_le (by omega)]
  | succ d ih =>
    intro k i hd hk hi
    obtain ⟨k, rfl⟩ : ∃ m, k = m + 1 := ⟨k - 1, by omega⟩
    simp only [wharfagelaw0_CopyActs.l0]
    by_cases h : (i : Int) < (l.length : Int)
    · have hlt : i < l.length := by omega
      have hx := hm l[i] (List.getElem_mem hlt)
      have er : rd_T40 l (i : Int) = l[i] := by simp [rd_T40, hlt]
      rw [if_pos h, if_pos (show (0 : Int) ≤ (i : Int) by omega), er, cc_f _ _ hx.1 _ (by omega), Option.bind_some, if_pos (by rw [List.length_take]; omega), show wrap64 ((i : Int) + 1) = ((i + 1 : Nat) : Int) by unfold wrap64; omega]
      have := ih k (i + 1) (by omega) (by omega) (by omega)
      rw [List.take_succ_eq_append_getElem hlt] at this
      exact this
    · rw [if_neg h, List.take_of_length_le (by omega)]
theorem ca_f (l : List S40) (hl : l.length < 1353245080339) (M : Nat) (hm : ∀ x ∈ l, sizeOk x.f8.f1 = true ∧ x.f8.f1.length ≤ M) (k : Nat) (hk : l.length + M + 1 < k) : wharfagelaw0_CopyActs.f k l = some l := by
  have := ca_loop l hl M hm l.length k 0 (by omega) hk (by omega)
  simpa [wharfagelaw0_CopyActs.f] using this

open SAct
theorem showW_f (l : List Ac) : ∀ acc, showW l acc = if l.all mayB = true then some (Bs (acc ++ l.flatMap Pen.actT), 0) else some ((⟨#[]⟩ : ByteArray), 2300) := by
  induction l with
  | nil => intro acc; simp [showW]
  | cons x r ih =>
    intro acc
    have hmay : wharfageref19_ActMay.f x.f0 x.f1 x.f2 x.f3 x.f4 x.f5 x.f6 x.f7 x.f8.f0 x.f8.f1 = some (mayB x) := may_eq 0 x
    rw [showW, hmay, Option.bind_some, List.all_cons]
    cases hm : mayB x
    · rfl
    · rw [if_pos rfl, if_pos (mayB_ x hm).1, ih, Bool.true_and, List.flatMap_cons, List.append_assoc]
theorem sa_good (l : List Ac) (h : good l) (k : Nat) (hk : 16000 ≤ k) : wharfageref19_ShowActs.f k l = some (txt l, 0) := by
  unfold wharfageref19_ShowActs.f
  rw [if_neg (by have := h.1; omega), showW_f, if_pos h.2]
  rfl
theorem sa_bad (l : List Ac) (h : ¬ good l) (k : Nat) (hk : 16000 ≤ k) : wharfageref19_ShowActs.f k l = some ((⟨#[]⟩ : ByteArray), 2300) := by
  unfold wharfageref19_ShowActs.f
  by_cases h1 : l.length > 256
  · rw [if_pos h1]
  · rw [if_neg h1, showW_f, if_neg (fun q => h ⟨by omega, q⟩)]

/-- At place a the text goes on with r. -/
def Rest (T : ByteArray) (a : Int) (r : List UInt8) : Prop := ∃ p : Nat, a = (p : Int) ∧ p ≤ T.data.toList.length ∧ T.data.toList.drop p = r
theorem Rest.size {T : ByteArray} {a : Int} {r : List UInt8} (h : Rest T a r) : (T.size : Int) = a + r.length := by
  obtain ⟨p, rfl, hp, rfl⟩ := h
  have := blen T
  rw [List.length_drop]
  omega
theorem Rest.step {T : ByteArray} {a : Int} {c : UInt8} {r : List UInt8} (h : Rest T a (c :: r)) : bt T a = (c.toNat : Int) ∧ Rest T (a + 1) r := by
  obtain ⟨p, rfl, hp, hd⟩ := h
  have hlt : p < T.data.toList.length := by
    have := congrArg List.length hd
    rw [List.length_drop, List.length_cons] at this
    omega
  have hz := blen T
  rw [← List.getElem_cons_drop hlt] at hd
  injection hd with h1 h2
  refine ⟨?_, p + 1, by omega, by omega, h2⟩
  rw [← bt_at T (p : Int) (by rw [Int.toNat_natCast]; omega)]
  rw [← h1]
  rfl
theorem Rest.app {T : ByteArray} : ∀ {l : List UInt8} {a : Int} {r : List UInt8}, Rest T a (l ++ r) → Rest T (a + l.length) r
  | [], a, r, h => by simpa using h
  | c :: l, a, r, h => by
    have := Rest.app (l := l) h.step.2
    rw [List.length_cons]
    rw [show a + ((l.length + 1 : Nat) : Int) = a + 1 + (l.length : Int) by omega]
    exact this
theorem dig_at (T : ByteArray) (c : UInt8) (r : List UInt8) (hc : c.toNat < 48 ∨ 57 < c.toNat) : ∀ (ds : List UInt8) (n : Nat) (x : Nat) (a : Int) (v : Nat), ds.length ≤ n → Rest T a (ds ++ c :: r) → Lib.decFrom x ds = some v → (∀ b ∈ ds, 48 ≤ b.toNat ∧ b.toNat ≤ 57) → wharfageref19_words_num.L T n (x : Int) a = ((v : Int), a + ds.length)
  | [], n, x, a, v, hn, hr, hv, hd => by
    have hx : x = v := by simpa [Lib.decFrom] using hv
    subst hx
    cases n with
    | zero => simp [wharfageref19_words_num.L]
    | succ n =>
      obtain ⟨hb, _⟩ := Rest.step (r := r) hr
      rw [wharfageref19_words_num.L, if_neg (by rw [hb]; intro q; omega)]
      simp
  | b :: ds, n, x, a, v, hn, hr, hv, hd => by
    rw [List.length_cons] at hn
    obtain ⟨n, rfl⟩ : ∃ m, n = m + 1 := ⟨n - 1, by omega⟩
    have hs := hr.size
    obtain ⟨hb, hr2⟩ := Rest.step (r := ds ++ c :: r) hr
    have hbd := hd b List.mem_cons_self
    rw [wharfageref19_words_num.L, if_pos ⟨by rw [hs]; simp only [List.cons_append, List.length_cons]; omega, by rw [hb]; omega, by rw [hb]; omega⟩, hb]
    have hdv : Lib.digitVal b = some (b.toNat - 48) := by
      unfold Lib.digitVal
      rw [if_pos (by omega)]
    simp only [Lib.decFrom, hdv] at hv
    have := dig_at T c r hc ds n (x * 10 + (b.toNat - 48)) (a + 1) v (by omega) hr2 hv (fun y hy => hd y (List.mem_cons_of_mem _ hy))
    rw [show (10 : Int) * (x : Int) + ((b.toNat : Int) - 48) = ((x * 10 + (b.toNat - 48) : Nat) : Int) by omega, this, List.length_cons]
    congr 1
    omega
/-- A number that is small. -/
def S7 (n : Int) : Prop := 0 ≤ n ∧ n ≤ 1048576
theorem itoa7 {n : Int} (h : S7 n) : (Lib.itoa n).length ≤ 7 := by
  have hs : Take.Sm n := ⟨h.1, by have := h.2; omega⟩
  rw [Take.itoa_sm hs, Lib.decDigits_length]
  have h1 : ∀ (k u : Nat), u < 10 ^ k → 1 ≤ k → Lib.nDigits u ≤ k := by
    intro k
    induction k with
    | zero => intro u _ h; omega
    | succ k ih =>
      intro u hu _
      by_cases h10 : u < 10
      · rw [Lib.nDigits_small h10]; omega
      · rw [Lib.nDigits_big h10]
        have hk : 1 ≤ k := by
          rcases Nat.eq_zero_or_pos k with rfl | hk
          · simp at hu; omega
          · exact hk
        have := ih (u / 10) (by rw [Nat.pow_succ] at hu; omega) hk
        omega
  exact h1 7 n.toNat (by have := h.1; have := h.2; omega) (by omega)
theorem num_at {T : ByteArray} {n a : Int} (h : S7 n) (c : UInt8) (hc : c.toNat < 48 ∨ 57 < c.toNat) (r : List UInt8) (hr : Rest T a (Lib.itoa n ++ c :: r)) : ∃ b, numW T (a, false) = (n, (b, false)) ∧ Rest T b r := by
  have hs : Take.Sm n := ⟨h.1, by have := h.2; omega⟩
  have hl := itoa7 h
  have hd := Take.decFrom_dec n.toNat
  have ha := Take.dec_all n.toNat
  rw [Take.itoa_sm hs] at hr hl
  have hL := dig_at T c r hc (Lib.decDigits n.toNat) 7 0 a n.toNat hl hr hd ha
  have hz := hr.size
  refine ⟨a + (Lib.decDigits n.toNat).length + 1, ?_, (hr.app).step.2⟩
  have hn : ((n.toNat : Nat) : Int) = n := Int.toNat_of_nonneg h.1
  rw [hn] at hL
  unfold numW
  show ((wharfageref19_words_num.L T 7 0 a).1, ((wharfageref19_words_num.L T 7 0 a).2 + 1, false || decide ((wharfageref19_words_num.L T 7 0 a).2 ≥ (T.size : Int)))) = _
  have hL2 : wharfageref19_words_num.L T 7 0 a = (n, a + ((Lib.decDigits n.toNat).length : Int)) := hL
  rw [hL2, Bool.false_or, decide_eq_false (by rw [hz]; simp only [List.length_append, List.length_cons]; omega)]
theorem numT_at {T : ByteArray} {n a : Int} (h : S7 n) (r : List UInt8) (hr : Rest T a (Pen.numT n ++ r)) : ∃ b, numW T (a, false) = (n, (b, false)) ∧ Rest T b r := by
  refine num_at h 32 (by decide) r ?_
  unfold Pen.numT at hr
  simpa using hr
theorem is_at {T : ByteArray} {a : Int} (y z : UInt8) (hyz : z ≠ y) (b : Bool) (r : List UInt8) (hr : Rest T a ([if b = true then y else z] ++ r)) : ∃ c, isW T (y.toNat : Int) (a, false) = (b, (c, false)) ∧ Rest T c r := by
  obtain ⟨hb, h2⟩ := Rest.step (r := r) (by simpa using hr)
  have hz := hr.size
  refine ⟨a + 1, ?_, h2⟩
  unfold isW
  rw [if_neg (by intro q; simp at q; simp at hz; omega)]
  show (bt T a == (y.toNat : Int), (a + 1, false)) = _
  rw [hb]
  cases b
  · have : ((z.toNat : Int) == (y.toNat : Int)) = false := beq_eq_false_iff_ne.2 (fun e => hyz (UInt8.toNat_inj.1 (by omega)))
    simp only [Bool.false_eq_true, if_false, this]
  · simp
theorem backW_at {T : ByteArray} {a : Int} {y : S65} (h : S7 y.f0) (r : List UInt8) (hr : Rest T a (Pen.backT y ++ r)) : ∃ b, backW T (a, false) = (y, (b, false)) ∧ Rest T b r := by
  have e : Pen.backT y ++ r = Pen.numT y.f0 ++ ([if y.f1 = true then (100 : UInt8) else 117] ++ r) := by unfold Pen.backT Pen.numsT; simp
  rw [e] at hr
  obtain ⟨b, h1, hr⟩ := numT_at h _ hr
  obtain ⟨c, h2, hr⟩ := is_at 100 117 (by decide) y.f1 r hr
  refine ⟨c, ?_, hr⟩
  have h2' : isW T 100 (b, false) = (y.f1, (c, false)) := h2
  unfold backW
  simp only [h1, h2']
theorem backsW_at {T : ByteArray} (ys : List S65) (hs : ∀ y ∈ ys, S7 y.f0) (r : List UInt8) : ∀ (f : Nat) (acc : List S65) (a : Int) (m : Int), m = ((acc.length + ys.length : Nat) : Int) → acc.length + ys.length ≤ 4 → ys.length < f → Rest T a (ys.flatMap Pen.backT ++ r) → ∃ b, backsW T f m acc (a, false) = (acc ++ ys, (b, false)) ∧ Rest T b r := by
  induction ys with
  | nil =>
    intro f acc a m hm ha hf hr
    obtain ⟨f, rfl⟩ : ∃ m, f = m + 1 := ⟨f - 1, by omega⟩
    refine ⟨a, ?_, by simpa using hr⟩
    rw [backsW, if_neg (by rw [hm]; simp)]
    simp
  | cons y ys ih =>
    intro f acc a m hm ha hf hr
    simp only [List.length_cons] at ha hf hm
    obtain ⟨f, rfl⟩ : ∃ m, f = m + 1 := ⟨f - 1, by omega⟩
    have e : (y :: ys).flatMap Pen.backT ++ r = Pen.backT y ++ (ys.flatMap Pen.backT ++ r) := by simp
    rw [e] at hr
    obtain ⟨b, h1, hr⟩ := backW_at (hs y List.mem_cons_self) _ hr
    obtain ⟨c, h2, hr⟩ := ih (fun z hz => hs z (List.mem_cons_of_mem _ hz)) f (acc ++ [y]) b m (by rw [List.length_append, List.length_singleton]; omega) (by rw [List.length_append, List.length_singleton]; omega) (by omega) hr
    refine ⟨c, ?_, hr⟩
    rw [backsW, if_pos ⟨by omega, by omega, rfl⟩, h1]
    simp only []
    rw [h2]
    simp
structure Site7 (x : S63) : Prop where
  w : S7 x.f0
  c : S7 x.f2
  n : x.f3.length ≤ 4
  b : ∀ y ∈ x.f3, S7 y.f0
theorem s7_len {n : Nat} (h : n ≤ 1000) : S7 (n : Int) := ⟨by omega, by omega⟩
theorem siteW_at {T : ByteArray} {a : Int} {x : S63} (h : Site7 x) (r : List UInt8) (hr : Rest T a (Pen.siteT x ++ r)) : ∃ b, siteW T (a, false) = (x, (b, false)) ∧ Rest T b r := by
  have e : Pen.siteT x ++ r = Pen.numT x.f0 ++ ([if x.f1 = true then (100 : UInt8) else 117] ++ (Pen.numT x.f2 ++ (Pen.numT (x.f3.length : Int) ++ (x.f3.flatMap Pen.backT ++ r)))) := by unfold Pen.siteT Pen.numsT; simp
  have hn := h.n
  rw [e] at hr
  obtain ⟨b0, h0, hr⟩ := numT_at h.w _ hr
  obtain ⟨b1, h1, hr⟩ := is_at 100 117 (by decide) x.f1 _ hr
  have h1' : isW T 100 (b0, false) = (x.f1, (b1, false)) := h1
  obtain ⟨b2, h2, hr⟩ := numT_at h.c _ hr
  obtain ⟨b3, h3, hr⟩ := numT_at (s7_len (show x.f3.length ≤ 1000 by omega)) _ hr
  obtain ⟨b4, h4, hr⟩ := backsW_at x.f3 h.b r 6 [] b3 (x.f3.length : Int) (by simp) (by simpa using hn) (by omega) hr
  refine ⟨b4, ?_, hr⟩
  unfold siteW
  simp only [h0, h1', h2, h3, h4, List.nil_append]
theorem sitesW_at {T : ByteArray} (ys : List S63) (hs : ∀ y ∈ ys, Site7 y) (r : List UInt8) : ∀ (f : Nat) (acc : List S63) (a : Int) (m : Int), m = ((acc.length + ys.length : Nat) : Int) → acc.length + ys.length ≤ 3 → ys.length < f → Rest T a (ys.flatMap Pen.siteT ++ r) → ∃ b, sitesW T f m acc (a, false) = (acc ++ ys, (b, false)) ∧ Rest T b r := by
  induction ys with
  | nil =>
    intro f acc a m hm ha hf hr
    obtain ⟨f, rfl⟩ : ∃ m, f = m + 1 := ⟨f - 1, by omega⟩
    refine ⟨a, ?_, by simpa using hr⟩
    rw [sitesW, if_neg (by rw [hm]; simp)]
    simp
  | cons y ys ih =>
    intro f acc a m hm ha hf hr
    simp only [List.length_cons] at ha hf hm
    obtain ⟨f, rfl⟩ : ∃ m, f = m + 1 := ⟨f - 1, by omega⟩
    have e : (y :: ys).flatMap Pen.siteT ++ r = Pen.siteT y ++ (ys.flatMap Pen.siteT ++ r) := by simp
    rw [e] at hr
    obtain ⟨b, h1, hr⟩ := siteW_at (hs y List.mem_cons_self) _ hr
    obtain ⟨c, h2, hr⟩ := ih (fun z hz => hs z (List.mem_cons_of_mem _ hz)) f (acc ++ [y]) b m (by rw [List.length_append, List.length_singleton]; omega) (by rw [List.length_append, List.length_singleton]; omega) (by omega) hr
    refine ⟨c, ?_, hr⟩
    rw [sitesW, if_pos ⟨by omega, by omega, rfl⟩, h1]
    simp only []
    rw [h2]
    simp
theorem configW_at {T : ByteArray} {a : Int} (c : S38) (hv : S7 c.f0) (hn : c.f1.length ≤ 3) (hs : ∀ x ∈ c.f1, Site7 x) (r : List UInt8) (hr : Rest T a (Pen.cfgT c.f0 c.f1 ++ r)) : ∃ b, configW T (a, false) = (c, (b, false)) ∧ Rest T b r := by
  have e : Pen.cfgT c.f0 c.f1 ++ r = Pen.numT c.f0 ++ (Pen.numT (c.f1.length : Int) ++ (c.f1.flatMap Pen.siteT ++ r)) := by unfold Pen.cfgT Pen.numsT; simp
  rw [e] at hr
  obtain ⟨b0, h0, hr⟩ := numT_at hv _ hr
  obtain ⟨b1, h1, hr⟩ := numT_at (s7_len (show c.f1.length ≤ 1000 by omega)) _ hr
  obtain ⟨b2, h2, hr⟩ := sitesW_at c.f1 hs r 5 [] b1 (c.f1.length : Int) (by simp) (by simpa using hn) (by omega) hr
  refine ⟨b2, ?_, hr⟩
  unfold configW
  simp only [h0, h1, h2, List.nil_append]
/-- An act as it is shown, of numbers of seven digits at most. -/
structure Act7 (x : Ac) : Prop where
  n0 : S7 x.f0
  n1 : S7 x.f1
  n2 : S7 x.f2
  n3 : S7 x.f3
  n4 : S7 x.f4
  n5 : S7 x.f5
  t : x.f7.size ≤ 512
  v : S7 x.f8.f0
  n : x.f8.f1.length ≤ 3
  s : ∀ y ∈ x.f8.f1, Site7 y
  no : x.f0 ≠ 9 → x.f8 = ⟨0, []⟩
theorem act7_of (x : Ac) (h : mayB x = true) : Act7 x := by
  obtain ⟨is, b, e, h1, h2⟩ := may_j 0 x.f0 x.f1 x.f2 x.f3 x.f4 x.f5 x.f6 x.f7 x.f8.f0 x.f8.f1
  have hm := may_eq 0 x
  rw [h, e, j0_f] at hm
  replace hm := Option.some.inj hm
  simp only [Bool.and_eq_true, decide_eq_true_eq, List.all_eq_true] at hm
  obtain ⟨ha, hb, hr, hs, hn, ht, hat, hz, ⟨hsi, hv⟩, hl⟩ := hm
  have hk := h1 ha
  have hst : ∀ y ∈ x.f8.f1, Site7 y := by
    intro y hy
    have h := hsi y hy
    unfold siteOk backOk at h
    simp only [Bool.and_eq_true, decide_eq_true_eq, List.all_eq_true] at h
    exact ⟨⟨h.1.1.2.1, by have := h.1.1.2.2; omega⟩, ⟨h.1.2.1, by have := h.1.2.2; omega⟩, h.2, fun z hz => ⟨(h.1.1.1 z hz).1, by have := (h.1.1.1 z hz).2; omega⟩⟩
  refine ⟨⟨by omega, by omega⟩, ⟨by omega, by omega⟩, ⟨by omega, by omega⟩, ⟨by omega, by omega⟩, ⟨by omega, by omega⟩, ⟨by omega, by omega⟩, hz, ⟨by omega, by omega⟩, hl, hst, fun h9 => ?_⟩
  obtain ⟨e1, e2⟩ := h2 hb h9
  cases hx : x.f8 with
  | mk p q =>
    rw [hx] at e1 e2
    cases e1
    cases e2
    rfl
theorem text_at {T : ByteArray} {a : Int} (l : List UInt8) (r : List UInt8) (hr : Rest T a (l ++ r)) : T.extract a.toNat (a + l.length).toNat = ⟨l.toArray⟩ := by
  obtain ⟨p, rfl, hp, hd⟩ := hr
  rw [Lib.extract_eq]
  congr 1
  have e1 : ((p : Int)).toNat = p := Int.toNat_natCast p
  have e2 : ((p : Int) + (l.length : Int)).toNat = p + l.length := by omega
  rw [e1, e2, hd, show p + l.length - p = l.length by omega, List.take_left' rfl]
theorem actW_at {T : ByteArray} {a : Int} {x : Ac} (h : Act7 x) (r : List UInt8) (hr : Rest T a (Pen.actT x ++ r)) : ∃ b, actW T (a, false) = some (x, (b, false)) ∧ Rest T b r := by
  have e : Pen.actT x ++ r = Pen.numT x.f0 ++ (Pen.numT x.f1 ++ (Pen.numT x.f2 ++ (Pen.numT x.f3 ++ (Pen.numT x.f4 ++ (Pen.numT x.f5 ++ ([if x.f6 = true then (103 : UInt8) else 98] ++ (Lib.itoa (x.f7.size : Int) ++ (58 : UInt8) :: (x.f7.data.toList ++ ((if x.f0 = 9 then Pen.cfgT x.f8.f0 x.f8.f1 else []) ++ r))))))))) := by unfold Pen.actT Pen.numsT; simp
  rw [e] at hr
  have ht := h.t
  have hb7 := blen x.f7
  obtain ⟨b0, h0, hr⟩ := numT_at h.n0 _ hr
  obtain ⟨b1, h1, hr⟩ := numT_at h.n1 _ hr
  obtain ⟨b2, h2, hr⟩ := numT_at h.n2 _ hr
  obtain ⟨b3, h3, hr⟩ := numT_at h.n3 _ hr
  obtain ⟨b4, h4, hr⟩ := numT_at h.n4 _ hr
  obtain ⟨b5, h5, hr⟩ := numT_at h.n5 _ hr
  obtain ⟨b6, h6, hr⟩ := is_at 103 98 (by decide) x.f6 _ hr
  have h6' : isW T 103 (b5, false) = (x.f6, (b6, false)) := h6
  obtain ⟨b7, h7, hr⟩ := num_at (s7_len (show x.f7.size ≤ 1000 by omega)) 58 (by decide) _ hr
  have hx := text_at _ _ hr
  have hz := hr.size
  have hr2 := hr.app
  rw [hb7] at hx hr2
  have hf7 : (⟨x.f7.data.toList.toArray⟩ : ByteArray) = x.f7 := by simp
  rw [hf7] at hx
  have hng : ¬ (false = true ∨ (T.size : Int) - b7 < (x.f7.size : Int)) := by
    intro q
    simp only [Bool.false_eq_true, false_or] at q
    rw [hz, List.length_append] at q
    omega
  by_cases h9 : x.f0 = 9
  · rw [if_pos h9] at hr2
    obtain ⟨b8, h8, hr3⟩ := configW_at x.f8 h.v h.n h.s r hr2
    refine ⟨b8, ?_, hr3⟩
    unfold actW
    simp only [h0, h1, h2, h3, h4, h5, h6', h7]
    rw [if_neg hng, if_pos h9, h8, hx]
  · rw [if_neg h9, List.nil_append] at hr2
    refine ⟨_, ?_, hr2⟩
    unfold actW
    simp only [h0, h1, h2, h3, h4, h5, h6', h7]
    rw [if_neg hng, if_neg h9, hx, ← h.no h9]
theorem act_pos (x : Ac) : 0 < (Pen.actT x).length := by
  unfold Pen.actT
  simp only [List.length_append, List.length_singleton]
  omega
theorem parseW_at {T : ByteArray} (l : List Ac) (hs : ∀ x ∈ l, Act7 x) : ∀ (f : Nat) (acc : List Ac) (a : Int), acc.length + l.length ≤ 256 → l.length < f → Rest T a (l.flatMap Pen.actT) → ∃ b, parseW T f acc (a, false) = some (acc ++ l, (b, false)) := by
  induction l with
  | nil =>
    intro f acc a ha hf hr
    obtain ⟨f, rfl⟩ : ∃ n, f = n + 1 := ⟨f - 1, by simp only [List.length_nil] at hf; omega⟩
    have hz := hr.size
    refine ⟨a, ?_⟩
    rw [parseW, if_neg (by intro q; have := q.1; simp at hz; simp only [] at this; omega)]
    simp
  | cons x r ih =>
    intro f acc a ha hf hr
    simp only [List.length_cons] at ha hf
    obtain ⟨f, rfl⟩ : ∃ n, f = n + 1 := ⟨f - 1, by omega⟩
    have e : (x :: r).flatMap Pen.actT = Pen.actT x ++ r.flatMap Pen.actT := by simp
    rw [e] at hr
    have hz := hr.size
    have hp := act_pos x
    obtain ⟨b, h1, hr2⟩ := actW_at (hs x List.mem_cons_self) _ hr
    obtain ⟨c, h2⟩ := ih (fun z hz => hs z (List.mem_cons_of_mem _ hz)) f (acc ++ [x]) b (by rw [List.length_append, List.length_singleton]; omega) (by omega) hr2
    refine ⟨c, ?_⟩
    rw [parseW, if_pos ⟨by rw [hz, List.length_append]; show a < _; omega, rfl, by omega⟩, h1]
    simp only []
    rw [h2]
    simp
theorem pacts_good (k : Nat) (hk : 16000 ≤ k) (l : List Ac) (h : good l) : wharfageref19_ParseActs.f k (txt l) = some (l, 0) := by
  have hz := txt_size l h
  have hr : Rest (txt l) 0 (l.flatMap Pen.actT) := ⟨0, rfl, Nat.zero_le _, by unfold txt; simp⟩
  obtain ⟨b, hp⟩ := parseW_at l (fun x hx => act7_of x (List.all_eq_true.1 h.2 x hx)) 258 [] 0 (by simpa using h.1) (by have := h.1; omega) hr
  unfold wharfageref19_ParseActs.f
  rw [if_pos (by omega), hp]
  show (wharfageref19_ShowActs.f k ([] ++ l)).bind _ = _
  rw [List.nil_append, sa_good l h k hk, Option.bind_some, if_pos rfl, if_pos rfl]
theorem pacts_any (k : Nat) (hk : 16000 ≤ k) (a : ByteArray) (ha : a.size ≤ 281474976710656) : ∃ u r, wharfageref19_ParseActs.f k a = some (u, r) ∧ ((r = 0 ∧ good u ∧ a = txt u) ∨ (r = 2300 ∧ u = [])) := by
  unfold wharfageref19_ParseActs.f
  rw [if_pos ha]
  generalize parseW a 258 [] (0, false) = R
  cases R with
  | none => exact ⟨_, _, rfl, .inr ⟨rfl, rfl⟩⟩
  | some R =>
    show ∃ u r, (wharfageref19_ShowActs.f k R.1).bind _ = some (u, r) ∧ _
    by_cases h : good R.1
    · rw [sa_good _ h k hk, Option.bind_some, if_pos rfl]
      by_cases he : txt R.1 = a
      · rw [if_pos he]; exact ⟨_, _, rfl, .inl ⟨rfl, h, he.symm⟩⟩
      · rw [if_neg he]; exact ⟨_, _, rfl, .inr ⟨rfl, rfl⟩⟩
    · rw [sa_bad _ h k hk, Option.bind_some, if_neg (by decide)]
      exact ⟨_, _, rfl, .inr ⟨rfl, rfl⟩⟩

theorem parse_both (k : Nat) (hk : 16000 ≤ k) (s : ByteArray) (hs : s.size ≤ 281474976710656) : ∃ u g, script_Parse.f k s = some (u, g) ∧ wharfageref19_ParseActs.f k s = some (u, g) ∧ (good u ∨ u = []) := by
  obtain ⟨k, rfl⟩ : ∃ m, k = m + 2 := ⟨k - 2, by omega⟩
  obtain ⟨u, g, h1, h2⟩ := parse_any k s hs
  obtain ⟨v, q, h3, h4⟩ := pacts_any (k + 2) hk s hs
  rcases h2 with ⟨rfl, hg, rfl⟩ | ⟨rfl, rfl⟩
  · exact ⟨u, 0, h1, pacts_good (k + 2) hk u hg, .inl hg⟩
  · rcases h4 with ⟨rfl, hg, rfl⟩ | ⟨rfl, rfl⟩
    · have := parse_f k v hg
      rw [h1] at this
      exact absurd (Option.some.inj this) (by simp)
    · exact ⟨_, _, h1, h3, .inr rfl⟩
theorem bound1 {α : Type} (f : α → Nat) (l : List α) : ∃ M, ∀ x ∈ l, f x ≤ M := by
  induction l with
  | nil => exact ⟨0, by simp⟩
  | cons x r ih =>
    obtain ⟨M, h⟩ := ih
    exact ⟨max (f x) M, fun y hy => by
      rcases List.mem_cons.1 hy with rfl | hy
      · exact Nat.le_max_left _ _
      · exact Nat.le_trans (h y hy) (Nat.le_max_right _ _)⟩
theorem bound2 (l : List Ac) : ∃ M, ∀ x ∈ l, x.f8.f1.length ≤ M ∧ ∀ y ∈ x.f8.f1, y.f3.length ≤ M := by
  obtain ⟨M1, h1⟩ := bound1 (fun x : Ac => x.f8.f1.length) l
  obtain ⟨M2, h2⟩ := bound1 (fun x : Ac => (x.f8.f1.map (fun y => y.f3.length)).sum) l
  refine ⟨max M1 M2, fun x hx => ⟨Nat.le_trans (h1 x hx) (Nat.le_max_left _ _), fun y hy => ?_⟩⟩
  have h3 : y.f3.length ≤ (x.f8.f1.map (fun y => y.f3.length)).sum := by
    have : ∀ (L : List Si), y ∈ L → y.f3.length ≤ (L.map (fun y => y.f3.length)).sum := by
      intro L
      induction L with
      | nil => intro h; cases h
      | cons z L ih =>
        intro h
        rw [List.map_cons, List.sum_cons]
        rcases List.mem_cons.1 h with rfl | h
        · omega
        · have := ih h; omega
    exact this _ hy
  exact Nat.le_trans (Nat.le_trans h3 (h2 x hx)) (Nat.le_max_right _ _)
theorem scripts_f (l : List Ac) (s : ByteArray) (hs : s.size ≤ 140737488351232) (hl : l.length * 104 ≤ 140737488351232) (hm : ∀ x ∈ l, x.f8.f1.length * 48 ≤ 140737488351232 ∧ ∀ y ∈ x.f8.f1, y.f3.length * 16 ≤ 140737488351232) : ∃ k, wharfagelaw23_Scripts.f k l s = some true := by
  obtain ⟨M, hM⟩ := bound2 l
  refine ⟨l.length + M + 16007, ?_⟩
  unfold wharfagelaw23_Scripts.f
  refine if_pos ?_
  obtain ⟨u, g, hp, hq, hu⟩ := parse_both (l.length + M + 16007) (by omega) s (by omega)
  have hca := ca_f l (by omega) M (fun x hx => ⟨by
    unfold sizeOk
    simp only [Bool.and_eq_true, decide_eq_true_eq, List.all_eq_true]
    exact ⟨by have := (hm x hx).1; omega, fun y hy => by have := (hm x hx).2 y hy; omega⟩, (hM x hx).1⟩) (l.length + M + 16007) (by omega)
  have hsm : wharfagelaw0_SameActs.f (l.length + M + 16007) l l = some true := by
    unfold wharfagelaw0_SameActs.f
    refine if_pos ⟨rfl, by omega, fun x hx => ⟨by have := (hm x hx).1; omega, fun y hy => ⟨by have := (hM x hx).2 y hy; omega, by have := (hm x hx).2 y hy; omega⟩⟩⟩
  have husm : wharfagelaw0_SameActs.f (l.length + M + 16007) u u = some true := by
    rcases hu with hu | rfl
    · exact same_f (l.length + M + 16002) u hu
    · unfold wharfagelaw0_SameActs.f
      exact if_pos ⟨rfl, by simp, fun x hx => by cases hx⟩
  have hu2 : u.length ≤ 1000 ∧ ∀ x ∈ u, x.f8.f1.length ≤ 1000 ∧ ∀ y ∈ x.f8.f1, y.f3.length ≤ 1000 := by
    rcases hu with hu | rfl
    · refine ⟨by have := hu.1; omega, fun x hx => ?_⟩
      have ha := (mayB_ x (List.all_eq_true.1 hu.2 x hx)).1
      exact ⟨by have := ha.n; omega, fun y hy => by have := (ha.s y hy).n; omega⟩
    · exact ⟨by simp, fun x hx => by cases hx⟩
  have hshow : ∃ a e, script_Show.f (l.length + M + 16007) l = some (a, e) ∧ wharfageref19_ShowActs.f (l.length + M + 16007) l = some (a, e) := by
    by_cases h : good l
    · exact ⟨_, _, show_f (l.length + M + 16005) l h, sa_good l h _ (by omega)⟩
    · exact ⟨_, _, show_no (l.length + M + 16005) l h, sa_bad l h _ (by omega)⟩
  obtain ⟨a, e, hs1, hs2⟩ := hshow
  exact ⟨hca, hsm, awake_k (l.length + M + 16000), by omega, fun x _ => ⟨mayB x, may_eq (l.length + M + 16005) x, may_eq 0 x⟩, a, e, u, g, hs1, hs2, hp, hq, husm, hu2.1, hu2.2⟩
theorem Scripts : wharfagelaw23_Scripts.PureX := fun x0 x1 h0 h1 => scripts_f x0 x1 h1 h0.2.1 (fun x hx => by
  have h := h0.2.2 x hx
  simp only [g40, g38, g63] at h
  obtain ⟨_, _, _, _, _, _, _, _, hc⟩ := h
  exact ⟨hc.2.2.1, fun y hy => (hc.2.2.2 y hy).2.2.2.2.1⟩)

end Go.Proofs.YtnojgkiaolmoeaaDoor.Pure
