/- A script shown in two parts, one behind the other, is the script shown whole. -/
import Derived.Test.YtnojgkiaolmoeaaDoorPScx35
import Derived.Test.YtnojgkiaolmoeaaDoorOpenScriptRows
import Derived.Test.YtnojgkiaolmoeaaDoorText
set_option linter.unusedVariables false
set_option linter.unusedSimpArgs false
namespace Go.Proofs.YtnojgkiaolmoeaaDoor.Pure
open Go.RowKit Go.Proofs.YtnojgkiaolmoeaaDoor.PSc Go.Proofs.YtnojgkiaolmoeaaDoorW.PrintWords Go.Proofs.YtnojgkiaolmoeaaDoorW.PrintLast Go.Proofs.YtnojgkiaolmoeaaDoorW.PrintMore

theorem in_any (x : Int) (b n : Nat) (hb : b ≤ 64) (hn : 2 ^ b = n) : ip_In.f x (b : Int) = some (decide (0 ≤ x ∧ x < (n : Int))) := by
  unfold ip_In.f
  by_cases h : x ≥ 0
  · rw [if_pos h, if_pos (by omega)]
    have hn0 : 0 < n := by rw [← hn]; exact Nat.two_pow_pos b
    have e : shr .i64 x (b : Int) = x / (n : Int) := by
      unfold shr
      rw [Int.toNat_natCast, Nat.min_eq_left (by simpa [IntKind.bits] using hb), ← hn]
      simp
    rw [e]; congr 1
    rw [Bool.eq_iff_iff]
    simp only [beq_iff_eq, decide_eq_true_eq]
    constructor
    · intro hz
      refine ⟨h, ?_⟩
      have := Int.lt_ediv_add_one_mul_self x (show (0 : Int) < n by omega)
      rw [hz] at this
      omega
    · rintro ⟨_, hlt⟩
      exact Int.ediv_eq_zero_of_lt h hlt
  · rw [if_neg h]; congr 1; simp; omega
theorem in8 (x : Int) : ip_In.f x 8 = some (decide (0 ≤ x ∧ x < 256)) := in_any x 8 256 (by decide) (by decide)
abbrev Ac := S40
abbrev Si := S63
theorem nm_some (k : Nat) (a0 a1 a2 a3 a4 a5 : Int) (a6 : Bool) (a7 : ByteArray) (a8 : Int) (l9 : List Si) : ∃ t, script_named.f (k + 2) a0 a1 a2 a3 a4 a5 a6 a7 a8 l9 = some t := by
  refine Option.isSome_iff_exists.1 ?_
  unfold script_named.f
  simp only [script_named.j0, script_named.j1]
  by_cases h0 : a0 = 0
  · simp [h0]
  by_cases h1 : a0 = 1
  · simp [h1]
  by_cases h2 : a0 = 2
  · simp [h2]
  by_cases h3 : a0 = 3
  · simp [h3]
  by_cases h4 : a0 = 4
  · simp [h4]
  by_cases h5 : a0 = 5
  · simp [h5]
  by_cases h6 : a0 = 6
  · simp [h6]
  by_cases h7 : a0 = 7
  · simp [h7]
  by_cases h8 : a0 = 8
  · simp [h8]
  by_cases h9 : a0 = 9
  · simp [h9]
  simp [h0, h1, h2, h3, h4, h5, h6, h7, h8, h9]
theorem nm_prop (k : Nat) (a0 a1 a2 a3 a4 a5 : Int) (a6 : Bool) (a7 : ByteArray) (a8 : Int) (l9 : List Si) (t) (h : script_named.f (k + 2) a0 a1 a2 a3 a4 a5 a6 a7 a8 l9 = some t) : (a0 ≠ 9 → t.2.2.2.2.2.2.2.2.1 = a8 ∧ t.2.2.2.2.2.2.2.2.2.1 = l9) ∧ (t.2.2.2.2.2.2.2.2.2.2 = true → 0 ≤ a0 ∧ a0 ≤ 9) := by
  unfold script_named.f at h
  simp only [script_named.j0, script_named.j1] at h
  by_cases h0 : a0 = 0
  · simp [h0] at h; subst h; simp [h0]
  by_cases h1 : a0 = 1
  · simp [h1] at h; subst h; simp [h1]
  by_cases h2 : a0 = 2
  · simp [h2] at h; subst h; simp [h2]
  by_cases h3 : a0 = 3
  · simp [h3] at h; subst h; simp [h3]
  by_cases h4 : a0 = 4
  · simp [h4] at h; subst h; simp [h4]
  by_cases h5 : a0 = 5
  · simp [h5] at h; subst h; simp [h5]
  by_cases h6 : a0 = 6
  · simp [h6] at h; subst h; simp [h6]
  by_cases h7 : a0 = 7
  · simp [h7] at h; subst h; simp [h7]
  by_cases h8 : a0 = 8
  · simp [h8] at h; subst h; simp [h8]
  by_cases h9 : a0 = 9
  · simp [h9] at h; subst h; simp [h9]
  · simp [h0, h1, h2, h3, h4, h5, h6, h7, h8, h9] at h; subst h; simp
theorem j1_f (k : Nat) (b4 b5 b6 : Bool) (a0 a1 a2 a3 a4 a5 : Int) (a6 : Bool) (a7 : ByteArray) (a8 : Int) (l9 : List Si) : script_May.j1 (k + 1) b4 b5 b6 a0 a1 a2 a3 a4 a5 a6 a7 a8 l9 = some (b4 && (b5 && (b6 && (decide (0 ≤ a2 ∧ a2 < 256) && (decide (0 ≤ a3 ∧ a3 < 256) && (decide (0 ≤ a4 ∧ a4 < 256) && (decide (0 ≤ a5 ∧ a5 < 32) && (decide (a7.size ≤ 512) && (l9.all siteOk && decide (0 ≤ a8 ∧ a8 ≤ 1048576) && decide (l9.length ≤ 3)))))))))) := by
  have hc : conf_May.f a8 l9 = some (l9.all siteOk && decide (0 ≤ a8 ∧ a8 ≤ 1048576) && decide (l9.length ≤ 3)) := rfl
  simp only [script_May.j1, in8, Option.bind_some, hc]
  cases decide (0 ≤ a2 ∧ a2 < 256)
  · cases b4 <;> cases b5 <;> cases b6 <;> rfl
  cases decide (0 ≤ a3 ∧ a3 < 256)
  · cases b4 <;> cases b5 <;> cases b6 <;> rfl
  cases decide (0 ≤ a4 ∧ a4 < 256)
  · cases b4 <;> cases b5 <;> cases b6 <;> rfl
  simp only [if_true, Bool.true_and]
  by_cases h5 : a5 ≥ 0
  · rw [if_pos h5]
    by_cases h6 : a5 < 32
    · rw [if_pos h6, decide_eq_true (show 0 ≤ a5 ∧ a5 < 32 from ⟨h5, h6⟩)]
      by_cases h7 : (a7.size : Int) ≤ 512
      · rw [if_pos h7, decide_eq_true (show a7.size ≤ 512 by omega)]
        cases b4 <;> cases b5 <;> cases b6 <;> simp
      · rw [if_neg h7, decide_eq_false (show ¬ a7.size ≤ 512 by omega)]
        cases b4 <;> cases b5 <;> cases b6 <;> simp
    · rw [if_neg h6, decide_eq_false (show ¬ (0 ≤ a5 ∧ a5 < 32) from fun q => h6 q.2)]
      cases b4 <;> cases b5 <;> cases b6 <;> simp
  · rw [if_neg h5, decide_eq_false (show ¬ (0 ≤ a5 ∧ a5 < 32) from fun q => h5 q.1)]
    cases b4 <;> cases b5 <;> cases b6 <;> simp
theorem j0_f (k : Nat) (b4 b5 : Bool) (a0 a1 a2 a3 a4 a5 : Int) (a6 : Bool) (a7 : ByteArray) (a8 : Int) (l9 : List Si) : script_May.j0 (k + 2) b4 b5 a0 a1 a2 a3 a4 a5 a6 a7 a8 l9 = some (b4 && (b5 && (decide (0 ≤ a1 ∧ a1 ≤ 2) && (decide (0 ≤ a2 ∧ a2 < 256) && (decide (0 ≤ a3 ∧ a3 < 256) && (decide (0 ≤ a4 ∧ a4 < 256) && (decide (0 ≤ a5 ∧ a5 < 32) && (decide (a7.size ≤ 512) && (l9.all siteOk && decide (0 ≤ a8 ∧ a8 ≤ 1048576) && decide (l9.length ≤ 3)))))))))) := by
  rw [script_May.j0]
  by_cases h : a1 ≥ 0
  · rw [if_pos h, j1_f, show decide (0 ≤ a1 ∧ a1 ≤ 2) = decide (a1 ≤ 2) from decide_eq_decide.2 (by omega)]
  · rw [if_neg h, j1_f, decide_eq_false (show ¬ (0 ≤ a1 ∧ a1 ≤ 2) from fun q => h q.1)]
theorem may_j (k : Nat) (a0 a1 a2 a3 a4 a5 : Int) (a6 : Bool) (a7 : ByteArray) (a8 : Int) (l9 : List Si) : ∃ is b : Bool, script_May.f (k + 2) a0 a1 a2 a3 a4 a5 a6 a7 a8 l9 = script_May.j0 (k + 2) is b a0 a1 a2 a3 a4 a5 a6 a7 a8 l9 ∧ (is = true → 0 ≤ a0 ∧ a0 ≤ 9) ∧ (b = true → a0 ≠ 9 → a8 = 0 ∧ l9 = []) := by
  obtain ⟨t, ht⟩ := nm_some k a0 a1 a2 a3 a4 a5 a6 a7 a8 l9
  have hp := nm_prop k a0 a1 a2 a3 a4 a5 a6 a7 a8 l9 t ht
  unfold script_May.f
  rw [ht, Option.bind_some]
  have hf : ∀ (P : Prop), (false = true → P) := fun _ h => absurd h (by decide)
  split
  · split
    · exact ⟨_, _, rfl, hp.2, hf _⟩
    · split
      · split
        · rename_i hv
          refine ⟨_, _, rfl, hp.2, fun hb h9 => ?_⟩
          obtain ⟨e1, e2⟩ := hp.1 h9
          rw [e1] at hv
          rw [e2] at hb
          exact ⟨hv, by simpa using hb⟩
        · exact ⟨_, _, rfl, hp.2, hf _⟩
      · exact ⟨_, _, rfl, hp.2, hf _⟩
  · exact ⟨_, _, rfl, hp.2, hf _⟩

theorem may_some (k : Nat) (x : Ac) : ∃ b, script_May.f (k + 2) x.f0 x.f1 x.f2 x.f3 x.f4 x.f5 x.f6 x.f7 x.f8.f0 x.f8.f1 = some b := by
  obtain ⟨is, b, e, _, _⟩ := may_j k x.f0 x.f1 x.f2 x.f3 x.f4 x.f5 x.f6 x.f7 x.f8.f0 x.f8.f1
  exact ⟨_, e.trans (j0_f k is b _ _ _ _ _ _ _ _ _ _)⟩
theorem okI_small {n : Int} (h : 0 ≤ n ∧ n ≤ 1048576) : okI n = true := by
  unfold okI
  rw [decide_eq_true (by omega), decide_eq_true (by omega)]
  rfl
theorem sm_of {n : Int} (h : 0 ≤ n ∧ n ≤ 1048576) : Take.Sm n := ⟨by omega, by omega⟩
theorem may_yes (k : Nat) (x : Ac) (h : script_May.f (k + 2) x.f0 x.f1 x.f2 x.f3 x.f4 x.f5 x.f6 x.f7 x.f8.f0 x.f8.f1 = some true) : Take.ActS x ∧ actOkI x = true := by
  obtain ⟨is, b, e, h1, h2⟩ := may_j k x.f0 x.f1 x.f2 x.f3 x.f4 x.f5 x.f6 x.f7 x.f8.f0 x.f8.f1
  rw [e, j0_f] at h
  replace h := Option.some.inj h
  simp only [Bool.and_eq_true, decide_eq_true_eq, List.all_eq_true] at h
  obtain ⟨ha, hb, hr, hs, hn, ht, hat, hz, ⟨hsi, hv⟩, hl⟩ := h
  have hk := h1 ha
  have hst : ∀ y ∈ x.f8.f1, (0 ≤ y.f0 ∧ y.f0 ≤ 16) ∧ (0 ≤ y.f2 ∧ y.f2 ≤ 8) ∧ y.f3.length ≤ 4 ∧ ∀ z ∈ y.f3, 0 ≤ z.f0 ∧ z.f0 ≤ 16 := by
    intro y hy
    have h := hsi y hy
    unfold siteOk backOk at h
    simp only [Bool.and_eq_true, decide_eq_true_eq, List.all_eq_true] at h
    exact ⟨h.1.1.2, h.1.2, h.2, h.1.1.1⟩
  constructor
  · refine ⟨sm_of (by omega), sm_of (by omega), sm_of (by omega), sm_of (by omega), sm_of (by omega), sm_of (by omega), hz, sm_of (by omega), hl, fun y hy => ?_, fun h9 => ?_⟩
    · obtain ⟨p0, p2, p3, pb⟩ := hst y hy
      exact ⟨sm_of (by omega), sm_of (by omega), p3, fun z hz => sm_of (by have := pb z hz; omega)⟩
    · obtain ⟨e1, e2⟩ := h2 hb h9
      cases hx : x.f8 with
      | mk p q =>
        rw [hx] at e1 e2
        cases e1
        cases e2
        rfl
  · unfold actOkI
    rw [okI_small (by omega), okI_small (by omega), okI_small (by omega), okI_small (by omega), okI_small (by omega), okI_small (by omega), decide_eq_true hz, okI_small (by omega), decide_eq_true hl]
    simp only [Bool.true_and, List.all_eq_true]
    intro y hy
    obtain ⟨p0, p2, p3, pb⟩ := hst y hy
    unfold siteOkI
    rw [okI_small (by omega), okI_small (by omega), decide_eq_true p3]
    simp only [Bool.true_and, List.all_eq_true]
    intro z hz
    have := pb z hz
    exact okI_small (by omega)
def mayB (x : Ac) : Bool := (script_May.f 2 x.f0 x.f1 x.f2 x.f3 x.f4 x.f5 x.f6 x.f7 x.f8.f0 x.f8.f1).getD false
theorem may_eq (k : Nat) (x : Ac) : script_May.f (k + 2) x.f0 x.f1 x.f2 x.f3 x.f4 x.f5 x.f6 x.f7 x.f8.f0 x.f8.f1 = some (mayB x) := by
  induction k with
  | zero =>
    obtain ⟨b, e⟩ := may_some 0 x
    unfold mayB
    rw [e]
    rfl
  | succ k ih => exact script_May.mono _ _ _ _ _ _ _ _ _ _ _ _ ih
theorem mayB_ (x : Ac) (h : mayB x = true) : Take.ActS x ∧ actOkI x = true := may_yes 0 x (by rw [may_eq, h])
def good (l : List Ac) : Prop := l.length ≤ 256 ∧ l.all mayB = true
def txt (l : List Ac) : ByteArray := ⟨(l.flatMap Pen.actT).toArray⟩
theorem showR_f (k : Nat) (l : List Ac) : ∀ acc, showR (k + 2) l acc = if l.all mayB = true then some (⟨(acc ++ l.flatMap Pen.actT).toArray⟩, 0) else some ((⟨#[]⟩ : ByteArray), 2300) := by
  induction l with
  | nil => intro acc; simp [showR]
  | cons x r ih =>
    intro acc
    rw [showR, may_eq, Option.bind_some, List.all_cons]
    cases hm : mayB x
    · rfl
    · rw [if_pos rfl, if_pos (mayB_ x hm).2, ih, Bool.true_and]
      simp
theorem show_f (k : Nat) (l : List Ac) (h : good l) : script_Show.f (k + 2) l = some (txt l, 0) := by
  unfold script_Show.f
  rw [if_neg (by have := h.1; omega), showR_f, if_pos h.2]
  rfl
theorem show_no (k : Nat) (l : List Ac) (h : ¬ good l) : script_Show.f (k + 2) l = some ((⟨#[]⟩ : ByteArray), 2300) := by
  unfold script_Show.f
  by_cases h1 : l.length > 256
  · rw [if_pos h1]
  · rw [if_neg h1, showR_f, if_neg (fun q => h ⟨by omega, q⟩)]
theorem parseL_f (l : List Ac) (hs : ∀ x ∈ l, Take.ActS x) : ∀ (f : Nat) (acc : List Ac), acc.length + l.length ≤ 256 → l.length < f → parseL f acc (l.flatMap Pen.actT, false) = (acc ++ l, ([], false)) := by
  induction l with
  | nil =>
    intro f acc ha hf
    obtain ⟨f, rfl⟩ : ∃ n, f = n + 1 := ⟨f - 1, by simp only [List.length_nil] at hf; omega⟩
    rw [parseL, if_neg (fun q => q.1 rfl)]
    simp
  | cons x r ih =>
    intro f acc ha hf
    simp only [List.length_cons] at ha hf
    obtain ⟨f, rfl⟩ : ∃ n, f = n + 1 := ⟨f - 1, by omega⟩
    have e : (x :: r).flatMap Pen.actT = Pen.actT x ++ r.flatMap Pen.actT := by simp
    rw [parseL, e, if_pos ⟨Take.act_ne x _, rfl, by omega⟩, Take.act_at (hs x List.mem_cons_self)]
    simp only []
    rw [ih (fun z hz => hs z (List.mem_cons_of_mem _ hz)) f (acc ++ [x]) (by rw [List.length_append, List.length_singleton]; omega) (by omega)]
    simp
theorem txt_len (l : List Ac) (h : l.all mayB = true) : (l.flatMap Pen.actT).length ≤ 1400 * l.length := by
  induction l with
  | nil => simp
  | cons x r ih =>
    rw [List.all_cons, Bool.and_eq_true] at h
    have h1 := ih h.2
    have h2 := Pen.actT_len (actOkI_ (mayB_ x h.1).2)
    rw [List.flatMap_cons, List.length_append, List.length_cons]
    omega
theorem txt_size (l : List Ac) (h : good l) : (txt l).size ≤ 358400 := by
  have h1 := txt_len l h.2
  have h2 := h.1
  have h3 : (txt l).size = (l.flatMap Pen.actT).length := by
    unfold txt
    show (l.flatMap Pen.actT).toArray.size = _
    simp
  omega
theorem parse_f (k : Nat) (l : List Ac) (h : good l) : script_Parse.f (k + 2) (txt l) = some (l, 0) := by
  have hz := txt_size l h
  have hp : parseL 258 [] ((txt l).data.toList, false) = (l, ([], false)) := by
    have h1 := parseL_f l (fun x hx => (mayB_ x (List.all_eq_true.1 h.2 x hx)).1) 258 [] (by simpa using h.1) (by have := h.1; omega)
    unfold txt
    simpa using h1
  unfold script_Parse.f
  rw [if_pos (by omega), hp]
  simp only []
  rw [show_f k l h]
  simp
theorem parse_any (k : Nat) (a : ByteArray) (ha : a.size ≤ 281474976710656) : ∃ u r, script_Parse.f (k + 2) a = some (u, r) ∧ ((r = 0 ∧ good u ∧ a = txt u) ∨ (r = 2300 ∧ u = [])) := by
  unfold script_Parse.f
  rw [if_pos ha]
  generalize parseL 258 [] (a.data.toList, false) = R
  by_cases h : good R.1
  · rw [show_f k _ h, Option.bind_some]
    by_cases hb : R.2.2 = true
    · rw [if_pos hb]; exact ⟨_, _, rfl, .inr ⟨rfl, rfl⟩⟩
    · rw [if_neg hb, if_pos rfl]
      by_cases he : txt R.1 = a
      · rw [if_pos he]; exact ⟨_, _, rfl, .inl ⟨rfl, h, he.symm⟩⟩
      · rw [if_neg he]; exact ⟨_, _, rfl, .inr ⟨rfl, rfl⟩⟩
  · rw [show_no k _ h, Option.bind_some]
    by_cases hb : R.2.2 = true
    · rw [if_pos hb]; exact ⟨_, _, rfl, .inr ⟨rfl, rfl⟩⟩
    · rw [if_neg hb, if_neg (by decide)]; exact ⟨_, _, rfl, .inr ⟨rfl, rfl⟩⟩
theorem same_f (k : Nat) (l : List Ac) (h : good l) : wharfagelaw0_SameActs.f (k + 5) l l = some true := by
  unfold wharfagelaw0_SameActs.f
  refine if_pos ⟨rfl, by have := h.1; omega, fun x hx => ?_⟩
  have ha := (mayB_ x (List.all_eq_true.1 h.2 x hx)).1
  refine ⟨by have := ha.n; omega, fun s hs => ?_⟩
  have := (ha.s s hs).n
  omega
theorem back_f (k : Nat) (a : ByteArray) (ha : a.size ≤ 281474976710656) : (script_Parse.f (k + 2) a).bind (fun bt280 => ((wharfagelaw0_Num.f bt280.2).bind fun t284 => (if t284 = 0 then ((script_Show.f (k + 2) bt280.1).bind fun bt285 => ((wharfagelaw0_Num.f bt285.2).bind fun t287 => (if t287 = 0 then (some (bt285.1.toList == a.toList)) else (none)))) else (some ((bt280.1.length : Int) == 0))))) = some true := by
  obtain ⟨u, r, e, h⟩ := parse_any k a ha
  rw [e, Option.bind_some]
  rcases h with ⟨rfl, hg, rfl⟩ | ⟨rfl, rfl⟩
  · simp only [wharfagelaw0_Num.f, Option.bind_some]
    rw [show_f k u hg]
    simp
  · simp [wharfagelaw0_Num.f]

theorem awake_f : wharfagelaw23_awake.f 7 = some true := by kernel_rfl
theorem awake_k (k : Nat) : wharfagelaw23_awake.f (k + 7) = some true := by
  induction k with
  | zero => exact awake_f
  | succ k ih => exact wharfagelaw23_awake.mono _ _ ih

theorem good_split (l : List Ac) (m : Nat) (hl : l.length ≤ 200) : good l ↔ good (l.take m) ∧ good (l.drop m) := by
  unfold good
  have e : l.all mayB = ((l.take m).all mayB && (l.drop m).all mayB) := by
    rw [← List.all_append, List.take_append_drop]
  rw [e, Bool.and_eq_true, List.length_take, List.length_drop]
  constructor
  · rintro ⟨h1, h2, h3⟩
    exact ⟨⟨by omega, h2⟩, by omega, h3⟩
  · rintro ⟨⟨h1, h2⟩, h3, h4⟩
    exact ⟨by omega, h2, h4⟩
theorem txt_split (l : List Ac) (m : Nat) : txt (l.take m) ++ txt (l.drop m) = txt l := by
  have e : l.flatMap Pen.actT = (l.take m).flatMap Pen.actT ++ (l.drop m).flatMap Pen.actT := by
    rw [← List.flatMap_append, List.take_append_drop]
  unfold txt
  rw [e]
  apply ByteArray.ext
  simp
theorem mod_f (n : Nat) (a : Int) (hn : n ≤ 200) : ∃ m : Nat, wrap64 (Int.tmod (IntKind.u64.wrap a) (IntKind.u64.wrap (wrap64 ((n : Int) + 1)))) = (m : Int) ∧ m ≤ n ∧ IntKind.u64.wrap (wrap64 ((n : Int) + 1)) ≠ 0 := by
  have e : IntKind.u64.wrap (wrap64 ((n : Int) + 1)) = (n : Int) + 1 := by
    have e1 : wrap64 ((n : Int) + 1) = (n : Int) + 1 := by unfold wrap64; omega
    rw [e1]
    unfold IntKind.wrap
    simp [IntKind.signed, IntKind.bits]
    omega
  have h0 : 0 ≤ IntKind.u64.wrap a := by
    unfold IntKind.wrap
    simp [IntKind.signed, IntKind.bits]
    omega
  rw [e]
  have e2 : Int.tmod (IntKind.u64.wrap a) ((n : Int) + 1) = (IntKind.u64.wrap a) % ((n : Int) + 1) := Int.tmod_eq_emod_of_nonneg h0
  have h1 := Int.emod_nonneg (IntKind.u64.wrap a) (show (n : Int) + 1 ≠ 0 by omega)
  have h2 := Int.emod_lt_of_pos (IntKind.u64.wrap a) (show (0 : Int) < (n : Int) + 1 by omega)
  rw [e2]
  refine ⟨((IntKind.u64.wrap a) % ((n : Int) + 1)).toNat, ?_, ?_, ?_⟩
  · unfold wrap64
    omega
  · omega
  · omega
theorem em0 : (⟨#[]⟩ : ByteArray).toList = ([] : List UInt8) := by
  rw [show (⟨#[]⟩ : ByteArray) = ByteArray.empty from rfl]
  simp
theorem scriptRows_f (l0 : List Ac) (a1 : Int) : wharfagelaw23_ScriptRows.f 7 l0 a1 = some true := by
  unfold wharfagelaw23_ScriptRows.f
  rw [awake_k 0, Option.bind_some, if_pos rfl]
  by_cases hl : (l0.length : Int) > 200
  · rw [if_pos hl]
  rw [if_neg hl]
  obtain ⟨m, em, hm, hz⟩ := mod_f l0.length a1 (by omega)
  rw [if_neg hz, em, if_pos (by omega), if_pos (by omega), Int.toNat_natCast]
  have hs := good_split l0 m (by omega)
  by_cases h1 : good (l0.take m)
  · rw [show_f 5 _ h1, Option.bind_some]
    by_cases h2 : good (l0.drop m)
    · have h := hs.2 ⟨h1, h2⟩
      rw [show_f 5 _ h2, Option.bind_some, show_f 5 _ h, Option.bind_some]
      simp only [wharfagelaw0_Num.f, Option.bind_some, if_true]
      have z1 := txt_size _ h1
      have z2 := txt_size _ h2
      rw [if_pos (by omega), txt_split, parse_f 5 l0 h]
      simp only [Option.bind_some, if_true]
      rw [same_f 2 l0 h]
      rfl
    · have h : ¬ good l0 := fun q => h2 (hs.1 q).2
      rw [show_no 5 _ h2, Option.bind_some, show_no 5 _ h, Option.bind_some]
      simp [wharfagelaw0_Num.f, em0]
  · have h : ¬ good l0 := fun q => h1 (hs.1 q).1
    rw [show_no 5 _ h1, Option.bind_some]
    by_cases h2 : good (l0.drop m)
    · rw [show_f 5 _ h2, Option.bind_some, show_no 5 _ h, Option.bind_some]
      simp [wharfagelaw0_Num.f, em0]
    · rw [show_no 5 _ h2, Option.bind_some, show_no 5 _ h, Option.bind_some]
      simp [wharfagelaw0_Num.f, em0]
theorem ScriptRows : wharfagelaw23_ScriptRows.PureX := fun x0 x1 _ _ => ⟨7, scriptRows_f x0 x1⟩

end Go.Proofs.YtnojgkiaolmoeaaDoor.Pure
