/- The taker: a text from which numbers and letters are taken. -/
import Derived.Test.YtnojgkiaolmoeaaDoorPen
import Derived.Lib.CutLaws
import Derived.Lib.IndexBytes
import Derived.Lib.AtoiAllCases
namespace Go.Proofs.YtnojgkiaolmoeaaDoor.Take
open Go.RowKit Go.Proofs.YtnojgkiaolmoeaaDoorW.PrintWords Go.Proofs.YtnojgkiaolmoeaaDoorW.PrintLast Go.Proofs.YtnojgkiaolmoeaaDoorW.PrintMore
set_option linter.unusedVariables false
set_option linter.unusedSimpArgs false
theorem drewN_below (w : World) (n : Nat) : Below w.heap.size w (w.drewN n) := pw_below_drewN (Below.refl _ _) n
set_option maxHeartbeats 4000000 in
set_option maxRecDepth 100000 in
theorem cut0 (s : ByteArray) (c : UInt8) (w : World) (hsz : s.size ≤ 281474976710656) :
    Calls Tryd.prog 60 #[.string s, .string ⟨#[c]⟩] w fun e w' => e = .returned (.tuple #[.string ⟨(Lib.cut s.data.toList [c]).1.toArray⟩, .string ⟨(Lib.cut s.data.toList [c]).2.1.toArray⟩, .bool (Lib.cut s.data.toList [c]).2.2]) ∧ Below w.heap.size w w' := by
  have mixed : Tryd.prog.follows .mixedOrders = true := by kernel_rfl
  rcases Lib.indexB_cases s ⟨#[c]⟩ with hix | ⟨i, hix, hroom⟩
  · obtain ⟨e1, e2, e3⟩ := Lib.cutB_miss s ⟨#[c]⟩ hix
    have hix1 : Lib.indexByte s.data.toList c = -1 := (Lib.index_one s.data.toList c).symm.trans hix
    rw [show (⟨#[c]⟩ : ByteArray).data.toList = [c] from rfl] at e1 e2 e3
    rw [e1, e2, e3]
    go_enter Tryd.func60, Tryd.ntmps60
    go_wp2_with (go_at_call 67; refine (Tryd.stringslite_Index_one s c _).mono ?_; rintro e w1 ⟨rfl, rfl⟩; rw [hix1])
    go_ret3
    exact ⟨rfl, Below.refl _ _⟩
  · obtain ⟨e1, e2, e3⟩ := Lib.cutB_hit s ⟨#[c]⟩ i hix
    have hix1 : Lib.indexByte s.data.toList c = i := (Lib.index_one s.data.toList c).symm.trans hix
    rw [show (⟨#[c]⟩ : ByteArray).data.toList = [c] from rfl] at e1 e2 e3
    rw [e1, e2, e3]
    have hz : (⟨#[c]⟩ : ByteArray).size = 1 := rfl
    rw [hz] at hroom ⊢
    have c1 : (0 : Int) ≤ ↑i := by omega
    have c2 : (↑i : Int) ≤ ↑s.size := by omega
    have c3 : (0 : Int) ≤ ↑i + 1 := by omega
    have c4 : (↑i + 1 : Int) ≤ ↑s.size := by omega
    have hw : IntKind.i64.wrap (↑i + 1) = ↑i + 1 := by rw [IntKind.wrap_i64]; omega
    have hw2 : wrap64 (↑i + 1) = ↑i + 1 := by unfold wrap64; omega
    go_enter Tryd.func60, Tryd.ntmps60
    go_wp2_with (go_at_call 67; refine (Tryd.stringslite_Index_one s c _).mono ?_; rintro e w1 ⟨rfl, rfl⟩; rw [hix1])
    go_region_o
    go_wp2
    go_ret3
    exact ⟨rfl, drewN_below _ 1⟩
theorem cut_ (l : List UInt8) (c : UInt8) (w : World) (hl : l.length ≤ 281474976710656) :
    Calls Tryd.prog 55 #[.string ⟨l.toArray⟩, .string ⟨#[c]⟩] w fun e w' => e = .returned (.tuple #[.string ⟨(Lib.cut l [c]).1.toArray⟩, .string ⟨(Lib.cut l [c]).2.1.toArray⟩, .bool (Lib.cut l [c]).2.2]) ∧ Below w.heap.size w w' := by
  go_enter Tryd.func55, Tryd.ntmps55
  go_wp2_with (go_at_call 60; refine (cut0 ⟨l.toArray⟩ c _ (by show l.toArray.size ≤ _; simpa using hl)).mono ?_; rintro e w1 ⟨rfl, hb⟩; have HB := Aside0.mk hb; clear hb)
  go_ret3
  exact ⟨rfl, HB.out⟩
/-- What strconv says of a number that is none: there is something in its two variables. -/
def Errs (w0 : World) : Prop := ∀ w, Below w0.heap.size w0 w → (∃ tp p, w.var? Tryd.prog "strconv.ErrSyntax" = some #[.iface tp p]) ∧ (∃ tp p, w.var? Tryd.prog "strconv.ErrRange" = some #[.iface tp p])
/-- What the program's variables hold when a call begins: the table of the powers of ten, two errors. -/
def Laid (w : World) : Prop := Pen.Tab w ∧ (∃ tp p, w.var? Tryd.prog "strconv.ErrSyntax" = some #[.iface tp p]) ∧ (∃ tp p, w.var? Tryd.prog "strconv.ErrRange" = some #[.iface tp p])
theorem var_below {w w1 : World} {n : String} {v : Array Value} (h : w.var? Tryd.prog n = some v) (hb : Below w.heap.size w w1) : w1.var? Tryd.prog n = some v := by
  unfold World.var? at h ⊢
  cases hg : Tryd.prog.globalNamed n with
  | none => rw [hg] at h; cases h
  | some g =>
    rw [hg] at h
    simp only [Option.bind_some] at h ⊢
    cases ho : w.heap[g]? with
    | none => rw [ho] at h; cases h
    | some o =>
      rw [(hb.block g (Array.getElem?_eq_some_iff.1 ho).1).trans ho]
      rw [ho] at h
      exact h
theorem Laid.below {w w1 : World} (h : Laid w) (hb : Below w.heap.size w w1) : Laid w1 := by
  obtain ⟨h1, ⟨t2, p2, h2⟩, ⟨t3, p3, h3⟩⟩ := h
  exact ⟨var_below h1 hb, ⟨t2, p2, var_below h2 hb⟩, ⟨t3, p3, var_below h3 hb⟩⟩
/-- A number's value, and whether there is one. -/
def valL (a : List UInt8) : Int × Bool := match Lib.atoiAll a with
  | .ok v => (v, true)
  | .range => (Lib.atoiSat a, false)
  | _ => (0, false)
theorem bytesWorld_below (w : World) (t : ByteArray) : Below w.heap.size w (Lib.bytesWorld w 5 t) := by
  unfold Lib.bytesWorld
  exact Lib.below_freeze ((Below.drew (Below.refl _ w)).alloc (Nat.le_refl _) _) (p := ⟨w.heap.size, _, none⟩) (Nat.le_refl _) 1
theorem atoi_ (a : List UInt8) (hl : a.length ≤ 281474976710656) (w : World) (hE : (∃ tp p, w.var? Tryd.prog "strconv.ErrSyntax" = some #[.iface tp p]) ∧ (∃ tp p, w.var? Tryd.prog "strconv.ErrRange" = some #[.iface tp p])) :
    Calls Tryd.prog 56 #[.string ⟨a.toArray⟩] w fun e w' => ∃ ev, e = .returned (.tuple #[.int .i64 (valL a).1, ev]) ∧ (if (valL a).2 = true then ev = .nilIface else ∃ N, ev = .iface 118 (.pointer (some ⟨N, 0, none⟩))) ∧ Below w.heap.size w w' := by
  have hz : (⟨a.toArray⟩ : ByteArray).size = a.length := by show a.toArray.size = _; simp
  unfold valL
  cases hA : Lib.atoiAll a with
  | ok v =>
    refine (Tryd.strconv_Atoi_ok ⟨a.toArray⟩ (by rw [hz]; omega) v hA w).mono ?_
    rintro e w' ⟨rfl, hw⟩
    refine ⟨_, rfl, by simp, ?_⟩
    rcases hw with rfl | ⟨t, rfl⟩
    · exact Below.refl _ _
    · exact bytesWorld_below w t
  | range =>
    obtain ⟨tp, p, hv⟩ := hE.2
    refine (Tryd.strconv_Atoi_range_var ⟨a.toArray⟩ (by rw [hz]; omega) hA tp p w hv).mono ?_
    rintro e w' ⟨N, rfl, _, _, hb⟩
    exact ⟨_, rfl, by simp, hb⟩
  | _ =>
    obtain ⟨tp, p, hv⟩ := hE.1
    refine (Tryd.strconv_Atoi_syntax_var ⟨a.toArray⟩ (by rw [hz]; omega) hA tp p w hv).mono ?_
    rintro e w' ⟨N, rfl, _, _, hb⟩
    exact ⟨_, rfl, by simp, hb⟩
/-- All stands but block g. -/
structure Fr (g : Nat) (w w' : World) : Prop where
  os : w'.os = w.os
  tape : w'.tape = w.tape
  out : w'.output = w.output
  size : w.heap.size ≤ w'.heap.size
  blk : ∀ i, i < w.heap.size → i ≠ g → w'.heap[i]? = w.heap[i]?
theorem Fr.refl (g : Nat) (w : World) : Fr g w w := ⟨rfl, rfl, rfl, Nat.le_refl _, fun _ _ _ => rfl⟩
theorem Fr.trans {g : Nat} {u v w : World} (h : Fr g u v) (k : Fr g v w) : Fr g u w := ⟨k.os.trans h.os, k.tape.trans h.tape, k.out.trans h.out, Nat.le_trans h.size k.size, fun i hi hg => (k.blk i (Nat.lt_of_lt_of_le hi h.size) hg).trans (h.blk i hi hg)⟩
theorem Fr.of_below {g : Nat} {w w' : World} (h : Below w.heap.size w w') : Fr g w w' := ⟨h.os, h.tape, h.output, h.size, fun i hi _ => h.block i hi⟩
theorem Fr.set {g : Nat} {u w : World} (h : Fr g u w) (j : Nat) (v : Value) : Fr g u (w.setCell ⟨g, j, none⟩ v) := by
  have hb : Below g w (w.setCell ⟨g, j, none⟩ v) := (Below.refl g w).setCell (p := ⟨g, j, none⟩) (Nat.le_refl _) v
  exact h.trans ⟨hb.os, hb.tape, hb.output, hb.size, fun i _ hg => Below.heap_setCell w ⟨g, j, none⟩ v i hg⟩
/-- A taker in block g: what is left, and whether there was not what there should be; all that lay in w0 stands. -/
structure Tk (w0 : World) (g : Nat) (l : List UInt8) (bad : Bool) (w : World) : Prop where
  blk : w.heap[g]? = some (.cells #[.string ⟨l.toArray⟩, .bool bad] 68 (0, 0))
  low : Below w0.heap.size w0 w
  lo : w0.heap.size ≤ g
  len : l.length ≤ 281474976710656
theorem Tk.lt {w0 w : World} {g : Nat} {l : List UInt8} {bad : Bool} (h : Tk w0 g l bad w) : g < w.heap.size := (Array.getElem?_eq_some_iff.1 h.blk).1
theorem Tk.sz {w0 w : World} {g : Nat} {l : List UInt8} {bad : Bool} (h : Tk w0 g l bad w) : w0.heap.size ≤ w.heap.size := below_size h.low
theorem Tk.next {w0 w w1 : World} {g : Nat} {l : List UInt8} {bad : Bool} (h : Tk w0 g l bad w) (hb : Below w.heap.size w w1) : Tk w0 g l bad w1 := ⟨(hb.block g h.lt).trans h.blk, h.low.trans (Pen.below_of h.sz hb), h.lo, h.len⟩
theorem Tk.c0 {w0 w : World} {g : Nat} {l : List UInt8} {bad : Bool} (h : Tk w0 g l bad w) : w.cell? ⟨g, 0, none⟩ = some (.string ⟨l.toArray⟩) := by rw [Lib.cell_of_heap h.blk]; rfl
theorem Tk.c1 {w0 w : World} {g : Nat} {l : List UInt8} {bad : Bool} (h : Tk w0 g l bad w) : w.cell? ⟨g, 1, none⟩ = some (.bool bad) := by rw [Lib.cell_of_heap h.blk]; rfl
theorem Tk.fz {w0 w : World} {g : Nat} {l : List UInt8} {bad : Bool} (h : Tk w0 g l bad w) (j : Nat) : w.frozen? ⟨g, j, none⟩ = false := Lib.frozen_of_heap h.blk j
theorem Tk.set0 {w0 w : World} {g : Nat} {l : List UInt8} {bad : Bool} (h : Tk w0 g l bad w) (r : List UInt8) (hr : r.length ≤ l.length) : Tk w0 g r bad (w.setCell ⟨g, 0, none⟩ (.string ⟨r.toArray⟩)) := ⟨blk_put h.blk 0 _ rfl, h.low.setCell (p := ⟨g, 0, none⟩) h.lo _, h.lo, Nat.le_trans hr h.len⟩
theorem Tk.set1 {w0 w : World} {g : Nat} {l : List UInt8} {bad : Bool} (h : Tk w0 g l bad w) (b : Bool) : Tk w0 g l b (w.setCell ⟨g, 1, none⟩ (.bool b)) := ⟨blk_put h.blk 1 _ rfl, h.low.setCell (p := ⟨g, 1, none⟩) h.lo _, h.lo, h.len⟩
/-- A number and the sign c behind it: its value, what is left, and whether it was there. -/
def numR (c : UInt8) (l : List UInt8) : Int × List UInt8 × Bool :=
  ((valL (Lib.cut l [c]).1).1, (Lib.cut l [c]).2.1, (Lib.cut l [c]).2.2 && (valL (Lib.cut l [c]).1).2 && decide (0 ≤ (valL (Lib.cut l [c]).1).1))
theorem cut_len (l : List UInt8) (c : UInt8) : (Lib.cut l [c]).1.length ≤ l.length ∧ (Lib.cut l [c]).2.1.length ≤ l.length := by
  unfold Lib.cut
  split
  · simp only [List.length_take, List.length_drop]
    omega
  · simp
set_option maxHeartbeats 4000000 in
set_option maxRecDepth 100000 in
theorem num (w0 : World) (g : Nat) (c : UInt8) (l : List UInt8) (bad : Bool) (w : World) (h : Tk w0 g l bad w) (hE : Aside0 (Errs w0)) :
    Calls Tryd.prog 43 #[.pointer (some ⟨g, 0, none⟩), .string ⟨#[c]⟩] w fun e w' => e = .returned (.int .i64 (numR c l).1) ∧ Tk w0 g (numR c l).2.1 (bad || !(numR c l).2.2) w' ∧ Fr g w w' := by
  have hu := Tryd.underlying68
  have HT := Aside0.mk h
  have hl := h.len
  have HLA0 := cut_len l c
  unfold numR
  obtain ⟨⟨a, r, f⟩, hkq⟩ : ∃ k, Lib.cut l [c] = k := ⟨_, rfl⟩
  rw [hkq] at HLA0 ⊢
  have HLA := Aside0.mk HLA0.1
  have HLR := Aside0.mk HLA0.2
  obtain ⟨⟨v, ok⟩, hvq⟩ : ∃ k, valL a = k := ⟨_, rfl⟩
  simp only []
  rw [hvq]
  have z0 := HT.out.c0
  have z1 := HT.out.c1
  have y0 := HT.out.fz 0
  have y1 := HT.out.fz 1
  clear h HLA0
  cases f
  · go_enter Tryd.func43, Tryd.ntmps43
    cases ok
    · skip
      go_wp2_with (first | (go_at_call 55; refine (cut_ l c _ hl).mono ?_; rintro e w1 ⟨rfl, hb⟩; rw [hkq]; have T1 := Aside0.mk (HT.out.next hb); have F1 := Aside0.mk (Fr.of_below (g := g) hb); clear hb z0 z1 y0 y1) | (go_at_call 56; refine (atoi_ a (Nat.le_trans HLA.out hl) _ (hE.out _ T1.out.low)).mono ?_; rintro e w2 ⟨ev, rfl, hev, hb⟩; rw [hvq] at hev ⊢; (obtain ⟨N, rfl⟩ : ∃ N, ev = .iface 118 (.pointer (some ⟨N, 0, none⟩)) := by simpa using hev); have T2 := Aside0.mk (T1.out.next hb); have F2 := Aside0.mk (F1.out.trans (Fr.of_below (g := g) hb)); have z0 := T2.out.c0; have z1 := T2.out.c1; have y0 := T2.out.fz 0; have y1 := T2.out.fz 1; clear hb))
      go_ret
      exact ⟨rfl, (by have h9 := (T2.out.set0 r HLR.out).set1 true; simpa using h9), (F2.out.set 0 _).set 1 _⟩
    · skip
      go_wp2_with (first | (go_at_call 55; refine (cut_ l c _ hl).mono ?_; rintro e w1 ⟨rfl, hb⟩; rw [hkq]; have T1 := Aside0.mk (HT.out.next hb); have F1 := Aside0.mk (Fr.of_below (g := g) hb); clear hb z0 z1 y0 y1) | (go_at_call 56; refine (atoi_ a (Nat.le_trans HLA.out hl) _ (hE.out _ T1.out.low)).mono ?_; rintro e w2 ⟨ev, rfl, hev, hb⟩; rw [hvq] at hev ⊢; (obtain rfl : ev = .nilIface := by simpa using hev); have T2 := Aside0.mk (T1.out.next hb); have F2 := Aside0.mk (F1.out.trans (Fr.of_below (g := g) hb)); have z0 := T2.out.c0; have z1 := T2.out.c1; have y0 := T2.out.fz 0; have y1 := T2.out.fz 1; clear hb))
      go_ret
      exact ⟨rfl, (by have h9 := (T2.out.set0 r HLR.out).set1 true; simpa using h9), (F2.out.set 0 _).set 1 _⟩
  · cases ok
    · go_enter Tryd.func43, Tryd.ntmps43
      go_wp2_with (first | (go_at_call 55; refine (cut_ l c _ hl).mono ?_; rintro e w1 ⟨rfl, hb⟩; rw [hkq]; have T1 := Aside0.mk (HT.out.next hb); have F1 := Aside0.mk (Fr.of_below (g := g) hb); clear hb z0 z1 y0 y1) | (go_at_call 56; refine (atoi_ a (Nat.le_trans HLA.out hl) _ (hE.out _ T1.out.low)).mono ?_; rintro e w2 ⟨ev, rfl, hev, hb⟩; rw [hvq] at hev ⊢; (obtain ⟨N, rfl⟩ : ∃ N, ev = .iface 118 (.pointer (some ⟨N, 0, none⟩)) := by simpa using hev); have T2 := Aside0.mk (T1.out.next hb); have F2 := Aside0.mk (F1.out.trans (Fr.of_below (g := g) hb)); have z0 := T2.out.c0; have z1 := T2.out.c1; have y0 := T2.out.fz 0; have y1 := T2.out.fz 1; clear hb))
      go_ret
      exact ⟨rfl, (by have h9 := (T2.out.set0 r HLR.out).set1 true; simpa using h9), (F2.out.set 0 _).set 1 _⟩
    · by_cases hv0 : v < 0
      · have hvb : decide (v < 0) = true := decide_eq_true hv0
        have hvc : decide (0 ≤ v) = false := decide_eq_false (by omega)
        go_enter Tryd.func43, Tryd.ntmps43
        go_wp2_with (first | (go_at_call 55; refine (cut_ l c _ hl).mono ?_; rintro e w1 ⟨rfl, hb⟩; rw [hkq]; have T1 := Aside0.mk (HT.out.next hb); have F1 := Aside0.mk (Fr.of_below (g := g) hb); clear hb z0 z1 y0 y1) | (go_at_call 56; refine (atoi_ a (Nat.le_trans HLA.out hl) _ (hE.out _ T1.out.low)).mono ?_; rintro e w2 ⟨ev, rfl, hev, hb⟩; rw [hvq] at hev ⊢; (obtain rfl : ev = .nilIface := by simpa using hev); have T2 := Aside0.mk (T1.out.next hb); have F2 := Aside0.mk (F1.out.trans (Fr.of_below (g := g) hb)); have z0 := T2.out.c0; have z1 := T2.out.c1; have y0 := T2.out.fz 0; have y1 := T2.out.fz 1; clear hb))
        go_ret
        exact ⟨rfl, (by have h9 := (T2.out.set0 r HLR.out).set1 true; simpa [hvc] using h9), (F2.out.set 0 _).set 1 _⟩
      · have hvb : decide (v < 0) = false := decide_eq_false hv0
        have hvc : decide (0 ≤ v) = true := decide_eq_true (by omega)
        go_enter Tryd.func43, Tryd.ntmps43
        go_wp2_with (first | (go_at_call 55; refine (cut_ l c _ hl).mono ?_; rintro e w1 ⟨rfl, hb⟩; rw [hkq]; have T1 := Aside0.mk (HT.out.next hb); have F1 := Aside0.mk (Fr.of_below (g := g) hb); clear hb z0 z1 y0 y1) | (go_at_call 56; refine (atoi_ a (Nat.le_trans HLA.out hl) _ (hE.out _ T1.out.low)).mono ?_; rintro e w2 ⟨ev, rfl, hev, hb⟩; rw [hvq] at hev ⊢; (obtain rfl : ev = .nilIface := by simpa using hev); have T2 := Aside0.mk (T1.out.next hb); have F2 := Aside0.mk (F1.out.trans (Fr.of_below (g := g) hb)); have z0 := T2.out.c0; have z1 := T2.out.c1; have y0 := T2.out.fz 0; have y1 := T2.out.fz 1; clear hb))
        go_ret
        exact ⟨rfl, (by have h9 := T2.out.set0 r HLR.out; simpa [hvc] using h9), F2.out.set 0 _⟩
def letR (y : UInt8) (s : List UInt8 × Bool) : Bool × (List UInt8 × Bool) := match s.1 with
  | [] => (false, ([], true))
  | x :: r => (x == y, (r, s.2))
def numM (c : UInt8) (s : List UInt8 × Bool) : Int × (List UInt8 × Bool) := ((numR c s.1).1, ((numR c s.1).2.1, s.2 || !(numR c s.1).2.2))
def textM (s : List UInt8 × Bool) : List UInt8 × (List UInt8 × Bool) :=
  if (numM 58 s).2.2 = true ∨ ((numM 58 s).2.1.length : Int) < (numM 58 s).1 then ([], ((numM 58 s).2.1, true)) else ((numM 58 s).2.1.take (numM 58 s).1.toNat, ((numM 58 s).2.1.drop (numM 58 s).1.toNat, (numM 58 s).2.2))
theorem mk_size (l : List UInt8) : (⟨l.toArray⟩ : ByteArray).size = l.length := by show l.toArray.size = _; simp
theorem mk_extract (l : List UInt8) (a b : Nat) : (⟨l.toArray⟩ : ByteArray).extract a b = ⟨((l.drop a).take (b - a)).toArray⟩ := by
  rw [Lib.extract_eq]
theorem eq_u8' (x y : UInt8) : ((x.toNat : Int) == (y.toNat : Int)) = (x == y) := by
  by_cases h : x = y
  · subst h; simp
  · rw [beq_eq_false_iff_ne.2 (fun e => h (UInt8.toNat_inj.1 (by omega))), beq_eq_false_iff_ne.2 h]
set_option maxHeartbeats 4000000 in
set_option maxRecDepth 100000 in
theorem letter (w0 : World) (g : Nat) (y : UInt8) (l : List UInt8) (bad : Bool) (w : World) (h : Tk w0 g l bad w) :
    Calls Tryd.prog 44 #[.pointer (some ⟨g, 0, none⟩), .int .u8 y.toNat] w fun e w' => e = .returned (.bool (letR y (l, bad)).1) ∧ Tk w0 g (letR y (l, bad)).2.1 (letR y (l, bad)).2.2 w' ∧ Fr g w w' := by
  have hu := Tryd.underlying68
  have z0 := h.c0
  have z1 := h.c1
  have y0 := h.fz 0
  have y1 := h.fz 1
  cases l with
  | nil =>
    go_enter Tryd.func44, Tryd.ntmps44
    go_wp2_with fail
    go_ret
    exact ⟨rfl, h.set1 true, (Fr.refl g w).set 1 _⟩
  | cons x r =>
    have hne : ((x :: r) == ([] : List UInt8)) = false := rfl
    have hsz : (0 : Int) < (((⟨(x :: r).toArray⟩ : ByteArray).size : Nat) : Int) := by rw [mk_size]; simp
    have e1 : (⟨(x :: r).toArray⟩ : ByteArray).extract 1 (⟨(x :: r).toArray⟩ : ByteArray).size = ⟨r.toArray⟩ := by rw [mk_extract, mk_size]; simp
    have hsz1 : (1 : Int) ≤ (((⟨(x :: r).toArray⟩ : ByteArray).size : Nat) : Int) := by omega
    go_enter Tryd.func44, Tryd.ntmps44
    go_wp2_with fail
    go_ret
    refine ⟨congrArg (fun b => Ending.returned (.bool b)) (eq_u8' x y), ?_, (Fr.refl g w).set 0 _⟩
    first
      | (rw [e1]; exact h.set0 r (by simp))
      | (rw [show (⟨(x :: r).toArray⟩ : ByteArray).extract 1 (r.length + 1) = ⟨r.toArray⟩ from by rw [← e1, mk_size]; rfl]; exact h.set0 r (by simp))
theorem numR_ok {c : UInt8} {l : List UInt8} (h : (numR c l).2.2 = true) : 0 ≤ (numR c l).1 := by
  unfold numR at h ⊢
  simp only [Bool.and_eq_true, decide_eq_true_eq] at h
  exact h.2
set_option maxHeartbeats 4000000 in
set_option maxRecDepth 100000 in
theorem text (w0 : World) (g : Nat) (l : List UInt8) (bad : Bool) (w : World) (h : Tk w0 g l bad w) (hE : Aside0 (Errs w0)) :
    Calls Tryd.prog 45 #[.pointer (some ⟨g, 0, none⟩)] w fun e w' => e = .returned (.string ⟨(textM (l, bad)).1.toArray⟩) ∧ Tk w0 g (textM (l, bad)).2.1 (textM (l, bad)).2.2 w' ∧ Fr g w w' := by
  have hu := Tryd.underlying68
  unfold textM numM
  have hok := @numR_ok 58 l
  obtain ⟨n, hn⟩ : ∃ n, (numR 58 l).1 = n := ⟨_, rfl⟩
  obtain ⟨r, hr⟩ : ∃ n, (numR 58 l).2.1 = n := ⟨_, rfl⟩
  obtain ⟨b1, hb⟩ : ∃ n, (bad || !(numR 58 l).2.2) = n := ⟨_, rfl⟩
  simp only []
  rw [hn, hr, hb]
  rw [hn] at hok
  have HOK := Aside0.mk hok
  have HBB := Aside0.mk hb
  clear hok
  have hzr := mk_size r
  cases b1
  · have hn0 : 0 ≤ n := HOK.out (by have h9 := HBB.out; cases hq : (numR 58 l).2.2 <;> simp_all)
    by_cases hgt : (r.length : Int) < n
    · have g1 : decide ((r.length : Int) < n) = true := decide_eq_true hgt
      have g2 : decide (n > (r.length : Int)) = true := decide_eq_true hgt
      rw [if_pos (.inr hgt)]
      go_enter Tryd.func45, Tryd.ntmps45
      go_wp2_with (go_at_call 43; refine (num w0 g 58 l bad _ h hE).mono ?_; rintro e w1 ⟨rfl, hT, hF⟩; rw [hn]; rw [hr, hb] at hT; have T1 := Aside0.mk hT; have F1 := Aside0.mk hF; have z0 := hT.c0; have z1 := hT.c1; have y0 := hT.fz 0; have y1 := hT.fz 1; clear hT hF)
      go_ret
      exact ⟨rfl, T1.out.set1 true, F1.out.set 1 _⟩
    · have g1 : decide ((r.length : Int) < n) = false := decide_eq_false hgt
      have g2 : decide (n > (r.length : Int)) = false := decide_eq_false hgt
      rw [if_neg (by rintro (h9 | h9); exact absurd h9 (by decide); exact hgt h9)]
      obtain ⟨m, rfl⟩ := Int.eq_ofNat_of_zero_le hn0
      have k1 : (0 : Int) ≤ (m : Int) := by omega
      have k2 : (m : Int) ≤ (r.length : Int) := by omega
      have k3 : (m : Int) ≤ (((⟨r.toArray⟩ : ByteArray).size : Nat) : Int) := by rw [hzr]; exact k2
      have e1 : (⟨r.toArray⟩ : ByteArray).extract 0 m = ⟨(r.take m).toArray⟩ := by rw [mk_extract]; simp
      have e2 : (⟨r.toArray⟩ : ByteArray).extract m (⟨r.toArray⟩ : ByteArray).size = ⟨(r.drop m).toArray⟩ := by
        rw [mk_extract, mk_size, List.take_of_length_le (by rw [List.length_drop]; exact Nat.le_refl _)]
      have e3 : (⟨r.toArray⟩ : ByteArray).extract m r.length = ⟨(r.drop m).toArray⟩ := by rw [← e2, mk_size]
      go_enter Tryd.func45, Tryd.ntmps45
      go_wp2_with (go_at_call 43; refine (num w0 g 58 l bad _ h hE).mono ?_; rintro e w1 ⟨rfl, hT, hF⟩; rw [hn]; rw [hr, hb] at hT; have T1 := Aside0.mk hT; have F1 := Aside0.mk hF; have z0 := hT.c0; have z1 := hT.c1; have y0 := hT.fz 0; have y1 := hT.fz 1; clear hT hF)
      go_ret
      rw [Int.toNat_natCast]
      exact ⟨rfl, T1.out.set0 (r.drop m) (by rw [List.length_drop]; omega), F1.out.set 0 _⟩
  · rw [if_pos (.inl rfl)]
    go_enter Tryd.func45, Tryd.ntmps45
    go_wp2_with (go_at_call 43; refine (num w0 g 58 l bad _ h hE).mono ?_; rintro e w1 ⟨rfl, hT, hF⟩; rw [hn]; rw [hr, hb] at hT; have T1 := Aside0.mk hT; have F1 := Aside0.mk hF; have z0 := hT.c0; have z1 := hT.c1; have y0 := hT.fz 0; have y1 := hT.fz 1; clear hT hF)
    go_ret
    exact ⟨rfl, T1.out.set1 true, F1.out.set 1 _⟩
end Go.Proofs.YtnojgkiaolmoeaaDoor.Take
