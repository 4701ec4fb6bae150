/- strings.Builder inside the script's pen: copyCheck, WriteByte, WriteString, String (the shelf's contracts speak of a Builder in a block of its own; here it lies in a pen's). -/
import Derived.Test.YtnojgkiaolmoeaaDoorShelf
import Derived.Lib.OthersKept
import Derived.Lib.Builder
import Derived.Lib.AppendStr
import Derived.Lib.UnsafeStr
import Derived.Lib.ItoaLen
import Derived.Lib.OwnKind
import Derived.Deep.RegionHeld3
import Derived.Test.YtnojgkiaolmoeaaDoorWMore
import Derived.Test.YtnojgkiaolmoeaaDoorWLast
import Derived.Lib.AppendIntMem
import Derived.Lib.QuietBelow
import Derived.Test.YtnojgkiaolmoeaaDoorHand
import Derived.WalkKit
import Derived.WalkSpells
import Derived.Outline
import Derived.Shelf.RegionOpenPlain
namespace Go.Proofs.YtnojgkiaolmoeaaDoor.Pen
open Go.RowKit Go.Proofs.YtnojgkiaolmoeaaDoorW.PrintWords Go.Proofs.YtnojgkiaolmoeaaDoorW.PrintLast Go.Proofs.YtnojgkiaolmoeaaDoorW.PrintMore
set_option linter.unusedVariables false
set_option linter.unusedSimpArgs false
/-- The pen's struct, a Builder, a byte. -/
abbrev T : TypeId := 55
theorem sizeB : (Tryd.prog.info? 53).map (·.size) = some 2 := by kernel_rfl
theorem liesB : liesAt Tryd.prog Tryd.prog.depth T (2 / Tryd.prog.cellsOf T) 0 53 1 = true := by kernel_rfl
theorem infoByte : (Tryd.prog.info? 5).map (fun i => (i.zero, i.size, i.bytes)) = some (some (.int .u8 0), 1, 1) := by kernel_rfl
theorem cellsByte : Tryd.prog.cellsOf 5 = 1 := by kernel_rfl
set_option maxHeartbeats 1000000 in
set_option maxRecDepth 100000 in
theorem check_used (b : Nat) (w : World) (h0 : w.cell? ⟨b, 0, none⟩ = some (.pointer (some ⟨b, 0, none⟩))) :
    Calls Tryd.prog 53 #[.pointer (some ⟨b, 0, none⟩)] w fun e w' => e = .returned (.tuple #[]) ∧ w' = w := by
  obtain ⟨j, hj, _⟩ := Option.map_eq_some_iff.1 sizeB
  have hu := Tryd.underlying53
  have hp := Tryd.underlying51
  go_enter Tryd.func53, Tryd.ntmps53
  go_wp2
  rw [Lib.run_neq_ptr_same w _ Tryd.underlying51 hj]
  go_wp2
  go_end0
  exact ⟨rfl, rfl⟩
set_option maxHeartbeats 1000000 in
set_option maxRecDepth 100000 in
theorem check_fresh (b : Nat) (w : World) (h0 : w.cell? ⟨b, 0, none⟩ = some (.pointer none)) (hsh : w.shape? b = some (T, 2)) (hfz : w.frozen? ⟨b, 0, none⟩ = false) :
    Calls Tryd.prog 53 #[.pointer (some ⟨b, 0, none⟩)] w fun e w' => e = .returned (.tuple #[]) ∧ w' = w.setCell ⟨b, 0, none⟩ (.pointer (some ⟨b, 0, none⟩)) := by
  obtain ⟨j, hj, hjs⟩ := Option.map_eq_some_iff.1 sizeB
  have hu := Tryd.underlying53
  have hp := Tryd.underlying51
  go_enter Tryd.func53, Tryd.ntmps53
  go_wp2
  rw [Lib.run_to_unsafe w ⟨b, 0, none⟩ Tryd.underlying51 Tryd.underlying105 hj (by rw [hjs]; decide) hsh (Nat.zero_lt_succ 1)]
  simp only [Result.andThen]
  rw [Oper.upon_value]
  go_wp2
  rw [run_callFunc_extern Tryd.func58 (by kernel_rfl) (by kernel_rfl) (by kernel_rfl) (e := Extern.AbiNoEscape.same) (by kernel_rfl)]
  rw [Lib.run_noEscape]
  simp only [Result.andThen]
  rw [Oper.upon_value]
  go_wp2
  rw [Lib.run_from_unsafe w ⟨b, 0, none⟩ Tryd.underlying105 Tryd.underlying51 hj hsh liesB]
  simp only [Result.andThen]
  rw [Oper.upon_value]
  go_wp2
  go_end0
  exact ⟨rfl, rfl⟩
/-- A pen in block b (one of the call's own, from B on) that holds the bytes l. -/
def PenAt (B b : Nat) (l : List UInt8) (w : World) : Prop := Lib.IsBuilder T 5 B b (Lib.byteCells l) w
/-- What a write leaves as it was. -/
structure Step (B b : Nat) (w w' : World) : Prop where
  low : Below B w w'
  oth : Lib.OthersKept 5 (some b) w w'
theorem Step.refl (B b : Nat) (w : World) : Step B b w w := ⟨Below.refl B w, Lib.OthersKept.refl _ _ w⟩
theorem Step.trans {B b : Nat} {u v w : World} (h : Step B b u v) (k : Step B b v w) : Step B b u w := ⟨h.low.trans k.low, h.oth.trans k.oth⟩
theorem PenAt.lo {B b : Nat} {l : List UInt8} {w : World} (h : PenAt B b l w) : B ≤ b := by rcases h with h | h <;> exact h.1
theorem PenAt.drew {B b : Nat} {l : List UInt8} {w : World} (h : PenAt B b l w) : PenAt B b l w.drew := h
theorem Step.drew {B b : Nat} {u w : World} (h : Step B b u w) : Step B b u w.drew := ⟨h.low.drew, h.oth.drew⟩
theorem at_alloc {B b : Nat} {p : Value} {bs : List Value} {w : World} (h : Lib.BuilderAt T 5 B b p bs w) (o : Obj) : Lib.BuilderAt T 5 B b p bs (w.alloc o) := by
  obtain ⟨hB, v, hb, hown, hne⟩ := h
  exact ⟨hB, v, (Lib.alloc_old w o b (Array.getElem?_eq_some_iff.1 hb).1).trans hb, hown.alloc o, hne⟩
theorem PenAt.alloc {B b : Nat} {l : List UInt8} {w : World} (h : PenAt B b l w) (o : Obj) : PenAt B b l (w.alloc o) := by
  rcases h with h | h
  · exact .inl (at_alloc h o)
  · exact .inr (at_alloc h o)
theorem Step.alloc {B b : Nat} {u w : World} (h : Step B b u w) (hB : B ≤ w.heap.size) (o : Obj) : Step B b u (w.alloc o) := ⟨h.low.alloc hB o, h.oth.alloc o⟩
theorem fresh (w : World) : PenAt w.heap.size w.heap.size [] (w.alloc (.cells #[.pointer none, .slice none 0 0] T)) := Lib.fresh_isBuilder T 5 w
theorem check (B b : Nat) (bs : List Value) (w : World) (h : Lib.IsBuilder T 5 B b bs w) :
    Calls Tryd.prog 53 #[.pointer (some ⟨b, 0, none⟩)] w fun e w' => e = .returned (.tuple #[]) ∧ Lib.BuilderAt T 5 B b (.pointer (some ⟨b, 0, none⟩)) bs w' ∧ Step B b w w' := by
  rcases h with h | h
  · refine (check_fresh b w h.cell0 h.shape h.frozen0).mono ?_
    rintro e w' ⟨rfl, rfl⟩
    exact ⟨rfl, h.used _, (Below.refl B w).setCell (p := ⟨b, 0, none⟩) h.1 _, (Lib.OthersKept.refl _ _ w).setCell ⟨b, 0, none⟩ rfl _⟩
  · refine (check_used b w h.cell0).mono ?_
    rintro e w' ⟨rfl, rfl⟩
    exact ⟨rfl, h, Step.refl B b _⟩
set_option maxHeartbeats 2000000 in
set_option maxRecDepth 100000 in
theorem writeByte (B b : Nat) (l : List UInt8) (c : UInt8) (w : World) (h : PenAt B b l w) (hlen : l.length + 1 ≤ 140737488355328) (hBw : B ≤ w.heap.size) :
    Calls Tryd.prog 52 #[.pointer (some ⟨b, 0, none⟩), .int .u8 c.toNat] w fun e w' => e = .returned .nilIface ∧ PenAt B b (l ++ [c]) w' ∧ Step B b w w' := by
  obtain ⟨i0, hi, hz0, hz1, hz2⟩ := info_parts infoByte
  have hu := Tryd.underlying53
  have hp := Tryd.underlying51
  have hs := Tryd.underlying44
  go_enter Tryd.func52, Tryd.ntmps52
  go_wp2_with (go_at_call 53; refine (check B b (Lib.byteCells l) _ h).mono ?_)
  rintro e w1 ⟨rfl, h1, hb1, hk1⟩
  obtain ⟨hB, v, hbk, hown, hne⟩ := h1
  have c0 : w1.cell? ⟨b, 0, none⟩ = some (.pointer (some ⟨b, 0, none⟩)) := by rw [Lib.cell_of_heap hbk]; rfl
  have c1 : w1.cell? ⟨b, 1, none⟩ = some v := by rw [Lib.cell_of_heap hbk]; rfl
  have hll := Lib.byteCells_length l
  go_wp2_with (at_builtin; refine wpList_append_own _ rfl _ _ 44 rfl B 5 i0 (.int .u8 0) 1 1 Tryd.underlying44 hi hz0 hz1 hz2 rfl (by decide) _ _ _ rfl (hown.alloc _) ⟨w1.heap.size, 0, none⟩ 1 1 [.int .u8 c.toNat] rfl rfl ?c1 ?c2 ?c3 ?c4 ?c5 ?_)
  case c1 =>
    intro j u hj
    match j, hj with
    | 0, hj => simp at hj; subst hj; simp [Addr.add]
  case c2 => intro u hu; simp at hu; subst hu; rfl
  case c3 => unfold maxLen; omega
  case c4 => omega
  case c5 => have := hb1.size; simp; omega
  intro v' w2 hown' hgrow _
  have hlt : b < w1.heap.size := (Array.getElem?_eq_some_iff.1 hbk).1
  have hb2 : w2.heap[b]? = some (.cells #[.pointer (some ⟨b, 0, none⟩), v] T (0, 0)) := by
    rw [hgrow.block b (by simp; omega) (fun e => hne e.symm), Lib.alloc_old w1 _ b hlt]
    exact hbk
  have d0 : w2.cell? ⟨b, 0, none⟩ = some (.pointer (some ⟨b, 0, none⟩)) := by rw [Lib.cell_of_heap hb2]; rfl
  have d1 : w2.cell? ⟨b, 1, none⟩ = some v := by rw [Lib.cell_of_heap hb2]; rfl
  have f1 : w2.frozen? ⟨b, 1, none⟩ = false := Lib.frozen_of_heap hb2 1
  obtain ⟨g, cap, rfl⟩ : ∃ g cap, v' = .slice (some ⟨g, 0, none⟩) (l.length + 1) cap := by
    rcases hown'.2 with ⟨_, h0⟩ | ⟨g, cap, cur, hv, _⟩
    · omega
    · exact ⟨g, cap, hv⟩
  go_wp2
  go_ret
  refine ⟨rfl, .inr ?_, ⟨?_, ?_⟩⟩
  · have h9 := Lib.BuilderAt.put (T := T) (e := 5) hB hb2 (bs' := Lib.byteCells l ++ [.int .u8 c.toNat]) (by simpa [hll] using hown') (by decide)
    rw [Lib.byteCells_append]
    exact h9
  · exact ((hb1.alloc (by have := hb1.size; omega) _).grown hgrow (by have := hb1.size; simp; omega) (fun k hk => (hown.lt k hk).1)).setCell (p := ⟨b, 1, none⟩) hB _
  · exact ((hk1.alloc _).grown hgrow (fun g hg => by
      obtain ⟨c_, fz, hc⟩ := Lib.ownsRow_kind (hown.alloc (.cells #[.int .u8 c.toNat] 5)) g hg
      exact ⟨c_, fz, hc⟩)).setCell ⟨b, 1, none⟩ rfl _
set_option maxHeartbeats 2000000 in
set_option maxRecDepth 100000 in
theorem writeString (B b : Nat) (l : List UInt8) (s : ByteArray) (w : World) (h : PenAt B b l w) (hlen : l.length + s.size ≤ 140737488355328) (hBw : B ≤ w.heap.size) :
    Calls Tryd.prog 40 #[.pointer (some ⟨b, 0, none⟩), .string s] w fun e w' => e = .returned (.tuple #[.int .i64 s.size, .nilIface]) ∧ PenAt B b (l ++ s.data.toList) w' ∧ Step B b w w' := by
  obtain ⟨i0, hi, hz0, hz1, hz2⟩ := info_parts infoByte
  have hu := Tryd.underlying53
  have hp := Tryd.underlying51
  have hs := Tryd.underlying44
  go_enter Tryd.func40, Tryd.ntmps40
  go_wp2_with (go_at_call 53; refine (check B b (Lib.byteCells l) _ h).mono ?_)
  rintro e w1 ⟨rfl, h1, hb1, hk1⟩
  obtain ⟨hB, v, hbk, hown, hne⟩ := h1
  have c0 : w1.cell? ⟨b, 0, none⟩ = some (.pointer (some ⟨b, 0, none⟩)) := by rw [Lib.cell_of_heap hbk]; rfl
  have c1 : w1.cell? ⟨b, 1, none⟩ = some v := by rw [Lib.cell_of_heap hbk]; rfl
  have hll := Lib.byteCells_length l
  go_wp2_with (at_builtin; refine Lib.wpList_append_own_string _ rfl _ _ 44 9 rfl B 5 i0 Tryd.underlying44 Tryd.underlying9 hi hz0 hz1 hz2 _ _ _ rfl hown s rfl ?c3 ?c4 ?c5 ?_)
  case c3 => unfold maxLen; omega
  case c4 => omega
  case c5 => have := hb1.size; omega
  intro v' w2 hown' hgrow _
  have hlt : b < w1.heap.size := (Array.getElem?_eq_some_iff.1 hbk).1
  have hb2 : w2.heap[b]? = some (.cells #[.pointer (some ⟨b, 0, none⟩), v] T (0, 0)) := by
    rw [hgrow.block b hlt (fun e => hne e.symm)]
    exact hbk
  have d0 : w2.cell? ⟨b, 0, none⟩ = some (.pointer (some ⟨b, 0, none⟩)) := by rw [Lib.cell_of_heap hb2]; rfl
  have d1 : w2.cell? ⟨b, 1, none⟩ = some v := by rw [Lib.cell_of_heap hb2]; rfl
  have f1 : w2.frozen? ⟨b, 1, none⟩ = false := Lib.frozen_of_heap hb2 1
  obtain ⟨ao, n', cap, rfl⟩ : ∃ ao n' cap, v' = .slice ao n' cap := by
    rcases hown'.2 with ⟨hv, _⟩ | ⟨g, cap, cur, hv, _⟩
    · exact ⟨_, _, _, hv⟩
    · exact ⟨_, _, _, hv⟩
  go_wp2
  go_ret2
  refine ⟨rfl, .inr ?_, ⟨?_, (hk1.grown hgrow (fun g hg => Lib.ownsRow_kind hown g hg)).setCell ⟨b, 1, none⟩ rfl _⟩⟩
  · have h9 := Lib.BuilderAt.put (T := T) (e := 5) hB hb2 (bs' := Lib.byteCells l ++ Lib.strCells s) (by simpa [Lib.strCells_length, hll] using hown') (by decide)
    rw [Lib.byteCells_append]
    exact h9
  · exact (hb1.grown hgrow (by have := hb1.size; omega) (fun k hk => (hown.lt k hk).1)).setCell (p := ⟨b, 1, none⟩) hB _
/-- The pen's own methods: the digits of a number and a blank. -/
def numT (n : Int) : List UInt8 := Lib.itoa n ++ [32]
def numsT (xs : List Int) : List UInt8 := xs.flatMap numT
def I64 (n : Int) : Prop := -9223372036854775808 ≤ n ∧ n ≤ 9223372036854775807
abbrev Tab (w : World) : Prop := Lib.TabIs Tryd.prog w "internal/strconv.uint64pow10" .u64 Lib.pow10Tab
theorem numT_len {n : Int} (h : I64 n) : (numT n).length ≤ 22 := by
  have h1 : (Lib.itoa n).length ≤ 21 := Lib.itoa_length_le n h.1 h.2
  unfold numT
  rw [List.length_append, List.length_singleton]
  omega
set_option maxHeartbeats 2000000 in
set_option maxRecDepth 100000 in
theorem letter (B b : Nat) (l : List UInt8) (is : Bool) (y n : UInt8) (w : World) (h : PenAt B b l w) (hlen : l.length + 1 ≤ 140737488355328) (hBw : B ≤ w.heap.size) :
    Calls Tryd.prog 39 #[.pointer (some ⟨b, 0, none⟩), .bool is, .int .u8 y.toNat, .int .u8 n.toNat] w fun e w' => e = .returned (.tuple #[]) ∧ PenAt B b (l ++ [if is = true then y else n]) w' ∧ Step B b w w' := by
  have hu := Tryd.underlying53
  have hp := Tryd.underlying55
  cases is
  · go_enter Tryd.func39, Tryd.ntmps39
    go_wp2_with (go_at_call 52; refine (writeByte B b l n _ h hlen hBw).mono ?_; rintro e w1 ⟨rfl, h1, k1⟩)
    go_end0
    exact ⟨rfl, h1, k1⟩
  · go_enter Tryd.func39, Tryd.ntmps39
    go_wp2_with (go_at_call 52; refine (writeByte B b l y _ h hlen hBw).mono ?_; rintro e w1 ⟨rfl, h1, k1⟩)
    go_end0
    exact ⟨rfl, h1, k1⟩
theorem below_of {B : Nat} {w w1 : World} (hB : B ≤ w.heap.size) (h : Below w.heap.size w w1) : Below B w w1 := ⟨h.os, h.tape, h.output, h.size, fun i hi => h.block i (by omega)⟩
theorem step_of {B b : Nat} {w w1 : World} (hB : B ≤ w.heap.size) (h : Below w.heap.size w w1) : Step B b w w1 := ⟨below_of hB h, fun k o hk _ _ => (h.block k (Array.getElem?_eq_some_iff.1 hk).1).trans hk⟩
theorem at_below {B b : Nat} {p : Value} {bs : List Value} {w w1 : World} (h : Lib.BuilderAt T 5 B b p bs w) (hb : Below w.heap.size w w1) : Lib.BuilderAt T 5 B b p bs w1 := by
  obtain ⟨hB, v, hk, hown, hne⟩ := h
  have hg : w.grownBy w1 none := ⟨hb.os, hb.tape, hb.output, hb.size, fun i hi _ => hb.block i hi⟩
  refine ⟨hB, v, (hb.block b (Array.getElem?_eq_some_iff.1 hk).1).trans hk, hown.kept hg ?_, hne⟩
  cases hv : v.ownBlock with
  | none => exact .inl rfl
  | some k => exact .inr (by simp)
theorem PenAt.below {B b : Nat} {l : List UInt8} {w w1 : World} (h : PenAt B b l w) (hb : Below w.heap.size w w1) : PenAt B b l w1 := by
  rcases h with h | h
  · exact .inl (at_below h hb)
  · exact .inr (at_below h hb)
/-- The table of the powers of ten, wherever what lies below B is as it was. -/
def TabB (B : Nat) (w : World) : Prop := ∀ w1, Below B w w1 → Tab w1
theorem TabB.next {B : Nat} {w w1 : World} (h : TabB B w) (hb : Below B w w1) : TabB B w1 := fun w2 h2 => h w2 (hb.trans h2)
theorem TabB.now {B : Nat} {w : World} (h : TabB B w) : Tab w := h w (Below.refl B w)
theorem itoa_ (n : Int) (h : I64 n) (w : World) (ht : Tab w) : Calls Tryd.prog 41 #[.int .i64 n] w fun e w' => e = .returned (.string ⟨(Lib.itoa n).toArray⟩) ∧ Below w.heap.size w w' := by
  refine (Tryd.strconv_Itoa n h.1 h.2 w ht).mono ?_
  rintro e w' ⟨rfl, k_, os_, rfl⟩
  exact ⟨rfl, Lib.below_grow w.heap.size w (Nat.le_refl _) k_ os_⟩
theorem size_cat (l : List UInt8) : ((⟨l.toArray⟩ : ByteArray) ++ ⟨#[32]⟩).size = l.length + 1 := by simp [ByteArray.size]
theorem cat_list (a b : ByteArray) : (a ++ b).data.toList = a.data.toList ++ b.data.toList := by simp
theorem numsT_take (xs : List Int) (i : Nat) (x : Int) (h : xs[i]? = some x) : numsT (xs.take (i + 1)) = numsT (xs.take i) ++ numT x := by
  unfold numsT
  rw [List.take_add_one, h, List.flatMap_append]
  simp
theorem numsT_len (xs : List Int) (h : ∀ x ∈ xs, I64 x) : (numsT xs).length ≤ 22 * xs.length := by
  induction xs with
  | nil => exact Nat.zero_le _
  | cons x xs ih =>
    have h1 := ih (fun y hy => h y (List.mem_cons_of_mem _ hy))
    have h2 := numT_len (h x List.mem_cons_self)
    unfold numsT at h1 ⊢
    simp only [List.flatMap_cons, List.length_append, List.length_cons]
    omega
set_option maxHeartbeats 4000000 in
set_option maxRecDepth 100000 in
theorem nums (B b g : Nat) (l : List UInt8) (xs : List Int) (n : Nat) (hn : xs.length = n) (w : World) (h : PenAt B b l w) (hg : w.heap[g]? = some (.cells (xs.map (Value.int .i64)).toArray 3 (0, 0))) (hgb : g ≠ b) (hin : ∀ x ∈ xs, I64 x) (hlen : l.length + 22 * n ≤ 140737488355328) (hBw : B ≤ w.heap.size) (ht : TabB B w) :
    Calls Tryd.prog 38 #[.pointer (some ⟨b, 0, none⟩), .slice (some ⟨g, 0, none⟩) n n] w fun e w' => e = .returned (.tuple #[]) ∧ PenAt B b (l ++ numsT xs) w' ∧ Step B b w w' := by
  have hp := Tryd.underlying55
  have HT := Aside0.mk ht
  have HG := Aside0.mk hg
  have HIN := Aside0.mk hin
  have HP0 := Aside0.mk h
  clear hg ht hin h
  go_enter Tryd.func38, Tryd.ntmps38
  go_wp2_with fail
  go_loopg [8] (n + 1) (fun kq v8 w' => ∃ i : Nat, v8 = .int .i64 (i : Int) ∧ Aside0 (i ≤ n ∧ (kq : Int) + i = n + 1) ∧ Aside0 (PenAt B b (l ++ numsT (xs.take i)) w') ∧ Aside0 (Step B b w w'))
  case atStart => exact ⟨0, rfl, ⟨by omega⟩, ⟨by simpa [numsT] using HP0.out⟩, ⟨Step.refl B b w⟩⟩
  case round =>
    obtain ⟨i, rfl, HX, HP, HS⟩ := hrel
    cases gk with
    | zero => have := HX.out; omega
    | succ k1 =>
      by_cases c3 : (i : Int) < (n : Int)
      · have c3b := decide_eq_true c3
        have p1 : (0 : Int) ≤ (i : Int) := by omega
        have p1b := decide_eq_true p1
        have hi : i < xs.length := by omega
        obtain ⟨x, hx⟩ : ∃ x, xs[i]? = some x := ⟨xs[i], by simp [hi]⟩
        have HXM := Aside0.mk (HIN.out x (List.mem_of_getElem? hx))
        have HXI := Aside0.mk hx
        have hgr : wr.heap[g]? = some (.cells (xs.map (Value.int .i64)).toArray 3 (0, 0)) := HS.out.oth g _ HG.out (by simpa using hgb) (by intro c fz he; injection he with _ he; cases he)
        have hx0 : wr.cell? ⟨g, i, none⟩ = some (.int .i64 x) := by
          rw [Lib.cell_of_heap hgr]
          simp [hx]
        have HBR := Aside0.mk (show B ≤ wr.heap.size from Nat.le_trans hBw HS.out.low.size)
        have HLL := Aside0.mk (show (l ++ numsT (xs.take i)).length + 22 ≤ 140737488355328 by
          have h1 := numsT_len (xs.take i) (fun y hy => HIN.out y (List.mem_of_mem_take hy))
          rw [List.length_take] at h1
          rw [List.length_append]
          omega)
        have c3' := eq_true c3
        have p1' := eq_true p1
        have hq0 : (Lib.itoa x).length ≤ 21 := Lib.itoa_length_le x HXM.out.1 HXM.out.2
        have hq1 : (9223372036854775807 < (Lib.itoa x).length + 1) = False := eq_false (by omega)
        clear hgr hx hi
        go_upto_region 3 with fail
        clear hx0
        go_region_held3 (fun w' => True) (exact trivial) (first
          | (go_at_call 41; refine (itoa_ x HXM.out _ (HT.out _ (by first | exact HS.out.low | exact HS.out.low.drew))).mono ?_; rintro e w5 ⟨rfl, hb⟩; have HP5 := Aside0.mk (PenAt.below (by first | exact HP.out | exact HP.out.drew) hb); have HS5 := Aside0.mk (Step.trans (by first | exact HS.out | exact HS.out.drew) (step_of (by first | exact HBR.out | exact Nat.le_trans HBR.out (Nat.le_refl _)) hb)); clear hb)
          | (go_at_call 40; refine (writeString B b _ _ _ HP5.out (by rw [size_cat]; have h1 := HLL.out; have h2 : (Lib.itoa x).length ≤ 21 := Lib.itoa_length_le x HXM.out.1 HXM.out.2; omega) (Nat.le_trans hBw HS5.out.low.size)).mono ?_; rintro e w6 ⟨rfl, h6, k6⟩; have HP6 := Aside0.mk h6; have HS6 := Aside0.mk (HS5.out.trans k6); clear h6 k6))
        go_wp2_with fail
        go_roundg k1
        case measure => have := HX.out; omega
        case rel =>
          have h1 := HX.out
          refine ⟨i + 1, by rw [show ((i + 1 : Nat) : Int) = (i : Int) + 1 by omega], ⟨by omega⟩, ⟨?_⟩, HS6⟩
          rw [numsT_take xs i x HXI.out]
          simpa [numT] using HP6.out
      · have c3b := decide_eq_false c3
        go_wp2_with fail
        go_end0
        have h1 := HX.out
        have h2 := HP.out
        rw [List.take_of_length_le (by omega)] at h2
        exact ⟨rfl, h2, HS.out⟩
end Go.Proofs.YtnojgkiaolmoeaaDoor.Pen
