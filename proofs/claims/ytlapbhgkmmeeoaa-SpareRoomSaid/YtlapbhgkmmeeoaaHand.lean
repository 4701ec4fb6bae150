/- Small plain facts for walks by hand: rows read from cells, rows that are written into, what a literal's memory holds; nothing of the program. -/
import Derived.Test.YtlapbhgkmmeeoaaWMore
import Derived.Test.YtlapbhgkmmeeoaaWApart
import Derived.Outline
import Derived.Laws.CopyRow
import Derived.Laws.CopyOwn
namespace Go.Proofs.Ytlapbhgkmmeeoaa.Hand
open Go.RowKit Go.Proofs.YtlapbhgkmmeeoaaW.PrintWords Go.Proofs.YtlapbhgkmmeeoaaW.PrintLast Go.Proofs.YtlapbhgkmmeeoaaW.PrintMore
set_option linter.unusedVariables false
set_option linter.unusedSimpArgs false
theorem hk_drawn {w w1 : World} (h : Drawn0 w w1) : Below w.heap.size w w1 := by
  obtain ⟨nd, rfl⟩ := h
  exact pw_below_drewN (Below.refl _ _) _
theorem hk_add (ad : Addr) (j : Nat) (h : ad.spot = none) : ad.add j = ⟨ad.block, ad.off + j, none⟩ := by
  obtain ⟨b, o, s⟩ := ad
  subst h
  unfold Addr.add
  split
  · next h => subst h; rfl
  · rfl
theorem hk_add0 (b o j : Nat) : (⟨b, o, none⟩ : Addr).add j = ⟨b, o + j, none⟩ := hk_add _ _ rfl
/-- A row that is read is read by its head too. -/
theorem hk_head {α : Type} {d : Kd α} {w : World} {A : Option Addr} {n m : Nat} {xs ys : List α} (h : Kd.C d w A m (xs ++ ys)) (hn : n = xs.length) : Kd.C d w A n xs := by
  have h0 := h.1
  rw [List.length_append] at h0
  refine ⟨hn.symm, by have := h.2.1; omega, fun hp => ?_⟩
  obtain ⟨ad, e, hc⟩ := h.2.2 (by omega)
  exact ⟨ad, e, fun j p hj => hc j p (by rw [List.getElem?_append_left (List.getElem?_eq_some_iff.1 hj).1]; exact hj)⟩
theorem hk_flat {α : Type} (enc : α → List Value) (sz : Nat) (hsz : ∀ x, (enc x).length = sz) : ∀ (xs : List α) (j : Nat) (p : α) (i : Nat) (u : Value), xs[j]? = some p → (enc p)[i]? = some u → (xs.flatMap enc)[j * sz + i]? = some u
  | [], _, _, _, _, h, _ => by simp at h
  | x :: r, 0, p, i, u, h, hu => by
    have : x = p := by simpa using h
    subst this
    rw [List.flatMap_cons, Nat.zero_mul, Nat.zero_add, List.getElem?_append_left (List.getElem?_eq_some_iff.1 hu).1]
    exact hu
  | x :: r, j + 1, p, i, u, h, hu => by
    have ih := hk_flat enc sz hsz r j p i u (by simpa using h) hu
    rw [List.flatMap_cons, List.getElem?_append_right (by rw [hsz, Nat.succ_mul]; omega), hsz, ← ih]
    congr 1
    rw [Nat.succ_mul]; omega
/-- Cells that hold a row's elements, each by its code: the row is read. -/
theorem hk_cells {α : Type} {d : Kd α} {w : World} (enc : α → List Value) (hsz : ∀ x, (enc x).length = d.sz) (hK : ∀ x, d.K w x (enc x)) (ad : Addr) (xs : List α) (hl : xs.length ≤ 9223372036854775807) (hc : ∀ k u, (xs.flatMap enc)[k]? = some u → w.cell? (ad.add k) = some u) : Kd.C d w (some ad) xs.length xs :=
  ⟨rfl, hl, fun _ => ⟨ad, rfl, fun j p hj => ⟨enc p, hsz p, hK p, fun i u hu => hc _ _ (hk_flat enc d.sz hsz xs j p i u hj hu)⟩⟩⟩
/-- A literal's block: the row is read. -/
theorem hk_lit {α : Type} {d : Kd α} {w : World} (enc : α → List Value) (hsz : ∀ x, (enc x).length = d.sz) (hK : ∀ (w : World) x, d.K w x (enc x)) (cs : Array Value) (t : TypeId) (xs : List α) (hl : xs.length ≤ 9223372036854775807) (hcs : cs.toList = xs.flatMap enc) : Kd.C d (w.alloc (.cells cs t)) (some ⟨w.heap.size, 0, none⟩) xs.length xs :=
  hk_cells enc hsz (fun x => hK _ x) _ xs hl (fun k u hu => by
    rw [hk_add0, World.cell?_alloc_at _ _ _ _ rfl, Nat.zero_add, ← hu, ← hcs]
    simp)
/-- What is own and new is kept behind whatever keeps all that lies below. -/
theorem hk_keep {w w5 w6 : World} {g q b j : Nat} {u v : Value} (hW : w6 = w5.setCell ⟨g, q, none⟩ u) (hne : b ≠ g) (hc : w5.cell? ⟨b, j, none⟩ = some v) : w6.cell? ⟨b, j, none⟩ = some v := by
  subst hW
  rw [World.cell?_setCell_far _ _ _ _ (fun e => hne e.symm)]
  exact hc
/-- A cell that holds a number and may be written. -/
structure IntAt (w : World) (a : Addr) : Prop where
  cell : ∃ x, w.cell? a = some (.int .i64 x)
  free : w.frozen? a = false
theorem IntAt.set {w : World} {a : Addr} (h : IntAt w a) (p : Addr) (y : Int) : IntAt (w.setCell p (.int .i64 y)) a := by
  obtain ⟨x, hx⟩ := h.cell
  refine ⟨?_, by rw [World.frozen?_setCell]; exact h.free⟩
  by_cases hp : p = a
  · subst hp
    exact ⟨y, World.cell?_setCell_same _ _ _ hx⟩
  · exact ⟨x, by rw [World.cell?_setCell_other _ _ _ _ hp]; exact hx⟩
theorem IntAt.same {w w1 : World} {a : Addr} (h : IntAt w a) (hb : w1.heap[a.block]? = w.heap[a.block]?) : IntAt w1 a :=
  ⟨by rw [World.cell?_of_block hb]; exact h.cell, by rw [World.frozen?_of_block hb]; exact h.free⟩
theorem IntAt.drewN {w : World} {a : Addr} (h : IntAt w a) (n : Nat) : IntAt (w.drewN n) a := ⟨h.cell, h.free⟩
theorem IntAt.alloc {w : World} {a : Addr} (h : IntAt w a) (o : Obj) : IntAt (w.alloc o) a := by
  obtain ⟨x, hx⟩ := h.cell
  exact h.same (Below.heap_alloc w o _ (World.block_lt_of_cell? w a hx))
theorem hk_bool {a b : Bool} (h : a = b) : Ending.returned (.bool a) = .returned (.bool b) := by rw [h]
/-- A row of one's own that has something: its block. -/
theorem hk_own {α : Type} {d : Kd α} {e : Nat} {W : World} {base : Nat} {ok : Nat → Prop} {v : Value} {xs : List α} (h : Kd.R d e W base ok v xs) (hn : 0 < xs.length) : ∃ g cap, v = .slice (some ⟨g, 0, none⟩) xs.length cap ∧ base ≤ g ∧ g < W.heap.size := by
  have hb := Kd.R_base h
  have hl := Kd.R_lt h
  obtain ⟨_, inner, ⟨_, ho⟩, _⟩ := h
  rcases ho with ⟨_, h0⟩ | ⟨g, cap, cur, rfl, hg, _⟩
  · omega
  · exact ⟨g, cap, rfl, hb g (by simp [Value.ownBlock]), hl g (by simp [Value.ownBlock])⟩
/-- copy(d, s), cells written out: m elements of this size. -/
theorem hk_copy {P : Program} (w : World) (dT sT ty elem : TypeId) (g o dLen dCap : Nat) (a : Addr) (sLen sCap : Nat) (cur : Array Value) (t : TypeId) (cs : List Value) (size m : Nat)
    (hu : P.underlying dT = some (.slice elem)) (hs : (P.info? elem).map (·.size) = some size) (hg : w.heap[g]? = some (.cells cur t (0, 0))) (hm : Nat.min sLen dLen = m) (hn : cs.length = m * size)
    (hsrc : ∀ j v, cs[j]? = some v → w.cell? (a.add j) = some v) (hfit : o + cs.length ≤ cur.size) (h1 : ∀ v ∈ cs, v.oneCell' = true) :
    (Builtin.copy_ #[dT, sT] ty #[.slice (some ⟨g, o, none⟩) dLen dCap, .slice (some a) sLen sCap]).run P w =
      .ok (goInt m) (w.setRow g (cur.toList.take o ++ cs ++ cur.toList.drop (o + cs.length)).toArray) := by
  have hl := run_loadCells_list (P := P) w a cs hsrc
  have hst := run_storeCells_at P g o t cs 0 cur w hg (by simpa using hfit) h1
  cases hq : P.info? elem with
  | none => simp [hq] at hs
  | some i =>
    have hi : i.size = size := by simpa [hq] using hs
    rw [hn] at hl
    simp [Builtin.copy_, run_underlying hu, Builtin.lenOf, Builtin.firstCells, sizeOf, typeInfo, hq, hi, hm, hl, hst]
end Go.Proofs.Ytlapbhgkmmeeoaa.Hand
