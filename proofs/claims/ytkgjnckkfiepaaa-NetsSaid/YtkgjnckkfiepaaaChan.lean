/- One goroutine that communicates: code walked by its own rules between two communications; blocks of memory, and what a call changes; nothing of the program. -/
import Derived.Test.YtkgjnckkfiepaaaWMore
import Derived.Test.YtkgjnckkfiepaaaWApart
import Derived.Test.YtkgjnckkfiepaaaHand
import Derived.Conc.LoneCalls
import Derived.Conc.LoneSelect
namespace Go.Proofs.Ytkgjnckkfiepaaa.Chan
open Go.RowKit Go.Conc Go.Proofs.YtkgjnckkfiepaaaW.PrintWords Go.Proofs.YtkgjnckkfiepaaaW.PrintLast Go.Proofs.YtkgjnckkfiepaaaW.PrintMore
set_option linter.unusedVariables false
set_option linter.unusedSimpArgs false
/-- What is to hold of the goroutine when the call is over. -/
def Post (P : Program) (f : FuncId) (R : Ending → World → Prop) (cs : List Frame) (g : Goroutine) (w : World) : Prop := ∃ e fr, g = G fr cs ∧ R e w ∧ fr.fn = f ∧ fr.leaving P w e
/-- What is to hold behind a piece of code: of its return, or of the goroutine that goes on. -/
def After (P : Program) (fn : Func) (f : FuncId) (R : Ending → World → Prop) (b : Frame) (k : List Item) (cs : List Frame) : Exit → Act → World → Prop
  | .normal, a, w => LoneTo P (Post P f R cs) (G (b.at a k) cs) w
  | .ret, a, w => bodyPost P fn R .ret a w
  | .panic c, a, w => bodyPost P fn R (.panic c) a w
  | _, _, _ => False
theorem After_ret {P : Program} {fn : Func} {f : FuncId} {R : Ending → World → Prop} {b : Frame} {k : List Item} {cs : List Frame} {a : Act} {w : World} (h : bodyPost P fn R .ret a w) : After P fn f R b k cs .ret a w := h
theorem After_normal {P : Program} {fn : Func} {f : FuncId} {R : Ending → World → Prop} {b : Frame} {k : List Item} {cs : List Frame} {a : Act} {w : World} (h : LoneTo P (Post P f R cs) (G (b.at a k) cs) w) : After P fn f R b k cs .normal a w := h
theorem loneTo_code {P : Program} {fn : Func} {f : FuncId} {R : Ending → World → Prop} {b : Frame} {a : Act} {k : List Item} {cs : List Frame} {w : World} {c : Code} (hb : b.fn = f) (hk : b.kind = .normal) (hf : P.funcs[f]? = some fn)
    (h : c.wp P (After P fn f R b k cs) a w) : LoneTo P (Post P f R cs) (G (b.at a (.code c :: k)) cs) w := by
  obtain ⟨e, a', w', hq, harr⟩ := h b k cs
  cases e with
  | normal =>
    obtain ⟨g', w2, hs, hq2⟩ := hq
    exact ⟨g', w2, Steps.trans harr hs, hq2⟩
  | ret =>
    obtain ⟨hd, v, hr, hR⟩ := hq
    obtain ⟨todo, hs⟩ := harr
    exact ⟨_, w', hs, .returned v, _, rfl, hR, hb, rfl, hd, hk, fn, hb ▸ hf, hr⟩
  | panic chain =>
    obtain ⟨hd, hR⟩ := hq
    obtain ⟨todo, hs⟩ := harr
    exact ⟨_, w', hs, .panicked chain, _, rfl, hR, hb, rfl, hd, fn, hb ▸ hf⟩
  | exit id => exact hq.elim
  | goto l => exact hq.elim
  | outgrown => exact hq.elim
/-- What changes: of what was there, only the blocks of F. -/
structure Chg (w w' : World) (F : Nat → Prop) : Prop where
  os : w'.os = w.os
  tape : w'.tape = w.tape
  output : w'.output = w.output
  size : w.heap.size ≤ w'.heap.size
  block : ∀ k, k < w.heap.size → ¬ F k → w'.heap[k]? = w.heap[k]?
theorem Chg.below {w w' : World} {F : Nat → Prop} (h : Chg w w' F) {N : Nat} (hN : ∀ k, F k → N ≤ k) (hw : N ≤ w.heap.size) : Below N w w' :=
  ⟨h.os, h.tape, h.output, h.size, fun k hk => h.block k (by omega) (fun hf => by have := hN k hf; omega)⟩
theorem Chg.of_below {w w' : World} {F : Nat → Prop} (h : Below w.heap.size w w') : Chg w w' F := ⟨h.os, h.tape, h.output, h.size, fun k hk _ => h.block k hk⟩
theorem Chg.refl (w : World) (F : Nat → Prop) : Chg w w F := ⟨rfl, rfl, rfl, Nat.le_refl _, fun _ _ _ => rfl⟩
theorem Chg.trans {w w1 w2 : World} {F G : Nat → Prop} (h : Chg w w1 F) (h2 : Chg w1 w2 G) (hG : ∀ k, k < w.heap.size → G k → F k) : Chg w w2 F :=
  ⟨h2.os.trans h.os, h2.tape.trans h.tape, h2.output.trans h.output, Nat.le_trans h.size h2.size, fun k hk hf => (h2.block k (Nat.lt_of_lt_of_le hk h.size) (fun hg => hf (hG k hk hg))).trans (h.block k hk hf)⟩
theorem Chg.weaken {w w1 : World} {F G : Nat → Prop} (h : Chg w w1 F) (hF : ∀ k, F k → G k) : Chg w w1 G := ⟨h.os, h.tape, h.output, h.size, fun k hk hg => h.block k hk (fun hf => hg (hF k hf))⟩
theorem Chg.of_grown {w w1 : World} {row : Option Nat} (h : w.grownBy w1 row) : Chg w w1 (fun k => some k = row) :=
  ⟨h.os, h.tape, h.output, h.size, fun k hk hf => h.block k hk hf⟩
theorem Chg.set (w : World) (a : Addr) (v : Value) : Chg w (w.setCell a v) (fun k => k = a.block) :=
  ⟨rfl, rfl, rfl, by simp, fun k _ hf => Below.heap_setCell w a v k hf⟩
theorem Chg.chan (w : World) (c cap : Nat) (buf : Array Value) (cl : Bool) (s r : Nat) (tm : Bool) : Chg w (w.setChan c cap buf cl s r tm) (fun k => k = c) :=
  ⟨rfl, rfl, rfl, by simp [World.setChan], fun k _ hf => by simp only [World.setChan]; rw [Array.getElem?_setIfInBounds_ne (fun e => hf e.symm)]⟩
/-- A block's cell, and whether it may be written. -/
theorem cb_cell {w : World} {b j : Nat} {cs : Array Value} {t : TypeId} {m : Nat × Nat} (h : w.heap[b]? = some (.cells cs t m)) : w.cell? ⟨b, j, none⟩ = cs[j]? := by
  simp [World.cell?, h]
theorem cb_free {w : World} {b j : Nat} {cs : Array Value} {t : TypeId} (h : w.heap[b]? = some (.cells cs t (0, 0))) : w.frozen? ⟨b, j, none⟩ = false := by
  simp [World.frozen?, h]
theorem cb_lt {w : World} {b : Nat} {o : Obj} (h : w.heap[b]? = some o) : b < w.heap.size := (Array.getElem?_eq_some_iff.1 h).1
theorem cb_put {w : World} {b j : Nat} {cs : Array Value} {t : TypeId} {m : Nat × Nat} (h : w.heap[b]? = some (.cells cs t m)) (v : Value) : (w.setCell ⟨b, j, none⟩ v).heap[b]? = some (.cells (cs.setIfInBounds j v) t m) := by
  show (w.heap.modify b _)[b]? = _
  rw [Array.getElem?_modify, if_pos rfl, h]
  rfl
theorem cb_same {w w1 : World} {b : Nat} {o : Obj} (h : w.heap[b]? = some o) (e : w1.heap[b]? = w.heap[b]?) : w1.heap[b]? = some o := e.trans h
/-- What a row of one's own holds, its number written. -/
theorem own_head {α : Type} {d : Kd α} {e : Nat} {W : World} {base : Nat} {ok : Nat → Prop} {v : Value} {xs : List α} (h : Kd.R d e W base ok v xs) : v = .slice none 0 0 ∧ xs = [] ∨ ∃ g cap, v = .slice (some ⟨g, 0, none⟩) xs.length cap ∧ base ≤ g ∧ g < W.heap.size ∧ xs.length ≤ cap := by
  have hb := Kd.R_base h
  have hl := Kd.R_lt h
  obtain ⟨_, inner, ⟨_, ho⟩, _⟩ := h
  rcases ho with ⟨hv, h0⟩ | ⟨g, cap, cur, rfl, hg, _, hn, _⟩
  · exact .inl ⟨hv, List.eq_nil_of_length_eq_zero h0⟩
  · exact .inr ⟨g, cap, rfl, hb g (by simp [Value.ownBlock]), hl g (by simp [Value.ownBlock]), hn⟩
end Go.Proofs.Ytkgjnckkfiepaaa.Chan
