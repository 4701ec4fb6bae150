/- How arguments that are structs, or slices of structs, read as the values that the printed functions take. -/
import Derived.WalkKit
import Derived.ProofKit
import Derived.OpenShut
import Derived.ShutString
import Derived.ChangeOld
import Derived.Below
import Derived.SizedLaws
import Derived.Deep.Slices
import Derived.Test.YtnojgkiaolmoeaaDoorWWords
set_option linter.unusedVariables false
namespace Go.Proofs.YtnojgkiaolmoeaaDoor.Read
open Go.RowKit Go.Proofs.YtnojgkiaolmoeaaDoorW.PrintWords
open Go.ChangeShapes Go.WideShapes
open Go.ChangeMaps (open_string shut_string)

def Opens {α : Type} (P : Program) (d : Kd α) (G : α → Prop) (T : TypeId) : Prop :=
  ∀ (H : Type) (enc : TypeId × Value → H) (w : World) (base : Nat) (spare : Nat → Bool) (held : Bool) (fuel : Nat) (cs : List Value) (x : DataW H × List MemPlace),
    DataW.trod enc P w base spare held fuel T cs = some x → (∀ n ∈ x.1.weights P T, n ≤ reachBytes) → ∃ a, d.K w a cs ∧ G a
def OpensF {α : Type} (P : Program) (d : Kd α) (G : α → Prop) (fs : List Field) (o : Nat) : Prop :=
  ∀ (H : Type) (enc : TypeId × Value → H) (w : World) (base : Nat) (spare : Nat → Bool) (held : Bool) (fuel : Nat) (cs : List Value) (xs : List (DataW H × List MemPlace)),
    cs.length = o + d.sz → xs.length = fs.length → (∀ (i : Nat) (f : Field), fs[i]? = some f → DataW.trod enc P w base spare held fuel f.type ((cs.drop f.offset).take (P.cellsOf f.type)) = xs[i]?) →
    (∀ n ∈ DataW.weightsEach P (fs.map (·.type)) (xs.map (·.1)), n ≤ reachBytes) → ∃ a, d.K w a (cs.drop o) ∧ G a
variable {P : Program}

theorem opens_int {T : TypeId} {k : IntKind} (hu : P.underlying T = some (.int k)) : Opens P (Kd.int k) (fun n => (Lit.int k n).wf = true) T := by
  intro H enc w base spare held fuel cs x h _
  cases fuel with
  | zero => simp [DataW.trod] at h
  | succ n =>
    unfold DataW.trod at h
    rw [hu] at h
    split at h <;> simp_all
    exact ⟨_, rfl, h.1.2⟩
theorem opens_bool {T : TypeId} (hu : P.underlying T = some .bool) : Opens P Kd.bool (fun _ => True) T := by
  intro H enc w base spare held fuel cs x h _
  obtain ⟨b, rfl, _⟩ := DataW.trod_bool hu h
  exact ⟨b, rfl, trivial⟩
theorem opens_string {T : TypeId} (hu : P.underlying T = some .string) : Opens P Kd.string (fun s => s.size ≤ 140737488351232) T := by
  intro H enc w base spare held fuel cs x h hw
  cases fuel with
  | zero => simp [DataW.trod] at h
  | succ n =>
    unfold DataW.trod at h
    rw [hu] at h
    split at h <;> simp_all
    rename_i s
    obtain ⟨_, h⟩ := h
    refine ⟨s, rfl, ?_⟩
    have := hw s.size
    rw [← h] at this
    have := this (by simp [DataW.weights])
    simpa [reachBytes] using this
theorem opens_iso {α β : Type} {d : Kd α} {G : α → Prop} {T : TypeId} (h : Opens P d G T) (f : β → α) (g : α → β) (hfg : ∀ a, f (g a) = a) : Opens P (Kd.iso d f) (fun b => G (f b)) T := by
  intro H enc w base spare held fuel cs x hx hw
  obtain ⟨a, hK, hG⟩ := h H enc w base spare held fuel cs x hx hw
  refine ⟨g a, ?_, by show G (f (g a)); rw [hfg]; exact hG⟩
  show d.K w (f (g a)) cs
  rw [hfg]
  exact hK
theorem opens_last {α : Type} {d : Kd α} {G : α → Prop} {f : Field} {o : Nat} (h : Opens P d G f.type) (ho : f.offset = o) (hs : P.cellsOf f.type = d.sz) : OpensF P d G [f] o := by
  intro H enc w base spare held fuel cs xs hl hx hf hw
  match xs, hx with
  | [y], _ =>
    have h0 := hf 0 f rfl
    rw [ho, hs, List.take_of_length_le (by rw [List.length_drop]; omega)] at h0
    exact h H enc w base spare held fuel _ y h0 (fun n hn => hw n (by simp [DataW.weightsEach, hn]))
theorem opens_cons {α β : Type} {d1 : Kd α} {G1 : α → Prop} {d2 : Kd β} {G2 : β → Prop} {f : Field} {fs : List Field} {o o' : Nat} (h : Opens P d1 G1 f.type) (ho : f.offset = o) (hs : P.cellsOf f.type = d1.sz) (ho' : o + d1.sz = o')
    (h2 : OpensF P d2 G2 fs o') : OpensF P (Kd.pair d1 d2) (fun x => G1 x.1 ∧ G2 x.2) (f :: fs) o := by
  intro H enc w base spare held fuel cs xs hl hx hf hw
  have hl' : cs.length = o + (d1.sz + d2.sz) := hl
  match xs, hx with
  | y :: ys, hx =>
    have h0 := hf 0 f rfl
    rw [ho, hs] at h0
    obtain ⟨a, hK, hG⟩ := h H enc w base spare held fuel _ y h0 (fun n hn => hw n (by simp [DataW.weightsEach, hn]))
    obtain ⟨b, hK2, hG2⟩ := h2 H enc w base spare held fuel cs ys (by omega) (by simpa using hx) (fun i g hg => by have := hf (i + 1) g (by simpa using hg); simpa using this) (fun n hn => hw n (by simp [DataW.weightsEach]; exact .inr (by simpa using hn)))
    refine ⟨(a, b), ⟨_, _, ?_, hK, hK2⟩, hG, hG2⟩
    rw [← ho', ← List.drop_drop, List.take_append_drop]
theorem opens_struct {α : Type} {d : Kd α} {G : α → Prop} {T : TypeId} {fs : Array Field} (hu : P.underlying T = some (.struct fs)) (hc : P.cellsOf T = d.sz) (h : OpensF P d G fs.toList 0) : Opens P d G T := by
  intro H enc w base spare held fuel cs x hx hw
  obtain ⟨xs, n, _, rfl, hl, hlen, hf⟩ := DataW.trod_struct hu hx
  have := h H enc w base spare held n cs xs (by omega) (by simpa using hlen) (fun i f hi => hf i f (by simpa using hi)) (fun m hm => hw m (by simp only [DataW.weights, hu]; exact hm))
  simpa using this
theorem mem_weightsAll {H : Type} {e : TypeId} : ∀ {l : List (DataW H)} {y : DataW H} {n : Nat}, y ∈ l → n ∈ y.weights P e → n ∈ DataW.weightsAll P e l
  | _ :: r, y, n, hy, hn => by
    simp only [DataW.weightsAll, List.mem_append]
    cases List.mem_cons.1 hy with
    | inl h => subst h; exact .inl hn
    | inr h => exact .inr (mem_weightsAll h hn)
theorem opens_slice {α : Type} {d : Kd α} {G : α → Prop} {T e : TypeId} (hu : P.underlying T = some (.slice e)) (hc : P.cellsOf e = d.sz) {B : Nat} (hB : P.bytesOf e = B) (h : Opens P d G e) :
    Opens P (Kd.slice e d) (fun l => l.length ≤ 9223372036854775807 ∧ l.length * B ≤ 140737488351232 ∧ ∀ a ∈ l, G a) T := by
  intro H enc w base spare held fuel cs x hx hw
  rcases Go.Deep.open_slice hu hx with ⟨rfl, rfl⟩ | ⟨a, len, cap, m, n, D, Pl, rfl, hb, hl, hm, hmm, rfl, hel⟩
  · refine ⟨[], ⟨none, 0, rfl, Nat.le_refl _, rfl, by simp, fun h => absurd h (by simp)⟩, by simp, by simp, fun a ha => absurd ha (by simp)⟩
  · have hlm : len ≤ m := by rw [hmm]; split <;> omega
    have hsz : len * B ≤ 140737488351232 := by
      have := hw ((((List.range len).map D).length + ((List.range (m - len)).map fun j => D (len + j)).length) * P.bytesOf e) (by simp only [DataW.weights, hu]; exact List.mem_cons_self)
      rw [hB] at this
      simp only [List.length_map, List.length_range, reachBytes] at this
      have hle : len * B ≤ (len + (m - len)) * B := Nat.mul_le_mul_right _ (by omega)
      omega
    have key : ∀ i, i < len → ∃ y : α, (∃ c : List Value, c.length = d.sz ∧ d.K w y c ∧ ∀ j u, c[j]? = some u → w.cell? (a.add (i * d.sz + j)) = some u) ∧ G y := by
      intro i hi
      obtain ⟨cs', h1, h2⟩ := hel i (by omega)
      obtain ⟨y, hK, hG⟩ := h H enc w base spare held n cs' (D i, Pl i) h2 (fun k hk => hw k (by
        simp only [DataW.weights, hu]
        refine List.mem_cons_of_mem _ (List.mem_append_left _ (mem_weightsAll (y := D i) (List.mem_map.2 ⟨i, List.mem_range.2 hi, rfl⟩) hk))))
      obtain ⟨_, hlen, hcell⟩ := World.cells?_some h1
      rw [hc] at hlen hcell
      refine ⟨y, ⟨cs', hlen, hK, fun j u hj => ?_⟩, hG⟩
      have hj' : j < d.sz := by
        rw [← hlen]
        exact (List.getElem?_eq_some_iff.1 hj).1
      have := hcell j hj'
      rw [hj, Addr.add_add] at this
      exact this
    have build : ∀ k, k ≤ len → ∃ l : List α, l.length = k ∧ ∀ i y, l[i]? = some y → (∃ c : List Value, c.length = d.sz ∧ d.K w y c ∧ ∀ j u, c[j]? = some u → w.cell? (a.add (i * d.sz + j)) = some u) ∧ G y := by
      intro k
      induction k with
      | zero => exact fun _ => ⟨[], rfl, fun i y hi => by simp at hi⟩
      | succ k ih =>
        intro hk
        obtain ⟨l, hl1, hl2⟩ := ih (by omega)
        obtain ⟨y, hy⟩ := key k (by omega)
        refine ⟨l ++ [y], by simp [hl1], fun i z hz => ?_⟩
        by_cases hi : i < l.length
        · rw [List.getElem?_append_left hi] at hz
          exact hl2 i z hz
        · have hil : i < (l ++ [y]).length := (List.getElem?_eq_some_iff.1 hz).1
          have : i = k := by simp [hl1] at hil hi; omega
          subst this
          rw [List.getElem?_append_right (by omega), hl1, Nat.sub_self] at hz
          simp at hz
          subst hz
          exact hy
    obtain ⟨l, hl1, hl2⟩ := build len (Nat.le_refl _)
    refine ⟨l, ⟨some a, cap, by rw [hl1], by omega, rfl, by unfold maxLen at hm; omega, fun _ => ⟨a, rfl, fun j p hp => (hl2 j p hp).1⟩⟩, by unfold maxLen at hm; omega, by rw [hl1]; exact hsz, fun y hy => ?_⟩
    obtain ⟨i, hi⟩ := List.mem_iff_getElem?.1 hy
    exact (hl2 i y hi).2

/-- An argument, opened. -/
theorem open_arg {α : Type} {d : Kd α} {G : α → Prop} {T : TypeId} (h : Opens P d G T) {H : Type} {enc : TypeId × Value → H} {W : World} {base : Nat} {spare : Nat → Bool} {held : Bool} {v : Value} {x : DataW H} {ps : List MemPlace} {ts : List TypeId} {ds : List (DataW H)} {j : Nat}
    (hsz : (DataW.weightsEach P ts ds).all (· ≤ reachBytes) = true) (ht : ts[j]? = some T) (hd : ds[j]? = some x) (ht2 : DataW.Trod enc P W base spare held T v x ps) : ∃ a, d.K W a v.cells.toList ∧ G a := by
  obtain ⟨fuel, hf⟩ := ht2
  exact h H enc W base spare held fuel _ _ hf (fun n hn => by simpa using List.all_eq_true.1 hsz _ (DataW.weights_mem_each ht hd n hn))
end Go.Proofs.YtnojgkiaolmoeaaDoor.Read
