/- Calls on nets with their answers told ahead; plain facts of rows of texts. -/
import Derived.Test.YtkgjnckkfiepaaaRTake
namespace Go.Proofs.Ytkgjnckkfiepaaa.Net
open Go.RowKit Go.Proofs.YtkgjnckkfiepaaaW.PrintWords Go.Proofs.YtkgjnckkfiepaaaW.PrintLast Go.Proofs.YtkgjnckkfiepaaaW.PrintMore Go.Proofs.Ytkgjnckkfiepaaa.Chan
set_option linter.unusedVariables false
set_option linter.unusedSimpArgs false
theorem send_to {N p ch : Nat} {v : Value} {l : List ByteArray} (s : ByteArray) (l2 : List ByteArray) (q : Int) (w : World) (hN : N ≤ w.heap.size) (h : NetAt N w p ch v l) (hs : sendL l s = (l2, q)) :
    Calls Try.prog 9 #[.pointer (some ⟨p, 0, none⟩), .string s] w fun e w' => e = .returned (.int .i64 q) ∧ Net2 N w p ch v l2 w' := by
  have := send_calls s w hN h
  rwa [hs] at this
theorem copy_to {N p ch : Nat} {v : Value} {l : List ByteArray} (k : Int) (l2 : List ByteArray) (q : Int) (w : World) (hN : N ≤ w.heap.size) (h : NetAt N w p ch v l) (hs : copyL l k = (l2, q)) :
    Calls Try.prog 13 #[.pointer (some ⟨p, 0, none⟩), .int .i64 k] w fun e w' => e = .returned (.int .i64 q) ∧ Net2 N w p ch v l2 w' := by
  have := copy_calls k w hN h
  rwa [hs] at this
theorem take_to {N p ch : Nat} {v : Value} {l : List ByteArray} (k : Int) (l2 : List ByteArray) (s : ByteArray) (q : Int) (w : World) (hN : N ≤ w.heap.size) (h : NetAt N w p ch v l) (hs : takeL l k = (l2, s, q)) :
    Calls Try.prog 11 #[.pointer (some ⟨p, 0, none⟩), .int .i64 k] w fun e w' => e = .returned (.tuple #[.string s, .int .i64 q]) ∧ Net2 N w p ch v l2 w' := by
  have := take_calls k w hN h
  rwa [hs] at this
theorem rsend_to {N p : Nat} {v : Value} {l : List ByteArray} (s : ByteArray) (l2 : List ByteArray) (q : Int) (w : World) (hN : N ≤ w.heap.size) (h : RefAt N w p v l) (hs : sendL l s = (l2, q)) :
    Calls Try.prog 10 #[.pointer (some ⟨p, 0, none⟩), .string s] w fun e w' => e = .returned (.int .i64 q) ∧ Ref2 N w p v l2 w' := by
  have := rsend_calls s w hN h
  rwa [hs] at this
theorem rcopy_to {N p : Nat} {v : Value} {l : List ByteArray} (k : Int) (l2 : List ByteArray) (q : Int) (w : World) (hN : N ≤ w.heap.size) (h : RefAt N w p v l) (hg : goodL l) (hs : copyL l k = (l2, q)) :
    Calls Try.prog 14 #[.pointer (some ⟨p, 0, none⟩), .int .i64 k] w fun e w' => e = .returned (.int .i64 q) ∧ Ref2 N w p v l2 w' := by
  have := rcopy_calls k w hN h hg
  rwa [hs] at this
theorem rtake_to {N p : Nat} {v : Value} {l : List ByteArray} (k : Int) (l2 : List ByteArray) (s : ByteArray) (q : Int) (w : World) (hN : N ≤ w.heap.size) (h : RefAt N w p v l) (hs : takeL l k = (l2, s, q)) :
    Calls Try.prog 12 #[.pointer (some ⟨p, 0, none⟩), .int .i64 k] w fun e w' => e = .returned (.tuple #[.string s, .int .i64 q]) ∧ Ref2 N w p v l2 w' := by
  have := rtake_calls k w hN h
  rwa [hs] at this
/-- What a call on a net leaves, from elsewhere. -/
theorem Net2.below {N p ch : Nat} {v : Value} {l l0 : List ByteArray} {w w' : World} (h0 : NetAt N w p ch v l0) (hN : N ≤ w.heap.size) (h : Net2 N w p ch v l w') : Below N w w' := by
  obtain ⟨v', _, hc, _⟩ := h
  exact hc.below h0.foot_lo hN
theorem Ref2.below {N p : Nat} {v : Value} {l l0 : List ByteArray} {w w' : World} (h0 : RefAt N w p v l0) (hN : N ≤ w.heap.size) (h : Ref2 N w p v l w') : Below N w w' := by
  obtain ⟨v', _, hc, _⟩ := h
  exact hc.below h0.foot_lo hN
theorem good_nil : goodL [] := ⟨by simp, by simp⟩
theorem good_snoc {l : List ByteArray} {s : ByteArray} (h : goodL l) (hl : l.length < 32) (h1 : 0 < s.size) (h2 : s.size ≤ 512) : goodL (l ++ [s]) := by
  refine ⟨by simp; omega, fun x hx => ?_⟩
  rcases List.mem_append.1 hx with hx | hx
  · exact h.2 x hx
  · rw [List.mem_singleton.1 hx]; exact ⟨h1, h2⟩
theorem good_add {l : List ByteArray} {s : ByteArray} (h : goodL l) (h1 : 0 < s.size) (h2 : s.size ≤ 512) : goodL (addL l s).1 := by
  unfold addL
  by_cases hl : l.length < 32
  · rw [if_pos hl]; exact good_snoc h hl h1 h2
  · rw [if_neg hl]; exact h
theorem good_send {l : List ByteArray} (s : ByteArray) (h : goodL l) : goodL (sendL l s).1 := by
  unfold sendL
  by_cases hs : 0 < s.size ∧ s.size ≤ 512
  · rw [if_pos hs]; exact good_add h hs.1 hs.2
  · rw [if_neg hs]; exact h
theorem good_copy {l : List ByteArray} (k : Int) (h : goodL l) : goodL (copyL l k).1 := by
  unfold copyL
  by_cases hk : inL l k
  · rw [if_pos hk]
    obtain ⟨i, rfl⟩ := Int.eq_ofNat_of_zero_le hk.1
    have h2 := good_at h i (by have := hk.2; omega)
    exact good_add h h2.1 h2.2
  · rw [if_neg hk]; exact h
theorem good_take {l : List ByteArray} (k : Int) (h : goodL l) : goodL (takeL l k).1 := by
  unfold takeL
  by_cases hk : inL l k
  · rw [if_pos hk]
    have hi : k.toNat < l.length := by have := hk.1; have := hk.2; omega
    exact ⟨by rw [eraseIdx_length l _ hi]; have := h.1; omega, fun x hx => h.2 x (List.mem_of_mem_eraseIdx hx)⟩
  · rw [if_neg hk]; exact h
/-- What lies elsewhere lies elsewhere still when a row has moved. -/
theorem apart_moved {S : Nat → Prop} {w : World} {p ch : Nat} {v v' : Value} (hS : ∀ k, S k → k < w.heap.size) (h : ∀ k, S k → ¬ foot p ch v k) (hm : Moved w v v') : ∀ k, S k → ¬ foot p ch v' k := by
  rintro k hk (h1 | h1 | h1)
  · exact h k hk (.inl h1)
  · exact h k hk (.inr (.inl h1))
  · rcases hm k h1 with h2 | h2
    · exact h k hk (.inr (.inr h2))
    · exact absurd (hS k hk) (by omega)
theorem rapart_moved {S : Nat → Prop} {w : World} {p : Nat} {v v' : Value} (hS : ∀ k, S k → k < w.heap.size) (h : ∀ k, S k → ¬ rfoot p v k) (hm : Moved w v v') : ∀ k, S k → ¬ rfoot p v' k := by
  rintro k hk (h1 | h1)
  · exact h k hk (.inl h1)
  · rcases hm k h1 with h2 | h2
    · exact h k hk (.inr h2)
    · exact absurd (hS k hk) (by omega)
/-- A row of one's own, apart from what changed. -/
theorem row_keep {N : Nat} {w w1 : World} {v : Value} {l : List ByteArray} {F : Nat → Prop} (h : Kd.R Kd.string 9 w N (fun _ => True) v l) (hc : Chg w w1 F) (hF : ∀ k, v.ownBlock = some k → ¬ F k) : Kd.R Kd.string 9 w1 N (fun _ => True) v l :=
  Kd.R_of_own (own_move (Kd.own_of_R h) (fun k hk => hc.block k (Kd.R_lt h k hk) (hF k hk))) (fun _ _ => trivial)
theorem moved_of_at {w : World} {v v1 : Value} (hat : v1.ownBlock = v.ownBlock ∨ ∃ b, v1.ownBlock = some b ∧ w.heap.size ≤ b) : Moved w v v1 := by
  intro k hk
  rcases hat with h3 | ⟨b, h3, h4⟩
  · exact .inl (h3 ▸ hk)
  · rw [h3] at hk
    injection hk with hk
    subst hk
    exact .inr h4
/-- A net, another one that is empty, and a row: none of them lies in another. -/
structure Three (N p ch p2 ch2 : Nat) (w : World) (v vw : Value) (l lw : List ByteArray) : Prop where
  a : NetAt N w p ch v l
  b : NetAt N w p2 ch2 (.slice none 0 0) []
  r : Kd.R Kd.string 9 w N (fun _ => True) vw lw
  ba : ∀ k, foot p2 ch2 (.slice none 0 0) k → ¬ foot p ch v k
  ra : ∀ k, vw.ownBlock = some k → ¬ foot p ch v k
  rb : ∀ k, vw.ownBlock = some k → ¬ foot p2 ch2 (.slice none 0 0) k
theorem Three.below {N p ch p2 ch2 w w1 v vw l lw} (h : Three N p ch p2 ch2 w v vw l lw) (hb : Below w.heap.size w w1) : Three N p ch p2 ch2 w1 v vw l lw :=
  ⟨h.a.below hb, h.b.below hb, Kd.R_below h.r hb, h.ba, h.ra, h.rb⟩
theorem Three.net {N p ch p2 ch2 w w1 v vw l lw l2} (h : Three N p ch p2 ch2 w v vw l lw) (hn : Net2 N w p ch v l2 w1) : ∃ v1, Three N p ch p2 ch2 w1 v1 vw l2 lw := by
  obtain ⟨v1, h1, hc, hm⟩ := hn
  exact ⟨v1, h1, h.b.keep hc (fun k hk => h.ba k hk), row_keep h.r hc (fun k hk => h.ra k hk), apart_moved (fun k hk => h.b.foot_lt k hk) h.ba hm, apart_moved (fun k hk => Kd.R_lt h.r k hk) h.ra hm, h.rb⟩
theorem Three.row {N p ch p2 ch2 w w1 v vw vw1 l lw lw1} (h : Three N p ch p2 ch2 w v vw l lw) (hr : Kd.R Kd.string 9 w1 N (fun _ => True) vw1 lw1) (hg : w.grownBy w1 vw.ownBlock) (hat : vw1.ownBlock = vw.ownBlock ∨ ∃ b, vw1.ownBlock = some b ∧ w.heap.size ≤ b) : Three N p ch p2 ch2 w1 v vw1 l lw1 := by
  refine ⟨h.a.keep (Chg.of_grown hg) (fun k hk e => h.ra k e.symm hk), h.b.keep (Chg.of_grown hg) (fun k hk e => h.rb k e.symm hk), hr, h.ba, fun k hk hf => ?_, fun k hk hf => ?_⟩
  · rcases moved_of_at hat k hk with h2 | h2
    · exact h.ra k h2 hf
    · have := h.a.foot_lt k hf
      omega
  · rcases moved_of_at hat k hk with h2 | h2
    · exact h.rb k h2 hf
    · have := h.b.foot_lt k hf
      omega
/-- A net and the row that tells what it holds, the net written, then the row. -/
structure Two (N p ch : Nat) (w : World) (v vw : Value) (l lw : List ByteArray) : Prop where
  a : NetAt N w p ch v l
  r : Kd.R Kd.string 9 w N (fun _ => True) vw lw
  ra : ∀ k, vw.ownBlock = some k → ¬ foot p ch v k
theorem Two.below {N p ch w w1 v vw l lw} (h : Two N p ch w v vw l lw) (hb : Below w.heap.size w w1) : Two N p ch w1 v vw l lw :=
  ⟨h.a.below hb, Kd.R_below h.r hb, h.ra⟩
theorem Two.net {N p ch w w1 v vw l lw l2} (h : Two N p ch w v vw l lw) (hn : Net2 N w p ch v l2 w1) : ∃ v1, Two N p ch w1 v1 vw l2 lw := by
  obtain ⟨v1, h1, hc, hm⟩ := hn
  exact ⟨v1, h1, row_keep h.r hc (fun k hk => h.ra k hk), apart_moved (fun k hk => Kd.R_lt h.r k hk) h.ra hm⟩
theorem Two.row {N p ch w w1 v vw vw1 l lw lw1} (h : Two N p ch w v vw l lw) (hr : Kd.R Kd.string 9 w1 N (fun _ => True) vw1 lw1) (hg : w.grownBy w1 vw.ownBlock) (hat : vw1.ownBlock = vw.ownBlock ∨ ∃ b, vw1.ownBlock = some b ∧ w.heap.size ≤ b) : Two N p ch w1 v vw1 l lw1 := by
  refine ⟨h.a.keep (Chg.of_grown hg) (fun k hk e => h.ra k e.symm hk), hr, fun k hk hf => ?_⟩
  rcases moved_of_at hat k hk with h2 | h2
  · exact h.ra k h2 hf
  · have := h.a.foot_lt k hf
    omega
theorem send_cases (l : List ByteArray) (s : ByteArray) : sendL l s = (l ++ [s], 0) ∧ l.length < 32 ∧ 0 < s.size ∧ s.size ≤ 512 ∨ ∃ q : Int, q ≠ 0 ∧ sendL l s = (l, q) := by
  unfold sendL addL
  by_cases hs : 0 < s.size ∧ s.size ≤ 512
  · rw [if_pos hs]
    by_cases hl : l.length < 32
    · rw [if_pos hl]; exact .inl ⟨rfl, hl, hs.1, hs.2⟩
    · rw [if_neg hl]; exact .inr ⟨2201, by decide, rfl⟩
  · rw [if_neg hs]; exact .inr ⟨2200, by decide, rfl⟩
theorem three_start {N p ch p2 ch2 : Nat} {w1 w2 : World} (h1 : NetAt N w1 p ch (.slice none 0 0) []) (h2 : NetAt w1.heap.size w2 p2 ch2 (.slice none 0 0) []) (hb : Below w1.heap.size w1 w2) (hN : N ≤ w1.heap.size) : Three N p ch p2 ch2 w2 (.slice none 0 0) (.slice none 0 0) [] [] := by
  refine ⟨h1.below hb, h2.lower hN, Kd.R_nil _ _ _ _ _, fun k hk hf => ?_, fun k hk => ?_, fun k hk => ?_⟩
  · have h3 := h1.foot_lt k hf
    have h4 := h2.foot_lo k hk
    omega
  · simp [Value.ownBlock] at hk
  · simp [Value.ownBlock] at hk
theorem size_strOfNums (xs : List Int) : (strOfNums xs).size = xs.length := by
  simp [strOfNums, ByteArray.size]
/-- A text of so many zero bytes: made, and turned into a text. -/
theorem make_text (m : Nat) (n : Int) (hn : n = (m : Int)) (hm : m ≤ 1000000) : ∃ (s : ByteArray) (cs : Array Value) (k : Nat), s.size = m ∧ (∀ W : World, (Instr.makeSlice 45 (.int .i64 n) (.int .i64 n)).run Try.prog W = .ok (.slice (some ⟨W.heap.size, 0, none⟩) k k) (W.alloc (.cells cs 5))) ∧
    ∀ W : World, (convert 45 9 (.slice (some ⟨W.heap.size, 0, none⟩) k k)).run Try.prog (W.alloc (.cells cs 5)) = .ok (.string s) (W.alloc (.cells cs 5)) := by
  subst hn
  refine ⟨strOfNums (List.replicate m 0), madeCells #[.int .u8 0] m, m, by rw [size_strOfNums, List.length_replicate], fun W => ?_, fun W => ?_⟩
  · exact print_make 45 5 .u8 1 Try.underlying45 (by kernel_rfl) (by decide) m (by omega) W
  · exact own_string Try.underlying45 Try.underlying5 Try.underlying9 (own_made W W.heap.size 5 .u8 m (Nat.le_refl _) (by omega))
theorem send_long {l : List ByteArray} {s : ByteArray} (h : 512 < s.size) : sendL l s = (l, 2200) := by
  unfold sendL; rw [if_neg (by omega)]
theorem send_ok {l : List ByteArray} {s : ByteArray} (hl : l.length < 32) (h1 : 0 < s.size) (h2 : s.size ≤ 512) : sendL l s = (l ++ [s], 0) := by
  unfold sendL addL; rw [if_pos ⟨h1, h2⟩, if_pos hl]
theorem send_full {l : List ByteArray} {s : ByteArray} (hl : l.length = 32) (h1 : 0 < s.size) (h2 : s.size ≤ 512) : sendL l s = (l, 2201) := by
  unfold sendL addL; rw [if_pos ⟨h1, h2⟩, if_neg (by omega)]
theorem copy_full {l : List ByteArray} {k : Int} (hl : l.length = 32) (h : inL l k) : copyL l k = (l, 2201) := by
  unfold copyL addL; rw [if_pos h, if_neg (by omega)]
theorem copy_ok {l : List ByteArray} {k : Int} (hl : l.length < 32) (h : inL l k) : copyL l k = (l ++ [atL l k], 0) := by
  unfold copyL addL; rw [if_pos h, if_pos hl]
theorem copy_no {l : List ByteArray} {k : Int} (h : ¬ inL l k) : copyL l k = (l, 2202) := by
  unfold copyL; rw [if_neg h]
theorem take_no {l : List ByteArray} {k : Int} (h : ¬ inL l k) : takeL l k = (l, ⟨#[]⟩, 2202) := by
  unfold takeL; rw [if_neg h]
theorem take_ok {l : List ByteArray} {k : Int} (h : inL l k) : takeL l k = (l.eraseIdx k.toNat, atL l k, 0) := by
  unfold takeL; rw [if_pos h]
theorem two_start {N p ch : Nat} {w : World} (h : NetAt N w p ch (.slice none 0 0) []) : Two N p ch w (.slice none 0 0) (.slice none 0 0) [] [] :=
  ⟨h, Kd.R_nil _ _ _ _ _, fun k hk => by simp [Value.ownBlock] at hk⟩
/-- The row is another one, new since. -/
theorem Two.fresh {N p ch w w1 v vw vw1 l lw lw1} (h : Two N p ch w v vw l lw) (hb : Below w.heap.size w w1) (hN : N ≤ w.heap.size) (hr : Kd.R Kd.string 9 w1 w.heap.size (fun _ => True) vw1 lw1) : Two N p ch w1 v vw1 l lw1 :=
  ⟨h.a.below hb, Kd.R_lower hr hN, fun k hk hf => by have h1 := Kd.R_base hr k hk; have h2 := h.a.foot_lt k hf; omega⟩
theorem row_at {N A c l} {w : World} (h : Kd.R Kd.string 9 w N (fun _ => True) (.slice A l.length c) l) (i : Nat) (hi : i < l.length) : ∃ g, A = some ⟨g, 0, none⟩ ∧ l.length ≤ c := by
  rcases own_head h with ⟨_, h0⟩ | ⟨g, cap, hv, _, _, hl⟩
  · rw [h0] at hi
    simp at hi
  · injection hv with h1 h2 h3
    subst h1 h3
    exact ⟨g, rfl, hl⟩
theorem row_cell {N g c l} {w : World} (h : Kd.R Kd.string 9 w N (fun _ => True) (.slice (some ⟨g, 0, none⟩) l.length c) l) (i : Nat) (hi : i < l.length) : w.cell? ⟨g, i, none⟩ = some (.string (atL l i)) := by
  have hc := Kd.R_cell (d := ⟨#[]⟩) h (i : Int) (by omega) (by omega)
  simpa [rdOf, atL] using hc.1
theorem row_take {N g c l} {w : World} (h : Kd.R Kd.string 9 w N (fun _ => True) (.slice (some ⟨g, 0, none⟩) l.length c) l) (i : Nat) (hi : i < l.length) : Kd.C Kd.string w (some ⟨g, 0, none⟩) i (l.take i) := by
  have := Kd.C_take (Kd.R_reads' h).2.2 (Nat.le_of_lt hi)
  rwa [List.length_take, Nat.min_eq_left (Nat.le_of_lt hi)] at this
theorem row_addr (g c i : Nat) : ∃ A2 : Addr, (if c = i + 1 then (some ⟨g, 0, none⟩ : Option Addr) else some ⟨g, i + 1, none⟩) = some A2 := by
  by_cases h : c = i + 1
  · exact ⟨_, if_pos h⟩
  · exact ⟨_, if_neg h⟩
theorem row_drop {N g c l} {w : World} {A2 : Addr} (h : Kd.R Kd.string 9 w N (fun _ => True) (.slice (some ⟨g, 0, none⟩) l.length c) l) (i : Nat) (hi : i < l.length) (hA : (if c = i + 1 then (some ⟨g, 0, none⟩ : Option Addr) else some ⟨g, i + 1, none⟩) = some A2) : Kd.C Kd.string w (some A2) (l.length - (i + 1)) (l.drop (i + 1)) := by
  have h1 := Kd.C_drop (m := i + 1) (c := c) (Kd.R_reads' h).2.2 (by omega) (Kd.R_reads' h).2.1
  rw [List.length_drop] at h1
  by_cases hci : c = i + 1
  · rw [if_pos hci] at h1 hA
    rwa [hA] at h1
  · rw [if_neg hci] at h1 hA
    have e : (some (⟨g, 0, none⟩ : Addr)).map (·.add ((i + 1) * Kd.string.sz)) = some ⟨g, i + 1, none⟩ := by
      simp [Kd.string, Kd.scalar, Addr.add]
    rw [e, hA] at h1
    exact h1
/-- A text of one byte: written, and turned into a text. -/
theorem byte_text (n : Int) (h0 : 0 ≤ n) (h1 : n ≤ 255) : ∃ s : ByteArray, s.size = 1 ∧ ∀ W : World, (convert 45 9 (.slice (some ⟨W.heap.size, 0, none⟩) 1 1)).run Try.prog (W.alloc (.cells #[.int .u8 n] 5)) = .ok (.string s) (W.alloc (.cells #[.int .u8 n] 5)) :=
  ⟨strOfNums [n], by rw [size_strOfNums]; rfl, fun W => own_string Try.underlying45 Try.underlying5 Try.underlying9 (own_lit W W.heap.size 5 .u8 [n] (Nat.le_refl _) (by simp))⟩
/-- A net and the document's net, apart. -/
structure Duo (N p ch p2 : Nat) (w : World) (v v2 : Value) (l l2 : List ByteArray) : Prop where
  a : NetAt N w p ch v l
  b : RefAt N w p2 v2 l2
  ba : ∀ k, rfoot p2 v2 k → ¬ foot p ch v k
theorem Duo.below {N p ch p2 w w1 v v2 l l2} (h : Duo N p ch p2 w v v2 l l2) (hb : Below w.heap.size w w1) : Duo N p ch p2 w1 v v2 l l2 :=
  ⟨h.a.below hb, h.b.below hb, h.ba⟩
theorem Duo.net {N p ch p2 w w1 v v2 l l2 l3} (h : Duo N p ch p2 w v v2 l l2) (hn : Net2 N w p ch v l3 w1) : ∃ v1, Duo N p ch p2 w1 v1 v2 l3 l2 := by
  obtain ⟨v1, h1, hc, hm⟩ := hn
  exact ⟨v1, h1, h.b.keep hc (fun k hk => h.ba k hk), apart_moved (fun k hk => h.b.foot_lt k hk) h.ba hm⟩
theorem Duo.ref {N p ch p2 w w1 v v2 l l2 l3} (h : Duo N p ch p2 w v v2 l l2) (hn : Ref2 N w p2 v2 l3 w1) : ∃ v3, Duo N p ch p2 w1 v v3 l l3 := by
  obtain ⟨v1, h1, hc, hm⟩ := hn
  refine ⟨v1, h.a.keep hc (fun k hk hf => h.ba k hf hk), h1, fun k hk hf => ?_⟩
  exact rapart_moved (fun j hj => h.a.foot_lt j hj) (fun j hj hr => h.ba j hr hj) hm k hf hk
theorem duo_start {N p ch : Nat} {w : World} (h : NetAt N w p ch (.slice none 0 0) []) (hN : N ≤ w.heap.size) : Duo N p ch w.heap.size (w.alloc (.cells #[.slice none 0 0] 28)) (.slice none 0 0) (.slice none 0 0) [] [] := by
  refine ⟨h.below (below_alloc (Below.refl _ _) _), ⟨heap_alloc_new w _, Kd.R_nil _ _ _ _ _, hN, by simp⟩, fun k hk hf => ?_⟩
  have h1 := h.foot_lt k hf
  rcases hk with rfl | hk
  · omega
  · simp [Value.ownBlock] at hk
theorem Duo.cell {N p ch p2 w v v2 l l2} (h : Duo N p ch p2 w v v2 l l2) : w.cell? ⟨p2, 0, none⟩ = some v2 := (cb_cell h.b.cell).trans rfl
end Go.Proofs.Ytkgjnckkfiepaaa.Net
