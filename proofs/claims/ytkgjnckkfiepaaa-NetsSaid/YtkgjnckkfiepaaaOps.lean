/- Sends, takes, copies on a net: what each call gives, and the row behind it. -/
import Derived.Test.YtkgjnckkfiepaaaAdd
namespace Go.Proofs.Ytkgjnckkfiepaaa.Net
open Go.RowKit Go.Conc Go.Proofs.YtkgjnckkfiepaaaW.PrintWords Go.Proofs.YtkgjnckkfiepaaaW.PrintLast Go.Proofs.YtkgjnckkfiepaaaW.PrintMore Go.Proofs.Ytkgjnckkfiepaaa.Chan
set_option linter.unusedVariables false
set_option linter.unusedSimpArgs false
def addL (l : List ByteArray) (s : ByteArray) : List ByteArray × Int := if l.length < 32 then (l ++ [s], 0) else (l, 2201)
def sendL (l : List ByteArray) (s : ByteArray) : List ByteArray × Int := if 0 < s.size ∧ s.size ≤ 512 then addL l s else (l, 2200)
def inL (l : List ByteArray) (k : Int) : Prop := 0 ≤ k ∧ k < (l.length : Int)
instance (l : List ByteArray) (k : Int) : Decidable (inL l k) := by unfold inL; infer_instance
def atL (l : List ByteArray) (k : Int) : ByteArray := l.getD k.toNat ⟨#[]⟩
def takeL (l : List ByteArray) (k : Int) : List ByteArray × ByteArray × Int := if inL l k then (l.eraseIdx k.toNat, atL l k, 0) else (l, ⟨#[]⟩, 2202)
def copyL (l : List ByteArray) (k : Int) : List ByteArray × Int := if inL l k then addL l (atL l k) else (l, 2202)
/-- Behind a call: the net, and what changed. -/
def Net2 (N : Nat) (w : World) (p ch : Nat) (v : Value) (l : List ByteArray) (w' : World) : Prop := ∃ v', NetAt N w' p ch v' l ∧ Chg w w' (foot p ch v) ∧ Moved w v v'
theorem Net2.refl {N p ch w v l} (h : NetAt N w p ch v l) : Net2 N w p ch v l w := ⟨v, h, Chg.refl _ _, Moved.refl _ _⟩
theorem add_calls {N p ch v l} (s : ByteArray) (w : World) (hN : N ≤ w.heap.size) (h : NetAt N w p ch v l) :
    Calls Try.prog 19 #[.pointer (some ⟨p, 0, none⟩), .string s] w fun e w' => e = .returned (.int .i64 (addL l s).2) ∧ Net2 N w p ch v (addL l s).1 w' := by
  unfold addL
  by_cases hl : l.length < 32
  · rw [if_pos hl]
    exact (add_room s w hN h hl).mono fun e w' ⟨he, v', h1, h2, h3⟩ => ⟨he, v', h1, h2, h3⟩
  · rw [if_neg hl]
    refine (add_full s w h (by have := h.few; omega)).mono ?_
    rintro e w' ⟨rfl, rfl⟩
    exact ⟨rfl, Net2.refl h⟩
theorem str_empty {s : ByteArray} (h : ¬ 0 < s.size) : s = ⟨#[]⟩ := by
  obtain ⟨d⟩ := s
  have : d = #[] := Array.eq_empty_of_size_eq_zero (by have h2 : ¬ 0 < d.size := h; omega)
  rw [this]
theorem str_some {s : ByteArray} (h : 0 < s.size) : s.toList.isEmpty = false := by
  cases h2 : s.toList.isEmpty
  · rfl
  · rw [List.isEmpty_iff] at h2
    have h3 : s.toList.length = s.size := by rw [ByteArray.toList_eq]; simp
    rw [h2] at h3
    simp at h3
    omega
set_option maxHeartbeats 4000000 in
set_option maxRecDepth 100000 in
theorem send_calls {N p ch v l} (s : ByteArray) (w : World) (hN : N ≤ w.heap.size) (h : NetAt N w p ch v l) :
    Calls Try.prog 9 #[.pointer (some ⟨p, 0, none⟩), .string s] w fun e w' => e = .returned (.int .i64 (sendL l s).2) ∧ Net2 N w p ch v (sendL l s).1 w' := by
  have H := Aside0.mk h
  have HN := Aside0.mk hN
  unfold sendL
  by_cases h0 : 0 < s.size
  · have h1 := str_some h0
    by_cases h2 : s.size ≤ 512
    · rw [if_pos ⟨h0, h2⟩]
      clear h hN
      go_enter Try.func9, Try.ntmps9
      go_wp2_with (go_at_call 19; refine (add_calls s _ HN.out H.out).mono ?_; rintro e w1 ⟨rfl, ho⟩; have HO := Aside0.mk ho; clear ho)
      go_ret
      exact ⟨rfl, HO.out⟩
    · rw [if_neg (fun hh => h2 hh.2)]
      clear h hN
      go_enter Try.func9, Try.ntmps9
      go_wp2_with fail
      go_ret
      exact ⟨rfl, Net2.refl H.out⟩
  · rw [if_neg (fun hh => h0 hh.1)]
    obtain rfl := str_empty h0
    clear h hN h0
    go_enter Try.func9, Try.ntmps9
    go_wp2_with fail
    go_ret
    exact ⟨rfl, Net2.refl H.out⟩
theorem net_at {N p ch A c l} {w : World} (h : NetAt N w p ch (.slice A l.length c) l) (i : Nat) (hi : i < l.length) : ∃ g, A = some ⟨g, 0, none⟩ ∧ w.cell? ⟨g, i, none⟩ = some (.string (atL l i)) := by
  rcases own_head h.row with ⟨_, h0⟩ | ⟨g, cap, hv, _⟩
  · rw [h0] at hi
    simp at hi
  · injection hv with h1 h2 h3
    subst h1
    have hc := Kd.R_cell (d := ⟨#[]⟩) h.row (i : Int) (by omega) (by omega)
    exact ⟨g, rfl, by simpa [rdOf, atL] using hc.1⟩
set_option maxHeartbeats 4000000 in
set_option maxRecDepth 100000 in
theorem copy_calls {N p ch v l} (k : Int) (w : World) (hN : N ≤ w.heap.size) (h : NetAt N w p ch v l) :
    Calls Try.prog 13 #[.pointer (some ⟨p, 0, none⟩), .int .i64 k] w fun e w' => e = .returned (.int .i64 (copyL l k).2) ∧ Net2 N w p ch v (copyL l k).1 w' := by
  have H := Aside0.mk h
  have HN := Aside0.mk hN
  have HH := Aside0.mk (has_calls w h k)
  unfold copyL
  by_cases h0 : inL l k
  · rw [if_pos h0]
    obtain ⟨i, rfl⟩ := Int.eq_ofNat_of_zero_le h0.1
    have hi : i < l.length := by have := h0.2; omega
    obtain ⟨A, c, rfl, hc, hC⟩ := h.slice
    obtain ⟨g, rfl, hg⟩ := net_at h i hi
    have x0 : w.cell? ⟨p, 0, none⟩ = some (.slice (some ⟨g, 0, none⟩) l.length c) := (cb_cell h.cell).trans rfl
    have HT := Aside0.mk (show decide (0 ≤ (i : Int) ∧ (i : Int) < (l.length : Int)) = true from decide_eq_true h0)
    have hm : l.length ≤ 32 := h.few
    clear h hN h0 hc hC
    go_enter Try.func13, Try.ntmps13
    go_wp2_with first
      | (go_at_call 20; refine (HH.out).mono ?_; rintro e w1 ⟨rfl, rfl⟩; rw [HT.out])
      | (go_at_call 19; refine (add_calls (atL l i) _ HN.out H.out).mono ?_; rintro e w1 ⟨rfl, ho⟩; have HO := Aside0.mk ho; clear ho)
    go_ret
    exact ⟨rfl, HO.out⟩
  · rw [if_neg h0]
    have HT := Aside0.mk (show decide (0 ≤ k ∧ k < (l.length : Int)) = false from decide_eq_false h0)
    clear h hN h0
    go_enter Try.func13, Try.ntmps13
    go_wp2_with first
      | (go_at_call 20; refine (HH.out).mono ?_; rintro e w1 ⟨rfl, hw⟩; rw [HT.out]; obtain rfl := hw)
    go_ret
    exact ⟨rfl, Net2.refl H.out⟩
end Go.Proofs.Ytkgjnckkfiepaaa.Net
