/- The pen writes an act. -/
import Derived.Test.YtnojgkiaolmoeaaDoorPenC
namespace Go.Proofs.YtnojgkiaolmoeaaDoor.Pen
open Go.RowKit Go.Proofs.YtnojgkiaolmoeaaDoorW.PrintWords Go.Proofs.YtnojgkiaolmoeaaDoorW.PrintLast Go.Proofs.YtnojgkiaolmoeaaDoorW.PrintMore Go.Proofs.YtnojgkiaolmoeaaDoor.PSc
set_option linter.unusedVariables false
set_option linter.unusedSimpArgs false
def actT (x : S40) : List UInt8 := numsT [x.f0, x.f1, x.f2, x.f3, x.f4, x.f5] ++ [if x.f6 = true then 103 else 98] ++ (Lib.itoa (x.f7.size : Int) ++ [58] ++ x.f7.data.toList) ++ (if x.f0 = 9 then cfgT x.f8.f0 x.f8.f1 else [])
structure ActI (x : S40) : Prop where
  n : ∀ y ∈ [x.f0, x.f1, x.f2, x.f3, x.f4, x.f5], I64 y
  t : x.f7.size ≤ 512
  c : CfgI x.f8.f0 x.f8.f1
theorem actT_len {x : S40} (h : ActI x) : (actT x).length ≤ 1400 := by
  have h1 := numsT_le [x.f0, x.f1, x.f2, x.f3, x.f4, x.f5] h.n 6 rfl
  have h2 : (Lib.itoa (x.f7.size : Int)).length ≤ 21 := by
    have h9 := h.t
    exact Lib.itoa_length_le _ (by omega) (by omega)
  have h3 := cfgT_len h.c
  have h4 := h.t
  have h5 : x.f7.data.toList.length = x.f7.size := by rw [Array.length_toList]; rfl
  unfold actT
  simp only [List.length_append, List.length_singleton]
  by_cases h9 : x.f0 = 9
  · rw [if_pos h9]; omega
  · rw [if_neg h9, List.length_nil]; omega
theorem text_len (l : List UInt8) (s : ByteArray) : ((⟨l.toArray⟩ : ByteArray) ++ ⟨#[58]⟩ ++ s).data.toList.length = l.length + 1 + s.size := by
  rw [cat_list, cat_list, List.length_append, List.length_append]
  rw [show s.data.toList.length = s.size from by rw [Array.length_toList]; rfl]
  rfl
theorem size_cat2 (l : List UInt8) (s : ByteArray) : ((⟨l.toArray⟩ : ByteArray) ++ ⟨#[58]⟩ ++ s).size = l.length + 1 + s.size := by
  rw [ByteArray.size_append, ByteArray.size_append]
  rw [show (⟨l.toArray⟩ : ByteArray).size = l.length from by show l.toArray.size = _; simp]
  rfl
set_option maxHeartbeats 4000000 in
set_option maxRecDepth 100000 in
theorem act (w0 : World) (b : Nat) (l : List UInt8) (q : Addr) (x : S40) (A9 : Option Addr) (c9 : Nat) (w : World) (h : St w0 b l w) (ht : TabB w0.heap.size w0) (h0 : w0.cell? q = some (.int .i64 x.f0)) (h1 : w0.cell? ⟨q.block, q.off + 1, none⟩ = some (.int .i64 x.f1)) (h2 : w0.cell? ⟨q.block, q.off + 2, none⟩ = some (.int .i64 x.f2)) (h3 : w0.cell? ⟨q.block, q.off + 3, none⟩ = some (.int .i64 x.f3)) (h4 : w0.cell? ⟨q.block, q.off + 4, none⟩ = some (.int .i64 x.f4)) (h5 : w0.cell? ⟨q.block, q.off + 5, none⟩ = some (.int .i64 x.f5)) (h6 : w0.cell? ⟨q.block, q.off + 6, none⟩ = some (.bool x.f6)) (h7 : w0.cell? ⟨q.block, q.off + 7, none⟩ = some (.string x.f7)) (h8 : w0.cell? ⟨q.block, q.off + 8, none⟩ = some (.int .i64 x.f8.f0)) (h9 : w0.cell? ⟨q.block, q.off + 9, none⟩ = some (.slice A9 x.f8.f1.length c9)) (hC : Kd.C k63 w0 A9 x.f8.f1.length x.f8.f1) (hI : ActI x) (hlen : l.length + 2000 ≤ 140737488355328) :
    Calls Tryd.prog 20 #[.pointer (some ⟨b, 0, none⟩), .pointer (some q)] w fun e w' => e = .returned (.tuple #[]) ∧ St w0 b (l ++ actT x) w' := by
  have hp := Tryd.underlying55
  have HT := Aside0.mk ht
  have HC := Aside0.mk hC
  have HI := Aside0.mk hI
  have HS := Aside0.mk h
  have HL := Aside0.mk hlen
  have H0 := Aside0.mk h0
  have H1 := Aside0.mk h1
  have H2 := Aside0.mk h2
  have H3 := Aside0.mk h3
  have H4 := Aside0.mk h4
  have H5 := Aside0.mk h5
  have H6 := Aside0.mk h6
  have H7 := Aside0.mk h7
  have H8 := Aside0.mk h8
  have H9 := Aside0.mk h9
  have q0 := h.cell h0
  have q1 := h.cell h1
  have q2 := h.cell h2
  have q3 := h.cell h3
  have q4 := h.cell h4
  have q5 := h.cell h5
  have HLE_ := Aside0.mk (show l.length + 2000 ≤ 140737488355328 from hlen)
  have HIN_ := Aside0.mk hI.n
  have hz7 : x.f7.size ≤ 512 := hI.t
  have hq0 : (Lib.itoa (x.f7.size : Int)).length ≤ 21 := Lib.itoa_length_le _ (by omega) (by omega)
  have hq1 : (9223372036854775807 < (Lib.itoa (x.f7.size : Int)).length + 1) = False := eq_false (by omega)
  have hq2 : (9223372036854775807 < (Lib.itoa (x.f7.size : Int)).length + 1 + x.f7.size) = False := eq_false (by omega)
  have HQ0 := Aside0.mk hq0
  have HZ7 := Aside0.mk hz7
  clear h ht hC hI hlen hq0 hz7 h0 h1 h2 h3 h4 h5 h6 h7 h8 h9
  go_enter Tryd.func20, Tryd.ntmps20
  go_upto_region 0 with fail
  go_region_held3 (fun w' => w'.cell? q = some (.int .i64 x.f0) ∧ w'.cell? ⟨q.block, q.off + 1, none⟩ = some (.int .i64 x.f1) ∧ w'.cell? ⟨q.block, q.off + 2, none⟩ = some (.int .i64 x.f2) ∧ w'.cell? ⟨q.block, q.off + 3, none⟩ = some (.int .i64 x.f3) ∧ w'.cell? ⟨q.block, q.off + 4, none⟩ = some (.int .i64 x.f4) ∧ w'.cell? ⟨q.block, q.off + 5, none⟩ = some (.int .i64 x.f5)) (first | exact ⟨q0, q1, q2, q3, q4, q5⟩ | go_keep) ((go_at_call 38; (first | refine (nums_ w0 b _ [x.f0, x.f1, x.f2, x.f3, x.f4, x.f5] 6 rfl _ rfl _ HS.out HT.out ?hin ?hle).mono ?_ | refine (nums_ w0 b _ [x.f0, x.f1, x.f2, x.f3, x.f4, x.f5] 6 rfl _ rfl _ HS.out.drew HT.out ?hin ?hle).mono ?_); (case hin => exact HIN_.out); (case hle => have h9 := HLE_.out; omega); rintro e w3 ⟨rfl, h_, k_⟩; have HS1 := Aside0.mk h_; replace q0 := HS1.out.cell H0.out; replace q1 := HS1.out.cell H1.out; replace q2 := HS1.out.cell H2.out; replace q3 := HS1.out.cell H3.out; replace q4 := HS1.out.cell H4.out; replace q5 := HS1.out.cell H5.out; clear h_ k_))
  have q6 := HS1.out.cell H6.out
  replace HLE_ := Aside0.mk (show (l ++ numsT [x.f0, x.f1, x.f2, x.f3, x.f4, x.f5]).length + 1800 ≤ 140737488355328 by have h9 := HLE_.out; have h8 := numsT_le [x.f0, x.f1, x.f2, x.f3, x.f4, x.f5] HIN_.out 6 rfl; rw [List.length_append]; omega)
  clear q0 q1 q2 q3 q4 q5 HIN_
  go_upto_region 2 with (go_at_call 39; refine (letter_ w0 b _ x.f6 103 98 _ HS1.out ?hle).mono ?_; (case hle => have h9 := HLE_.out; omega); rintro e w4 ⟨rfl, h_, k_⟩; have HS2 := Aside0.mk h_; clear h_ k_)
  have q7 := HS2.out.cell H7.out
  replace HLE_ := Aside0.mk (show (l ++ numsT [x.f0, x.f1, x.f2, x.f3, x.f4, x.f5] ++ [if x.f6 = true then (103 : UInt8) else 98]).length + 1700 ≤ 140737488355328 by have h9 := HLE_.out; rw [List.length_append, List.length_singleton]; omega)
  clear q6
  go_region_held3 (fun w' => w'.cell? ⟨q.block, q.off + 7, none⟩ = some (.string x.f7)) (first | exact q7 | go_keep) (first
    | (go_at_call 41; refine (itoa_ (x.f7.size : Int) (by have h9 := HZ7.out; exact ⟨by omega, by omega⟩) _ (by first | exact (HS2.out.tab HT.out).now | exact (HS2.out.drew.tab HT.out).now)).mono ?_; rintro e w5 ⟨rfl, hb⟩; have HS5 := Aside0.mk (St.below (by first | exact HS2.out | exact HS2.out.drew) hb); replace q7 := HS5.out.cell H7.out; clear hb)
    | (go_at_call 40; refine (writeString_ w0 b _ _ _ HS5.out (by rw [size_cat2]; have h9 := HLE_.out; have h8 := HQ0.out; have h7 := HZ7.out; omega)).mono ?_; rintro e w6 ⟨rfl, h_, k_⟩; have HS6 := Aside0.mk h_; replace q7 := HS6.out.cell H7.out; clear h_ k_))
  have q0 := HS6.out.cell H0.out
  by_cases c9e : x.f0 = 9
  · have c9b : (x.f0 == 9) = true := by rw [c9e]; rfl
    have c9d : decide (x.f0 = 9) = true := decide_eq_true c9e
    go_wp2_with (go_at_call 42; refine (config w0 b _ ⟨q.block, q.off + 8, none⟩ x.f8.f0 A9 c9 x.f8.f1 _ HS6.out HT.out H8.out H9.out HC.out HI.out.c (by have h9 := HLE_.out; have h8 := HQ0.out; have h7 := HZ7.out; rw [List.length_append, text_len]; omega)).mono ?_; rintro e w7 ⟨rfl, h_⟩; have HS7 := Aside0.mk h_; clear h_)
    go_end0
    refine ⟨rfl, ?_⟩
    have h2 := HS7.out
    unfold actT
    rw [if_pos c9e]
    simpa [List.append_assoc] using h2
  · have c9b : (x.f0 == 9) = false := beq_eq_false_iff_ne.2 c9e
    have c9d : decide (x.f0 = 9) = false := decide_eq_false c9e
    go_wp2_with fail
    go_end0
    refine ⟨rfl, ?_⟩
    have h2 := HS6.out
    unfold actT
    rw [if_neg c9e, List.append_nil]
    simpa [List.append_assoc] using h2
end Go.Proofs.YtnojgkiaolmoeaaDoor.Pen
