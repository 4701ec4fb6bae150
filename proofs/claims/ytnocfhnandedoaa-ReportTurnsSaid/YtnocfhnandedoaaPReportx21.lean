/- Contracts: what calls of these functions of the program do, each as a plain function; written by a program of this session. -/
import Derived.Test.YtnocfhnandedoaaPReportx0
import Derived.Test.YtnocfhnandedoaaPReportx1
import Derived.Test.YtnocfhnandedoaaPReportx7
import Derived.Test.YtnocfhnandedoaaPReportx14
import Derived.Test.YtnocfhnandedoaaPReportx17
import Derived.Test.YtnocfhnandedoaaPReportx18
import Derived.Test.YtnocfhnandedoaaPReportx19
namespace Go.Proofs.Ytnocfhnandedoaa.PReport
open Go.RowKit Go.Proofs.YtnocfhnandedoaaW.PrintWords Go.Proofs.YtnocfhnandedoaaW.PrintLast Go.Proofs.YtnocfhnandedoaaW.PrintMore
attribute [local go_sem] max2_int min2_int max_two min_two max_three min_three max_four min_four   -- for this text's walks alone
set_option linter.unusedVariables false
set_option linter.unusedSimpArgs false

attribute [local go_sem high] eqA23
/-! ### wharfagelaw7_ReportTurns: function 4 -/
def wharfagelaw7_ReportTurns.f (k : Nat) (a0_0 : Int) (a0_1 : Int) (a0_2 : Int) (a0_3 : Int) (a1 : Int) (a2 : Int) : Option (Bool) := (wharfagelaw7_awake.f k).bind fun t201 => (if t201 = true then ((report_Put.f k a0_0 a0_1 a0_2 a0_3).bind fun bt202 => ((wharfagelaw0_Num.f bt202.2).bind fun t204 => (if t204 = 0 then ((report_Get.f k bt202.1).bind fun bt205 => ((wharfagelaw0_Num.f bt205.2.2.2.2).bind fun t211 => (if t211 = 0 then (if (!(bt205.1 == a0_0) || (!(bt205.2.1 == a0_1) || (!(bt205.2.2.1 == a0_2) || (!(bt205.2.2.2.1 == a0_3))))) = true then (none) else ((report_Newer.f (Int.tmod (wrap64 ((Go.bits .and .i64 a1 65535) + (wrap64 (1 + (wrap64 (Int.tmod (IntKind.u64.wrap (a2)) 32767)))))) 65536) (Go.bits .and .i64 a1 65535)).bind fun bt212 => ((report_Newer.f (Go.bits .and .i64 a1 65535) (Int.tmod (wrap64 ((Go.bits .and .i64 a1 65535) + (wrap64 (1 + (wrap64 (Int.tmod (IntKind.u64.wrap (a2)) 32767)))))) 65536)).bind fun bt214 => ((report_Newer.f (Go.bits .and .i64 a1 65535) (Go.bits .and .i64 a1 65535)).bind fun bt216 => (if bt212.1 = true then (if bt214.1 = true then (none) else (if bt216.1 = true then (none) else ((wharfagelaw0_Num.f bt212.2).bind fun t218 => (if t218 = 0 then ((wharfagelaw0_Num.f bt214.2).bind fun t219 => (if t219 = 0 then ((wharfagelaw0_Num.f bt216.2).bind fun t220 => (some (t220 == 0))) else (none))) else (none))))) else (none)))))) else (none)))) else ((report_Newer.f (Int.tmod (wrap64 ((Go.bits .and .i64 a1 65535) + (wrap64 (1 + (wrap64 (Int.tmod (IntKind.u64.wrap (a2)) 32767)))))) 65536) (Go.bits .and .i64 a1 65535)).bind fun bt221 => ((report_Newer.f (Go.bits .and .i64 a1 65535) (Int.tmod (wrap64 ((Go.bits .and .i64 a1 65535) + (wrap64 (1 + (wrap64 (Int.tmod (IntKind.u64.wrap (a2)) 32767)))))) 65536)).bind fun bt223 => ((report_Newer.f (Go.bits .and .i64 a1 65535) (Go.bits .and .i64 a1 65535)).bind fun bt225 => (if bt221.1 = true then (if bt223.1 = true then (none) else (if bt225.1 = true then (none) else ((wharfagelaw0_Num.f bt221.2).bind fun t227 => (if t227 = 0 then ((wharfagelaw0_Num.f bt223.2).bind fun t228 => (if t228 = 0 then ((wharfagelaw0_Num.f bt225.2).bind fun t229 => (some (t229 == 0))) else (none))) else (none))))) else (none)))))))) else (none))
theorem wharfagelaw7_ReportTurns.mono : ∀ a0 a1 a2 a3 a4 a5 k, LeO (wharfagelaw7_ReportTurns.f k a0 a1 a2 a3 a4 a5) (wharfagelaw7_ReportTurns.f (k + 1) a0 a1 a2 a3 a4 a5) := by
  intro a0 a1 a2 a3 a4 a5 k
  unfold wharfagelaw7_ReportTurns.f
  repeat' first
      | (with_reducible exact report_Get.mono _ _)
      | (with_reducible exact report_Put.mono _ _ _ _ _)
      | (with_reducible exact wharfagelaw7_awake.mono _)
      | (with_reducible exact LeO.refl _)
      | (with_reducible exact LeO.none _)
      | (with_reducible refine LeO.ite ?_ ?_)
      | (with_reducible refine LeO.bind ?_ (fun _ => ?_))
      | exact report_Get.mono _ _
      | exact report_Put.mono _ _ _ _ _
      | exact wharfagelaw7_awake.mono _
      | exact LeO.none _
      | refine LeO.ite ?_ ?_
      | refine LeO.bind ?_ (fun _ => ?_)
set_option maxHeartbeats 8000000 in
set_option maxRecDepth 100000 in
theorem wharfagelaw7_ReportTurns.calls (k : Nat) (a0_0 : Int) (a0_1 : Int) (a0_2 : Int) (a0_3 : Int) (a1 : Int) (a2 : Int) (r : Bool) (w : World) (h : wharfagelaw7_ReportTurns.f k a0_0 a0_1 a0_2 a0_3 a1 a2 = some r) :
    Calls Try.prog 4 #[.agg #[.int .i64 a0_0, .int .i64 a0_1, .int .i64 a0_2, .int .i64 a0_3], .int .i64 a1, .int .i64 a2] w fun e w' => e = .returned (.bool r) ∧ Below w.heap.size w w' := by
  have hu23 := Try.underlying23
  have HB := Aside0.mk (Below.refl w.heap.size w)
  have H : ((wharfagelaw7_awake.f k).bind fun t201 => (if t201 = true then ((report_Put.f k a0_0 a0_1 a0_2 a0_3).bind fun bt202 => ((wharfagelaw0_Num.f bt202.2).bind fun t204 => (if t204 = 0 then ((report_Get.f k bt202.1).bind fun bt205 => ((wharfagelaw0_Num.f bt205.2.2.2.2).bind fun t211 => (if t211 = 0 then (if (!(bt205.1 == a0_0) || (!(bt205.2.1 == a0_1) || (!(bt205.2.2.1 == a0_2) || (!(bt205.2.2.2.1 == a0_3))))) = true then (none) else ((report_Newer.f (Int.tmod (wrap64 ((Go.bits .and .i64 a1 65535) + (wrap64 (1 + (wrap64 (Int.tmod (IntKind.u64.wrap (a2)) 32767)))))) 65536) (Go.bits .and .i64 a1 65535)).bind fun bt212 => ((report_Newer.f (Go.bits .and .i64 a1 65535) (Int.tmod (wrap64 ((Go.bits .and .i64 a1 65535) + (wrap64 (1 + (wrap64 (Int.tmod (IntKind.u64.wrap (a2)) 32767)))))) 65536)).bind fun bt214 => ((report_Newer.f (Go.bits .and .i64 a1 65535) (Go.bits .and .i64 a1 65535)).bind fun bt216 => (if bt212.1 = true then (if bt214.1 = true then (none) else (if bt216.1 = true then (none) else ((wharfagelaw0_Num.f bt212.2).bind fun t218 => (if t218 = 0 then ((wharfagelaw0_Num.f bt214.2).bind fun t219 => (if t219 = 0 then ((wharfagelaw0_Num.f bt216.2).bind fun t220 => (some (t220 == 0))) else (none))) else (none))))) else (none)))))) else (none)))) else ((report_Newer.f (Int.tmod (wrap64 ((Go.bits .and .i64 a1 65535) + (wrap64 (1 + (wrap64 (Int.tmod (IntKind.u64.wrap (a2)) 32767)))))) 65536) (Go.bits .and .i64 a1 65535)).bind fun bt221 => ((report_Newer.f (Go.bits .and .i64 a1 65535) (Int.tmod (wrap64 ((Go.bits .and .i64 a1 65535) + (wrap64 (1 + (wrap64 (Int.tmod (IntKind.u64.wrap (a2)) 32767)))))) 65536)).bind fun bt223 => ((report_Newer.f (Go.bits .and .i64 a1 65535) (Go.bits .and .i64 a1 65535)).bind fun bt225 => (if bt221.1 = true then (if bt223.1 = true then (none) else (if bt225.1 = true then (none) else ((wharfagelaw0_Num.f bt221.2).bind fun t227 => (if t227 = 0 then ((wharfagelaw0_Num.f bt223.2).bind fun t228 => (if t228 = 0 then ((wharfagelaw0_Num.f bt225.2).bind fun t229 => (some (t229 == 0))) else (none))) else (none))))) else (none)))))))) else (none))) = some r := h
  clear h
  replace H := Option.bind_eq_some_iff.mp H
  obtain ⟨t201, A40, H⟩ := H
  replace H : (if t201 = true then ((report_Put.f k a0_0 a0_1 a0_2 a0_3).bind fun bt202 => ((wharfagelaw0_Num.f bt202.2).bind fun t204 => (if t204 = 0 then ((report_Get.f k bt202.1).bind fun bt205 => ((wharfagelaw0_Num.f bt205.2.2.2.2).bind fun t211 => (if t211 = 0 then (if (!(bt205.1 == a0_0) || (!(bt205.2.1 == a0_1) || (!(bt205.2.2.1 == a0_2) || (!(bt205.2.2.2.1 == a0_3))))) = true then (none) else ((report_Newer.f (Int.tmod (wrap64 ((Go.bits .and .i64 a1 65535) + (wrap64 (1 + (wrap64 (Int.tmod (IntKind.u64.wrap (a2)) 32767)))))) 65536) (Go.bits .and .i64 a1 65535)).bind fun bt212 => ((report_Newer.f (Go.bits .and .i64 a1 65535) (Int.tmod (wrap64 ((Go.bits .and .i64 a1 65535) + (wrap64 (1 + (wrap64 (Int.tmod (IntKind.u64.wrap (a2)) 32767)))))) 65536)).bind fun bt214 => ((report_Newer.f (Go.bits .and .i64 a1 65535) (Go.bits .and .i64 a1 65535)).bind fun bt216 => (if bt212.1 = true then (if bt214.1 = true then (none) else (if bt216.1 = true then (none) else ((wharfagelaw0_Num.f bt212.2).bind fun t218 => (if t218 = 0 then ((wharfagelaw0_Num.f bt214.2).bind fun t219 => (if t219 = 0 then ((wharfagelaw0_Num.f bt216.2).bind fun t220 => (some (t220 == 0))) else (none))) else (none))))) else (none)))))) else (none)))) else ((report_Newer.f (Int.tmod (wrap64 ((Go.bits .and .i64 a1 65535) + (wrap64 (1 + (wrap64 (Int.tmod (IntKind.u64.wrap (a2)) 32767)))))) 65536) (Go.bits .and .i64 a1 65535)).bind fun bt221 => ((report_Newer.f (Go.bits .and .i64 a1 65535) (Int.tmod (wrap64 ((Go.bits .and .i64 a1 65535) + (wrap64 (1 + (wrap64 (Int.tmod (IntKind.u64.wrap (a2)) 32767)))))) 65536)).bind fun bt223 => ((report_Newer.f (Go.bits .and .i64 a1 65535) (Go.bits .and .i64 a1 65535)).bind fun bt225 => (if bt221.1 = true then (if bt223.1 = true then (none) else (if bt225.1 = true then (none) else ((wharfagelaw0_Num.f bt221.2).bind fun t227 => (if t227 = 0 then ((wharfagelaw0_Num.f bt223.2).bind fun t228 => (if t228 = 0 then ((wharfagelaw0_Num.f bt225.2).bind fun t229 => (some (t229 == 0))) else (none))) else (none))))) else (none)))))))) else (none)) = some r := H
  have A4 := Aside0.mk A40
  clear A40
  by_cases c5 : t201 = true
  · subst c5
    have H1 : ((report_Put.f k a0_0 a0_1 a0_2 a0_3).bind fun bt202 => ((wharfagelaw0_Num.f bt202.2).bind fun t204 => (if t204 = 0 then ((report_Get.f k bt202.1).bind fun bt205 => ((wharfagelaw0_Num.f bt205.2.2.2.2).bind fun t211 => (if t211 = 0 then (if (!(bt205.1 == a0_0) || (!(bt205.2.1 == a0_1) || (!(bt205.2.2.1 == a0_2) || (!(bt205.2.2.2.1 == a0_3))))) = true then (none) else ((report_Newer.f (Int.tmod (wrap64 ((Go.bits .and .i64 a1 65535) + (wrap64 (1 + (wrap64 (Int.tmod (IntKind.u64.wrap (a2)) 32767)))))) 65536) (Go.bits .and .i64 a1 65535)).bind fun bt212 => ((report_Newer.f (Go.bits .and .i64 a1 65535) (Int.tmod (wrap64 ((Go.bits .and .i64 a1 65535) + (wrap64 (1 + (wrap64 (Int.tmod (IntKind.u64.wrap (a2)) 32767)))))) 65536)).bind fun bt214 => ((report_Newer.f (Go.bits .and .i64 a1 65535) (Go.bits .and .i64 a1 65535)).bind fun bt216 => (if bt212.1 = true then (if bt214.1 = true then (none) else (if bt216.1 = true then (none) else ((wharfagelaw0_Num.f bt212.2).bind fun t218 => (if t218 = 0 then ((wharfagelaw0_Num.f bt214.2).bind fun t219 => (if t219 = 0 then ((wharfagelaw0_Num.f bt216.2).bind fun t220 => (some (t220 == 0))) else (none))) else (none))))) else (none)))))) else (none)))) else ((report_Newer.f (Int.tmod (wrap64 ((Go.bits .and .i64 a1 65535) + (wrap64 (1 + (wrap64 (Int.tmod (IntKind.u64.wrap (a2)) 32767)))))) 65536) (Go.bits .and .i64 a1 65535)).bind fun bt221 => ((report_Newer.f (Go.bits .and .i64 a1 65535) (Int.tmod (wrap64 ((Go.bits .and .i64 a1 65535) + (wrap64 (1 + (wrap64 (Int.tmod (IntKind.u64.wrap (a2)) 32767)))))) 65536)).bind fun bt223 => ((report_Newer.f (Go.bits .and .i64 a1 65535) (Go.bits .and .i64 a1 65535)).bind fun bt225 => (if bt221.1 = true then (if bt223.1 = true then (none) else (if bt225.1 = true then (none) else ((wharfagelaw0_Num.f bt221.2).bind fun t227 => (if t227 = 0 then ((wharfagelaw0_Num.f bt223.2).bind fun t228 => (if t228 = 0 then ((wharfagelaw0_Num.f bt225.2).bind fun t229 => (some (t229 == 0))) else (none))) else (none))))) else (none)))))))) = some r := by rw [if_pos rfl] at H; exact H
    clear H
    have H := H1
    clear H1
    replace H := Option.bind_eq_some_iff.mp H
    obtain ⟨⟨t202, t203⟩, A60, H⟩ := H
    replace H : ((wharfagelaw0_Num.f t203).bind fun t204 => (if t204 = 0 then ((report_Get.f k t202).bind fun bt205 => ((wharfagelaw0_Num.f bt205.2.2.2.2).bind fun t211 => (if t211 = 0 then (if (!(bt205.1 == a0_0) || (!(bt205.2.1 == a0_1) || (!(bt205.2.2.1 == a0_2) || (!(bt205.2.2.2.1 == a0_3))))) = true then (none) else ((report_Newer.f (Int.tmod (wrap64 ((Go.bits .and .i64 a1 65535) + (wrap64 (1 + (wrap64 (Int.tmod (IntKind.u64.wrap (a2)) 32767)))))) 65536) (Go.bits .and .i64 a1 65535)).bind fun bt212 => ((report_Newer.f (Go.bits .and .i64 a1 65535) (Int.tmod (wrap64 ((Go.bits .and .i64 a1 65535) + (wrap64 (1 + (wrap64 (Int.tmod (IntKind.u64.wrap (a2)) 32767)))))) 65536)).bind fun bt214 => ((report_Newer.f (Go.bits .and .i64 a1 65535) (Go.bits .and .i64 a1 65535)).bind fun bt216 => (if bt212.1 = true then (if bt214.1 = true then (none) else (if bt216.1 = true then (none) else ((wharfagelaw0_Num.f bt212.2).bind fun t218 => (if t218 = 0 then ((wharfagelaw0_Num.f bt214.2).bind fun t219 => (if t219 = 0 then ((wharfagelaw0_Num.f bt216.2).bind fun t220 => (some (t220 == 0))) else (none))) else (none))))) else (none)))))) else (none)))) else ((report_Newer.f (Int.tmod (wrap64 ((Go.bits .and .i64 a1 65535) + (wrap64 (1 + (wrap64 (Int.tmod (IntKind.u64.wrap (a2)) 32767)))))) 65536) (Go.bits .and .i64 a1 65535)).bind fun bt221 => ((report_Newer.f (Go.bits .and .i64 a1 65535) (Int.tmod (wrap64 ((Go.bits .and .i64 a1 65535) + (wrap64 (1 + (wrap64 (Int.tmod (IntKind.u64.wrap (a2)) 32767)))))) 65536)).bind fun bt223 => ((report_Newer.f (Go.bits .and .i64 a1 65535) (Go.bits .and .i64 a1 65535)).bind fun bt225 => (if bt221.1 = true then (if bt223.1 = true then (none) else (if bt225.1 = true then (none) else ((wharfagelaw0_Num.f bt221.2).bind fun t227 => (if t227 = 0 then ((wharfagelaw0_Num.f bt223.2).bind fun t228 => (if t228 = 0 then ((wharfagelaw0_Num.f bt225.2).bind fun t229 => (some (t229 == 0))) else (none))) else (none))))) else (none))))))) = some r := H
    have A6 := Aside0.mk A60
    clear A60
    replace H := Option.bind_eq_some_iff.mp H
    obtain ⟨t204, A70, H⟩ := H
    replace H : (if t204 = 0 then ((report_Get.f k t202).bind fun bt205 => ((wharfagelaw0_Num.f bt205.2.2.2.2).bind fun t211 => (if t211 = 0 then (if (!(bt205.1 == a0_0) || (!(bt205.2.1 == a0_1) || (!(bt205.2.2.1 == a0_2) || (!(bt205.2.2.2.1 == a0_3))))) = true then (none) else ((report_Newer.f (Int.tmod (wrap64 ((Go.bits .and .i64 a1 65535) + (wrap64 (1 + (wrap64 (Int.tmod (IntKind.u64.wrap (a2)) 32767)))))) 65536) (Go.bits .and .i64 a1 65535)).bind fun bt212 => ((report_Newer.f (Go.bits .and .i64 a1 65535) (Int.tmod (wrap64 ((Go.bits .and .i64 a1 65535) + (wrap64 (1 + (wrap64 (Int.tmod (IntKind.u64.wrap (a2)) 32767)))))) 65536)).bind fun bt214 => ((report_Newer.f (Go.bits .and .i64 a1 65535) (Go.bits .and .i64 a1 65535)).bind fun bt216 => (if bt212.1 = true then (if bt214.1 = true then (none) else (if bt216.1 = true then (none) else ((wharfagelaw0_Num.f bt212.2).bind fun t218 => (if t218 = 0 then ((wharfagelaw0_Num.f bt214.2).bind fun t219 => (if t219 = 0 then ((wharfagelaw0_Num.f bt216.2).bind fun t220 => (some (t220 == 0))) else (none))) else (none))))) else (none)))))) else (none)))) else ((report_Newer.f (Int.tmod (wrap64 ((Go.bits .and .i64 a1 65535) + (wrap64 (1 + (wrap64 (Int.tmod (IntKind.u64.wrap (a2)) 32767)))))) 65536) (Go.bits .and .i64 a1 65535)).bind fun bt221 => ((report_Newer.f (Go.bits .and .i64 a1 65535) (Int.tmod (wrap64 ((Go.bits .and .i64 a1 65535) + (wrap64 (1 + (wrap64 (Int.tmod (IntKind.u64.wrap (a2)) 32767)))))) 65536)).bind fun bt223 => ((report_Newer.f (Go.bits .and .i64 a1 65535) (Go.bits .and .i64 a1 65535)).bind fun bt225 => (if bt221.1 = true then (if bt223.1 = true then (none) else (if bt225.1 = true then (none) else ((wharfagelaw0_Num.f bt221.2).bind fun t227 => (if t227 = 0 then ((wharfagelaw0_Num.f bt223.2).bind fun t228 => (if t228 = 0 then ((wharfagelaw0_Num.f bt225.2).bind fun t229 => (some (t229 == 0))) else (none))) else (none))))) else (none)))))) = some r := H
    have A7 := Aside0.mk A70
    clear A70
    by_cases c8 : t204 = 0
    · rw [if_pos c8] at H
      have c8b0 : (t204 == 0) = true := beq_iff_eq.mpr c8
      have c8b1 : (t204 != 0) = false := bne_eq_false_iff_eq.mpr c8
      clear c8
      replace H := Option.bind_eq_some_iff.mp H
      obtain ⟨⟨t205, t206, t207, t208, t209⟩, A90, H⟩ := H
      replace H : ((wharfagelaw0_Num.f t209).bind fun t211 => (if t211 = 0 then (if (!(t205 == a0_0) || (!(t206 == a0_1) || (!(t207 == a0_2) || (!(t208 == a0_3))))) = true then (none) else ((report_Newer.f (Int.tmod (wrap64 ((Go.bits .and .i64 a1 65535) + (wrap64 (1 + (wrap64 (Int.tmod (IntKind.u64.wrap (a2)) 32767)))))) 65536) (Go.bits .and .i64 a1 65535)).bind fun bt212 => ((report_Newer.f (Go.bits .and .i64 a1 65535) (Int.tmod (wrap64 ((Go.bits .and .i64 a1 65535) + (wrap64 (1 + (wrap64 (Int.tmod (IntKind.u64.wrap (a2)) 32767)))))) 65536)).bind fun bt214 => ((report_Newer.f (Go.bits .and .i64 a1 65535) (Go.bits .and .i64 a1 65535)).bind fun bt216 => (if bt212.1 = true then (if bt214.1 = true then (none) else (if bt216.1 = true then (none) else ((wharfagelaw0_Num.f bt212.2).bind fun t218 => (if t218 = 0 then ((wharfagelaw0_Num.f bt214.2).bind fun t219 => (if t219 = 0 then ((wharfagelaw0_Num.f bt216.2).bind fun t220 => (some (t220 == 0))) else (none))) else (none))))) else (none)))))) else (none))) = some r := H
      have A9 := Aside0.mk A90
      clear A90
      replace H := Option.bind_eq_some_iff.mp H
      obtain ⟨t211, A100, H⟩ := H
      replace H : (if t211 = 0 then (if (!(t205 == a0_0) || (!(t206 == a0_1) || (!(t207 == a0_2) || (!(t208 == a0_3))))) = true then (none) else ((report_Newer.f (Int.tmod (wrap64 ((Go.bits .and .i64 a1 65535) + (wrap64 (1 + (wrap64 (Int.tmod (IntKind.u64.wrap (a2)) 32767)))))) 65536) (Go.bits .and .i64 a1 65535)).bind fun bt212 => ((report_Newer.f (Go.bits .and .i64 a1 65535) (Int.tmod (wrap64 ((Go.bits .and .i64 a1 65535) + (wrap64 (1 + (wrap64 (Int.tmod (IntKind.u64.wrap (a2)) 32767)))))) 65536)).bind fun bt214 => ((report_Newer.f (Go.bits .and .i64 a1 65535) (Go.bits .and .i64 a1 65535)).bind fun bt216 => (if bt212.1 = true then (if bt214.1 = true then (none) else (if bt216.1 = true then (none) else ((wharfagelaw0_Num.f bt212.2).bind fun t218 => (if t218 = 0 then ((wharfagelaw0_Num.f bt214.2).bind fun t219 => (if t219 = 0 then ((wharfagelaw0_Num.f bt216.2).bind fun t220 => (some (t220 == 0))) else (none))) else (none))))) else (none)))))) else (none)) = some r := H
      have A10 := Aside0.mk A100
      clear A100
      by_cases c11 : t211 = 0
      · rw [if_pos c11] at H
        have c11b0 : (t211 == 0) = true := beq_iff_eq.mpr c11
        have c11b1 : (t211 != 0) = false := bne_eq_false_iff_eq.mpr c11
        clear c11
        by_cases c12 : (!(t205 == a0_0) || (!(t206 == a0_1) || (!(t207 == a0_2) || (!(t208 == a0_3))))) = true
        · rw [if_pos c12] at H
          exact absurd H (by simp)
        · rw [if_neg c12] at H
          have c12b0 : (!(t205 == a0_0) || (!(t206 == a0_1) || (!(t207 == a0_2) || (!(t208 == a0_3))))) = false := by simpa using c12
          clear c12
          replace H := Option.bind_eq_some_iff.mp H
          obtain ⟨⟨t212, t213⟩, A130, H⟩ := H
          replace H : ((report_Newer.f (Go.bits .and .i64 a1 65535) (Int.tmod (wrap64 ((Go.bits .and .i64 a1 65535) + (wrap64 (1 + (wrap64 (Int.tmod (IntKind.u64.wrap (a2)) 32767)))))) 65536)).bind fun bt214 => ((report_Newer.f (Go.bits .and .i64 a1 65535) (Go.bits .and .i64 a1 65535)).bind fun bt216 => (if t212 = true then (if bt214.1 = true then (none) else (if bt216.1 = true then (none) else ((wharfagelaw0_Num.f t213).bind fun t218 => (if t218 = 0 then ((wharfagelaw0_Num.f bt214.2).bind fun t219 => (if t219 = 0 then ((wharfagelaw0_Num.f bt216.2).bind fun t220 => (some (t220 == 0))) else (none))) else (none))))) else (none)))) = some r := H
          have A13 := Aside0.mk A130
          clear A130
          replace H := Option.bind_eq_some_iff.mp H
          obtain ⟨⟨t214, t215⟩, A140, H⟩ := H
          replace H : ((report_Newer.f (Go.bits .and .i64 a1 65535) (Go.bits .and .i64 a1 65535)).bind fun bt216 => (if t212 = true then (if t214 = true then (none) else (if bt216.1 = true then (none) else ((wharfagelaw0_Num.f t213).bind fun t218 => (if t218 = 0 then ((wharfagelaw0_Num.f t215).bind fun t219 => (if t219 = 0 then ((wharfagelaw0_Num.f bt216.2).bind fun t220 => (some (t220 == 0))) else (none))) else (none))))) else (none))) = some r := H
          have A14 := Aside0.mk A140
          clear A140
          replace H := Option.bind_eq_some_iff.mp H
          obtain ⟨⟨t216, t217⟩, A150, H⟩ := H
          replace H : (if t212 = true then (if t214 = true then (none) else (if t216 = true then (none) else ((wharfagelaw0_Num.f t213).bind fun t218 => (if t218 = 0 then ((wharfagelaw0_Num.f t215).bind fun t219 => (if t219 = 0 then ((wharfagelaw0_Num.f t217).bind fun t220 => (some (t220 == 0))) else (none))) else (none))))) else (none)) = some r := H
          have A15 := Aside0.mk A150
          clear A150
          by_cases c16 : t212 = true
          · subst c16
            have H1 : (if t214 = true then (none) else (if t216 = true then (none) else ((wharfagelaw0_Num.f t213).bind fun t218 => (if t218 = 0 then ((wharfagelaw0_Num.f t215).bind fun t219 => (if t219 = 0 then ((wharfagelaw0_Num.f t217).bind fun t220 => (some (t220 == 0))) else (none))) else (none))))) = some r := by rw [if_pos rfl] at H; exact H
            clear H
            have H := H1
            clear H1
            by_cases c17 : t214 = true
            · subst c17
              have H1 : (none) = some r := by rw [if_pos rfl] at H; exact H
              clear H
              have H := H1
              clear H1
              exact absurd H (by simp)
            · replace c17 := Bool.eq_false_iff.mpr c17
              subst c17
              have H1 : (if t216 = true then (none) else ((wharfagelaw0_Num.f t213).bind fun t218 => (if t218 = 0 then ((wharfagelaw0_Num.f t215).bind fun t219 => (if t219 = 0 then ((wharfagelaw0_Num.f t217).bind fun t220 => (some (t220 == 0))) else (none))) else (none)))) = some r := by rw [if_neg (show ¬ (false = true) by decide)] at H; exact H
              clear H
              have H := H1
              clear H1
              by_cases c18 : t216 = true
              · subst c18
                have H1 : (none) = some r := by rw [if_pos rfl] at H; exact H
                clear H
                have H := H1
                clear H1
                exact absurd H (by simp)
              · replace c18 := Bool.eq_false_iff.mpr c18
                subst c18
                have H1 : ((wharfagelaw0_Num.f t213).bind fun t218 => (if t218 = 0 then ((wharfagelaw0_Num.f t215).bind fun t219 => (if t219 = 0 then ((wharfagelaw0_Num.f t217).bind fun t220 => (some (t220 == 0))) else (none))) else (none))) = some r := by rw [if_neg (show ¬ (false = true) by decide)] at H; exact H
                clear H
                have H := H1
                clear H1
                replace H := Option.bind_eq_some_iff.mp H
                obtain ⟨t218, A190, H⟩ := H
                replace H : (if t218 = 0 then ((wharfagelaw0_Num.f t215).bind fun t219 => (if t219 = 0 then ((wharfagelaw0_Num.f t217).bind fun t220 => (some (t220 == 0))) else (none))) else (none)) = some r := H
                have A19 := Aside0.mk A190
                clear A190
                by_cases c20 : t218 = 0
                · rw [if_pos c20] at H
                  have c20b0 : (t218 == 0) = true := beq_iff_eq.mpr c20
                  have c20b1 : (t218 != 0) = false := bne_eq_false_iff_eq.mpr c20
                  clear c20
                  replace H := Option.bind_eq_some_iff.mp H
                  obtain ⟨t219, A210, H⟩ := H
                  replace H : (if t219 = 0 then ((wharfagelaw0_Num.f t217).bind fun t220 => (some (t220 == 0))) else (none)) = some r := H
                  have A21 := Aside0.mk A210
                  clear A210
                  by_cases c22 : t219 = 0
                  · rw [if_pos c22] at H
                    have c22b0 : (t219 == 0) = true := beq_iff_eq.mpr c22
                    have c22b1 : (t219 != 0) = false := bne_eq_false_iff_eq.mpr c22
                    clear c22
                    replace H := Option.bind_eq_some_iff.mp H
                    obtain ⟨t220, A230, H⟩ := H
                    replace H : (some (t220 == 0)) = some r := H
                    have A23 := Aside0.mk A230
                    clear A230
                    obtain rfl := Option.some.inj H
                    go_enter Try.func4, Try.ntmps4
                    go_wp2_with (first | ((with_reducible refine gate_dst (N := 3) rfl ?_); refine box_event ?hg (N := 3) ?hd (cs := #[.int .i64 a0_0, .int .i64 a0_1, .int .i64 a0_2, .int .i64 a0_3]) (t := 23) ?hr ?_; (case hd => rfl); (case hg => rfl); (case hr => first | (go_simp; done) | (go_simp; rfl)); intro gb200 hg w24 hbox hb; have n0_ := Aside0.mk (below_step (by repeat (first | (with_reducible first | exact HB.out | apply below_alloc | apply pw_below_drewN | apply below_drew1) | exact HB.out)) hb); have n1_ := Aside0.mk (hbox); have n2_ := Aside0.mk ((by rw [hg]; exact (below_size (by repeat (first | (with_reducible first | exact HB.out | apply below_alloc | apply pw_below_drewN | apply below_drew1) | exact HB.out))) : w.heap.size ≤ gb200)); have n3_ := Aside0.mk ((by rw [hg]; exact (below_size (by repeat (first | (with_reducible first | exact HB.out | apply below_alloc | apply pw_below_drewN | apply below_drew1) | exact HB.out))) : w.heap.size ≤ gb200)); clear HB; have HB := n0_; have BK200 := n1_; have GW200 := n2_; have GE200 := n3_; clear n0_ n1_ n2_ n3_; clear hb hbox hg) | ((with_reducible refine gate_callee (f := 24) rfl ?_); refine goesL_ (some 20) rfl rfl Try.func24 (by kernel_rfl) rfl #[] rfl (by (try simp only [List.map_toArray, List.map_cons, List.map_nil]); first | done | rfl | (simp only [List.length_drop, List.length_take]; rfl)) ?_; (with_reducible refine (wharfagelaw7_awake.calls k  true _ A4.out).mono ?_); rintro e w25 ⟨rfl, hb⟩; refine ⟨_, rfl, ?_⟩; have n0_ := Aside0.mk (blk_below (g := gb200) (o := .cells #[.int .i64 a0_0, .int .i64 a0_1, .int .i64 a0_2, .int .i64 a0_3] 23 (0, 0)) (by (with_reducible repeat (first | refine blk_drewN ?_ _ | refine blk_drew ?_ | refine blk_alloc ?_ _)); exact BK200.out) hb); have n1_ := Aside0.mk (below_step (by repeat (first | (with_reducible first | exact HB.out | apply below_alloc | apply pw_below_drewN | apply below_drew1 | refine below_set ?_ GE200.out) | exact HB.out)) hb); clear BK200; clear HB; have BK200 := n0_; have HB := n1_; clear n0_ n1_; (try clear hb); (try clear hb2); (try clear hk); (try clear hi); have hcz26_0 : w25.cell? ⟨gb200, 0, none⟩ = some (.int .i64 a0_0) := (blk_cell BK200.out 0).trans rfl; have hcz26_1 : w25.cell? ⟨gb200, 1, none⟩ = some (.int .i64 a0_1) := (blk_cell BK200.out 1).trans rfl; have hcz26_2 : w25.cell? ⟨gb200, 2, none⟩ = some (.int .i64 a0_2) := (blk_cell BK200.out 2).trans rfl; have hcz26_3 : w25.cell? ⟨gb200, 3, none⟩ = some (.int .i64 a0_3) := (blk_cell BK200.out 3).trans rfl; have hfz26_0 := blk_frozen BK200.out 0; have hfz26_1 := blk_frozen BK200.out 1; have hfz26_2 := blk_frozen BK200.out 2; have hfz26_3 := blk_frozen BK200.out 3) | ((with_reducible refine gate_callee (f := 15) rfl ?_); refine goesL_ (some 24) rfl rfl Try.func15 (by kernel_rfl) rfl #[.agg #[.int .i64 a0_0, .int .i64 a0_1, .int .i64 a0_2, .int .i64 a0_3]] rfl (by (try simp only [List.map_toArray, List.map_cons, List.map_nil]); first | done | rfl | (simp only [List.length_drop, List.length_take]; rfl)) ?_; (with_reducible refine (report_Put.calls k a0_0 a0_1 a0_2 a0_3 t202 t203 _ A6.out).mono ?_); rintro e w27 ⟨rfl, hb⟩; refine ⟨_, rfl, ?_⟩; have n0_ := Aside0.mk (blk_below (g := gb200) (o := .cells #[.int .i64 a0_0, .int .i64 a0_1, .int .i64 a0_2, .int .i64 a0_3] 23 (0, 0)) (by (with_reducible repeat (first | refine blk_drewN ?_ _ | refine blk_drew ?_ | refine blk_alloc ?_ _)); exact BK200.out) hb); have n1_ := Aside0.mk (below_step (by repeat (first | (with_reducible first | exact HB.out | apply below_alloc | apply pw_below_drewN | apply below_drew1 | refine below_set ?_ GE200.out) | exact HB.out)) hb); clear BK200; clear HB; have BK200 := n0_; have HB := n1_; clear n0_ n1_; (try clear hb); (try clear hb2); (try clear hk); (try clear hi)) | ((with_reducible refine gate_callee (f := 21) rfl ?_); refine goesL_ (some 28) rfl rfl Try.func21 (by kernel_rfl) rfl #[.int .i64 t203] rfl (by (try simp only [List.map_toArray, List.map_cons, List.map_nil]); first | done | rfl | (simp only [List.length_drop, List.length_take]; rfl)) ?_; (with_reducible refine (wharfagelaw0_Num.calls t203 t204 _ A7.out).mono ?_); rintro e w' ⟨rfl, ⟨nd, rfl⟩⟩; refine ⟨_, rfl, ?_⟩; (try (rw [drewN_self w27]; generalize hq_ : World.drewN w27 _ = w27; have n0_ : Aside0 (w27.heap[gb200]? = some (.cells #[.int .i64 a0_0, .int .i64 a0_1, .int .i64 a0_2, .int .i64 a0_3] 23 (0, 0))) := ⟨by rw [← hq_]; exact (by (with_reducible repeat (first | refine blk_drewN ?_ _ | refine blk_drew ?_ | refine blk_alloc ?_ _)); exact BK200.out)⟩; have n1_ : Aside0 (Below w.heap.size w w27) := ⟨by rw [← hq_]; exact (by repeat (first | (with_reducible first | exact HB.out | apply below_alloc | apply pw_below_drewN | apply below_drew1 | refine below_set ?_ GE200.out) | exact HB.out))⟩; clear BK200 HB hq_; have BK200 := n0_; have HB := n1_; clear n0_ n1_))) | ((with_reducible refine gate_callee (f := 17) rfl ?_); refine goesL_ (some 32) rfl rfl Try.func17 (by kernel_rfl) rfl #[.string t202] rfl (by (try simp only [List.map_toArray, List.map_cons, List.map_nil]); first | done | rfl | (simp only [List.length_drop, List.length_take]; rfl)) ?_; (with_reducible refine (report_Get.calls k t202 t205 t206 t207 t208 t209 _ A9.out).mono ?_); rintro e w28 ⟨rfl, hb⟩; refine ⟨_, rfl, ?_⟩; have n0_ := Aside0.mk (blk_below (g := gb200) (o := .cells #[.int .i64 a0_0, .int .i64 a0_1, .int .i64 a0_2, .int .i64 a0_3] 23 (0, 0)) (by (with_reducible repeat (first | refine blk_drewN ?_ _ | refine blk_drew ?_ | refine blk_alloc ?_ _)); exact BK200.out) hb); have n1_ := Aside0.mk (below_step (by repeat (first | (with_reducible first | exact HB.out | apply below_alloc | apply pw_below_drewN | apply below_drew1 | refine below_set ?_ GE200.out) | exact HB.out)) hb); clear BK200; clear HB; have BK200 := n0_; have HB := n1_; clear n0_ n1_; (try clear hb); (try clear hb2); (try clear hk); (try clear hi)) | ((with_reducible refine gate_dst (N := 9) rfl ?_); refine box_event ?hg (N := 9) ?hd (cs := #[.int .i64 0, .int .i64 0, .int .i64 0, .int .i64 0]) (t := 23) ?hr ?_; (case hd => rfl); (case hg => rfl); (case hr => first | (go_simp; done) | (go_simp; rfl)); intro gb210 hg w29 hbox hb; have n0_ := Aside0.mk (blk_below (g := gb200) (o := .cells #[.int .i64 a0_0, .int .i64 a0_1, .int .i64 a0_2, .int .i64 a0_3] 23 (0, 0)) (by (with_reducible repeat (first | refine blk_drewN ?_ _ | refine blk_drew ?_ | refine blk_alloc ?_ _)); exact BK200.out) hb); have n1_ := Aside0.mk (below_step (by repeat (first | (with_reducible first | exact HB.out | apply below_alloc | apply pw_below_drewN | apply below_drew1 | refine below_set ?_ GE200.out) | exact HB.out)) hb); have n2_ := Aside0.mk (hbox); have n3_ := Aside0.mk ((by rw [hg]; exact (below_size (by repeat (first | (with_reducible first | exact HB.out | apply below_alloc | apply pw_below_drewN | apply below_drew1 | refine below_set ?_ GE200.out) | exact HB.out))) : w.heap.size ≤ gb210)); have n4_ := Aside0.mk ((by rw [hg]; exact (below_size (by repeat (first | (with_reducible first | exact HB.out | apply below_alloc | apply pw_below_drewN | apply below_drew1 | refine below_set ?_ GE200.out) | exact HB.out))) : w.heap.size ≤ gb210)); have n5_ := Aside0.mk ((by rw [hg]; exact Nat.ne_of_lt (blk_lt (g := gb200) (o := .cells #[.int .i64 a0_0, .int .i64 a0_1, .int .i64 a0_2, .int .i64 a0_3] 23 (0, 0)) (by (with_reducible repeat (first | refine blk_drewN ?_ _ | refine blk_drew ?_ | refine blk_alloc ?_ _)); exact BK200.out)) : gb200 ≠ gb210)); have n6_ := Aside0.mk ((by rw [hg]; exact Nat.ne_of_gt (blk_lt (g := gb200) (o := .cells #[.int .i64 a0_0, .int .i64 a0_1, .int .i64 a0_2, .int .i64 a0_3] 23 (0, 0)) (by (with_reducible repeat (first | refine blk_drewN ?_ _ | refine blk_drew ?_ | refine blk_alloc ?_ _)); exact BK200.out)) : gb210 ≠ gb200)); clear BK200; clear HB; have BK200 := n0_; have HB := n1_; have BK210 := n2_; have GW210 := n3_; have GE210 := n4_; have NB200_210 := n5_; have NB210_200 := n6_; clear n0_ n1_ n2_ n3_ n4_ n5_ n6_; clear hb hbox hg; have hnb30 := NB210_200.out; have hnc30 := NB200_210.out; have hcz31_0 : w29.cell? ⟨gb210, 0, none⟩ = some (.int .i64 0) := (blk_cell BK210.out 0).trans rfl; have hcz31_1 : w29.cell? ⟨gb210, 1, none⟩ = some (.int .i64 0) := (blk_cell BK210.out 1).trans rfl; have hcz31_2 : w29.cell? ⟨gb210, 2, none⟩ = some (.int .i64 0) := (blk_cell BK210.out 2).trans rfl; have hcz31_3 : w29.cell? ⟨gb210, 3, none⟩ = some (.int .i64 0) := (blk_cell BK210.out 3).trans rfl; have hfz31_0 := blk_frozen BK210.out 0; have hfz31_1 := blk_frozen BK210.out 1; have hfz31_2 := blk_frozen BK210.out 2; have hfz31_3 := blk_frozen BK210.out 3) | ((with_reducible refine gate_callee (f := 21) rfl ?_); refine goesL_ (some 36) rfl rfl Try.func21 (by kernel_rfl) rfl #[.int .i64 t209] rfl (by (try simp only [List.map_toArray, List.map_cons, List.map_nil]); first | done | rfl | (simp only [List.length_drop, List.length_take]; rfl)) ?_; (with_reducible refine (wharfagelaw0_Num.calls t209 t211 _ A10.out).mono ?_); rintro e w' ⟨rfl, ⟨nd, rfl⟩⟩; refine ⟨_, rfl, ?_⟩; have hcz32_0 : w29.cell? ⟨gb200, 0, none⟩ = some (.int .i64 a0_0) := (blk_cell BK200.out 0).trans rfl; have hcz32_1 : w29.cell? ⟨gb200, 1, none⟩ = some (.int .i64 a0_1) := (blk_cell BK200.out 1).trans rfl; have hcz32_2 : w29.cell? ⟨gb200, 2, none⟩ = some (.int .i64 a0_2) := (blk_cell BK200.out 2).trans rfl; have hcz32_3 : w29.cell? ⟨gb200, 3, none⟩ = some (.int .i64 a0_3) := (blk_cell BK200.out 3).trans rfl; have hfz32_0 := blk_frozen BK200.out 0; have hfz32_1 := blk_frozen BK200.out 1; have hfz32_2 := blk_frozen BK200.out 2; have hfz32_3 := blk_frozen BK200.out 3) | ((with_reducible refine gate_callee (f := 19) rfl ?_); refine goesL_ (some 57) rfl rfl Try.func19 (by kernel_rfl) rfl #[.int .i64 (Int.tmod (wrap64 ((Go.bits .and .i64 a1 65535) + (wrap64 (1 + (wrap64 (Int.tmod (IntKind.u64.wrap (a2)) 32767)))))) 65536), .int .i64 (Go.bits .and .i64 a1 65535)] rfl (by (try simp only [List.map_toArray, List.map_cons, List.map_nil]); first | done | rfl | (simp only [List.length_drop, List.length_take]; rfl)) ?_; (with_reducible refine (report_Newer.calls (Int.tmod (wrap64 ((Go.bits .and .i64 a1 65535) + (wrap64 (1 + (wrap64 (Int.tmod (IntKind.u64.wrap (a2)) 32767)))))) 65536) (Go.bits .and .i64 a1 65535) true t213 _ A13.out).mono ?_); rintro e w' ⟨rfl, ⟨nd, rfl⟩⟩; refine ⟨_, rfl, ?_⟩) | ((with_reducible refine gate_callee (f := 19) rfl ?_); refine goesL_ (some 63) rfl rfl Try.func19 (by kernel_rfl) rfl #[.int .i64 (Go.bits .and .i64 a1 65535), .int .i64 (Int.tmod (wrap64 ((Go.bits .and .i64 a1 65535) + (wrap64 (1 + (wrap64 (Int.tmod (IntKind.u64.wrap (a2)) 32767)))))) 65536)] rfl (by (try simp only [List.map_toArray, List.map_cons, List.map_nil]); first | done | rfl | (simp only [List.length_drop, List.length_take]; rfl)) ?_; (with_reducible refine (report_Newer.calls (Go.bits .and .i64 a1 65535) (Int.tmod (wrap64 ((Go.bits .and .i64 a1 65535) + (wrap64 (1 + (wrap64 (Int.tmod (IntKind.u64.wrap (a2)) 32767)))))) 65536) false t215 _ A14.out).mono ?_); rintro e w' ⟨rfl, ⟨nd, rfl⟩⟩; refine ⟨_, rfl, ?_⟩) | ((with_reducible refine gate_callee (f := 19) rfl ?_); refine goesL_ (some 69) rfl rfl Try.func19 (by kernel_rfl) rfl #[.int .i64 (Go.bits .and .i64 a1 65535), .int .i64 (Go.bits .and .i64 a1 65535)] rfl (by (try simp only [List.map_toArray, List.map_cons, List.map_nil]); first | done | rfl | (simp only [List.length_drop, List.length_take]; rfl)) ?_; (with_reducible refine (report_Newer.calls (Go.bits .and .i64 a1 65535) (Go.bits .and .i64 a1 65535) false t217 _ A15.out).mono ?_); rintro e w' ⟨rfl, ⟨nd, rfl⟩⟩; refine ⟨_, rfl, ?_⟩) | (go_at_call 21; (with_reducible refine (wharfagelaw0_Num.calls t213 t218 _ A19.out).mono ?_); rintro e w' ⟨rfl, ⟨nd, rfl⟩⟩) | (go_at_call 21; (with_reducible refine (wharfagelaw0_Num.calls t215 t219 _ A21.out).mono ?_); rintro e w' ⟨rfl, ⟨nd, rfl⟩⟩) | (go_at_call 21; (with_reducible refine (wharfagelaw0_Num.calls t217 t220 _ A23.out).mono ?_); rintro e w' ⟨rfl, ⟨nd, rfl⟩⟩))
                    go_ret
                    exact ⟨by first | rfl | (simp [errW_none, errW_some] <;> rfl) | (simp [*, errW_none, errW_some] <;> rfl), by repeat (first | (with_reducible first | exact HB.out | apply below_alloc | apply pw_below_drewN | apply below_drew1 | refine below_set ?_ GE200.out | refine below_set ?_ GE210.out) | exact HB.out)⟩
                  · rw [if_neg c22] at H
                    exact absurd H (by simp)
                · rw [if_neg c20] at H
                  exact absurd H (by simp)
          · replace c16 := Bool.eq_false_iff.mpr c16
            subst c16
            have H1 : (none) = some r := by rw [if_neg (show ¬ (false = true) by decide)] at H; exact H
            clear H
            have H := H1
            clear H1
            exact absurd H (by simp)
      · rw [if_neg c11] at H
        exact absurd H (by simp)
    · rw [if_neg c8] at H
      have c8b0 : (t204 == 0) = false := beq_eq_false_iff_ne.mpr c8
      have c8b1 : (t204 != 0) = true := bne_iff_ne.mpr c8
      replace H := Option.bind_eq_some_iff.mp H
      obtain ⟨⟨t221, t222⟩, A330, H⟩ := H
      replace H : ((report_Newer.f (Go.bits .and .i64 a1 65535) (Int.tmod (wrap64 ((Go.bits .and .i64 a1 65535) + (wrap64 (1 + (wrap64 (Int.tmod (IntKind.u64.wrap (a2)) 32767)))))) 65536)).bind fun bt223 => ((report_Newer.f (Go.bits .and .i64 a1 65535) (Go.bits .and .i64 a1 65535)).bind fun bt225 => (if t221 = true then (if bt223.1 = true then (none) else (if bt225.1 = true then (none) else ((wharfagelaw0_Num.f t222).bind fun t227 => (if t227 = 0 then ((wharfagelaw0_Num.f bt223.2).bind fun t228 => (if t228 = 0 then ((wharfagelaw0_Num.f bt225.2).bind fun t229 => (some (t229 == 0))) else (none))) else (none))))) else (none)))) = some r := H
      have A33 := Aside0.mk A330
      clear A330
      replace H := Option.bind_eq_some_iff.mp H
      obtain ⟨⟨t223, t224⟩, A340, H⟩ := H
      replace H : ((report_Newer.f (Go.bits .and .i64 a1 65535) (Go.bits .and .i64 a1 65535)).bind fun bt225 => (if t221 = true then (if t223 = true then (none) else (if bt225.1 = true then (none) else ((wharfagelaw0_Num.f t222).bind fun t227 => (if t227 = 0 then ((wharfagelaw0_Num.f t224).bind fun t228 => (if t228 = 0 then ((wharfagelaw0_Num.f bt225.2).bind fun t229 => (some (t229 == 0))) else (none))) else (none))))) else (none))) = some r := H
      have A34 := Aside0.mk A340
      clear A340
      replace H := Option.bind_eq_some_iff.mp H
      obtain ⟨⟨t225, t226⟩, A350, H⟩ := H
      replace H : (if t221 = true then (if t223 = true then (none) else (if t225 = true then (none) else ((wharfagelaw0_Num.f t222).bind fun t227 => (if t227 = 0 then ((wharfagelaw0_Num.f t224).bind fun t228 => (if t228 = 0 then ((wharfagelaw0_Num.f t226).bind fun t229 => (some (t229 == 0))) else (none))) else (none))))) else (none)) = some r := H
      have A35 := Aside0.mk A350
      clear A350
      by_cases c36 : t221 = true
      · subst c36
        have H1 : (if t223 = true then (none) else (if t225 = true then (none) else ((wharfagelaw0_Num.f t222).bind fun t227 => (if t227 = 0 then ((wharfagelaw0_Num.f t224).bind fun t228 => (if t228 = 0 then ((wharfagelaw0_Num.f t226).bind fun t229 => (some (t229 == 0))) else (none))) else (none))))) = some r := by rw [if_pos rfl] at H; exact H
        clear H
        have H := H1
        clear H1
        by_cases c37 : t223 = true
        · subst c37
          have H1 : (none) = some r := by rw [if_pos rfl] at H; exact H
          clear H
          have H := H1
          clear H1
          exact absurd H (by simp)
        · replace c37 := Bool.eq_false_iff.mpr c37
          subst c37
          have H1 : (if t225 = true then (none) else ((wharfagelaw0_Num.f t222).bind fun t227 => (if t227 = 0 then ((wharfagelaw0_Num.f t224).bind fun t228 => (if t228 = 0 then ((wharfagelaw0_Num.f t226).bind fun t229 => (some (t229 == 0))) else (none))) else (none)))) = some r := by rw [if_neg (show ¬ (false = true) by decide)] at H; exact H
          clear H
          have H := H1
          clear H1
          by_cases c38 : t225 = true
          · subst c38
            have H1 : (none) = some r := by rw [if_pos rfl] at H; exact H
            clear H
            have H := H1
            clear H1
            exact absurd H (by simp)
          · replace c38 := Bool.eq_false_iff.mpr c38
            subst c38
            have H1 : ((wharfagelaw0_Num.f t222).bind fun t227 => (if t227 = 0 then ((wharfagelaw0_Num.f t224).bind fun t228 => (if t228 = 0 then ((wharfagelaw0_Num.f t226).bind fun t229 => (some (t229 == 0))) else (none))) else (none))) = some r := by rw [if_neg (show ¬ (false = true) by decide)] at H; exact H
            clear H
            have H := H1
            clear H1
            replace H := Option.bind_eq_some_iff.mp H
            obtain ⟨t227, A390, H⟩ := H
            replace H : (if t227 = 0 then ((wharfagelaw0_Num.f t224).bind fun t228 => (if t228 = 0 then ((wharfagelaw0_Num.f t226).bind fun t229 => (some (t229 == 0))) else (none))) else (none)) = some r := H
            have A39 := Aside0.mk A390
            clear A390
            by_cases c40 : t227 = 0
            · rw [if_pos c40] at H
              have c40b0 : (t227 == 0) = true := beq_iff_eq.mpr c40
              have c40b1 : (t227 != 0) = false := bne_eq_false_iff_eq.mpr c40
              clear c40
              replace H := Option.bind_eq_some_iff.mp H
              obtain ⟨t228, A410, H⟩ := H
              replace H : (if t228 = 0 then ((wharfagelaw0_Num.f t226).bind fun t229 => (some (t229 == 0))) else (none)) = some r := H
              have A41 := Aside0.mk A410
              clear A410
              by_cases c42 : t228 = 0
              · rw [if_pos c42] at H
                have c42b0 : (t228 == 0) = true := beq_iff_eq.mpr c42
                have c42b1 : (t228 != 0) = false := bne_eq_false_iff_eq.mpr c42
                clear c42
                replace H := Option.bind_eq_some_iff.mp H
                obtain ⟨t229, A430, H⟩ := H
                replace H : (some (t229 == 0)) = some r := H
                have A43 := Aside0.mk A430
                clear A430
                obtain rfl := Option.some.inj H
                go_enter Try.func4, Try.ntmps4
                go_wp2_with (first | ((with_reducible refine gate_dst (N := 3) rfl ?_); refine box_event ?hg (N := 3) ?hd (cs := #[.int .i64 a0_0, .int .i64 a0_1, .int .i64 a0_2, .int .i64 a0_3]) (t := 23) ?hr ?_; (case hd => rfl); (case hg => rfl); (case hr => first | (go_simp; done) | (go_simp; rfl)); intro gb200 hg w44 hbox hb; have n0_ := Aside0.mk (below_step (by repeat (first | (with_reducible first | exact HB.out | apply below_alloc | apply pw_below_drewN | apply below_drew1) | exact HB.out)) hb); have n1_ := Aside0.mk (hbox); have n2_ := Aside0.mk ((by rw [hg]; exact (below_size (by repeat (first | (with_reducible first | exact HB.out | apply below_alloc | apply pw_below_drewN | apply below_drew1) | exact HB.out))) : w.heap.size ≤ gb200)); have n3_ := Aside0.mk ((by rw [hg]; exact (below_size (by repeat (first | (with_reducible first | exact HB.out | apply below_alloc | apply pw_below_drewN | apply below_drew1) | exact HB.out))) : w.heap.size ≤ gb200)); clear HB; have HB := n0_; have BK200 := n1_; have GW200 := n2_; have GE200 := n3_; clear n0_ n1_ n2_ n3_; clear hb hbox hg) | ((with_reducible refine gate_callee (f := 24) rfl ?_); refine goesL_ (some 20) rfl rfl Try.func24 (by kernel_rfl) rfl #[] rfl (by (try simp only [List.map_toArray, List.map_cons, List.map_nil]); first | done | rfl | (simp only [List.length_drop, List.length_take]; rfl)) ?_; (with_reducible refine (wharfagelaw7_awake.calls k  true _ A4.out).mono ?_); rintro e w45 ⟨rfl, hb⟩; refine ⟨_, rfl, ?_⟩; have n0_ := Aside0.mk (blk_below (g := gb200) (o := .cells #[.int .i64 a0_0, .int .i64 a0_1, .int .i64 a0_2, .int .i64 a0_3] 23 (0, 0)) (by (with_reducible repeat (first | refine blk_drewN ?_ _ | refine blk_drew ?_ | refine blk_alloc ?_ _)); exact BK200.out) hb); have n1_ := Aside0.mk (below_step (by repeat (first | (with_reducible first | exact HB.out | apply below_alloc | apply pw_below_drewN | apply below_drew1 | refine below_set ?_ GE200.out) | exact HB.out)) hb); clear BK200; clear HB; have BK200 := n0_; have HB := n1_; clear n0_ n1_; (try clear hb); (try clear hb2); (try clear hk); (try clear hi); have hcz46_0 : w45.cell? ⟨gb200, 0, none⟩ = some (.int .i64 a0_0) := (blk_cell BK200.out 0).trans rfl; have hcz46_1 : w45.cell? ⟨gb200, 1, none⟩ = some (.int .i64 a0_1) := (blk_cell BK200.out 1).trans rfl; have hcz46_2 : w45.cell? ⟨gb200, 2, none⟩ = some (.int .i64 a0_2) := (blk_cell BK200.out 2).trans rfl; have hcz46_3 : w45.cell? ⟨gb200, 3, none⟩ = some (.int .i64 a0_3) := (blk_cell BK200.out 3).trans rfl; have hfz46_0 := blk_frozen BK200.out 0; have hfz46_1 := blk_frozen BK200.out 1; have hfz46_2 := blk_frozen BK200.out 2; have hfz46_3 := blk_frozen BK200.out 3) | ((with_reducible refine gate_callee (f := 15) rfl ?_); refine goesL_ (some 24) rfl rfl Try.func15 (by kernel_rfl) rfl #[.agg #[.int .i64 a0_0, .int .i64 a0_1, .int .i64 a0_2, .int .i64 a0_3]] rfl (by (try simp only [List.map_toArray, List.map_cons, List.map_nil]); first | done | rfl | (simp only [List.length_drop, List.length_take]; rfl)) ?_; (with_reducible refine (report_Put.calls k a0_0 a0_1 a0_2 a0_3 t202 t203 _ A6.out).mono ?_); rintro e w47 ⟨rfl, hb⟩; refine ⟨_, rfl, ?_⟩; have n0_ := Aside0.mk (blk_below (g := gb200) (o := .cells #[.int .i64 a0_0, .int .i64 a0_1, .int .i64 a0_2, .int .i64 a0_3] 23 (0, 0)) (by (with_reducible repeat (first | refine blk_drewN ?_ _ | refine blk_drew ?_ | refine blk_alloc ?_ _)); exact BK200.out) hb); have n1_ := Aside0.mk (below_step (by repeat (first | (with_reducible first | exact HB.out | apply below_alloc | apply pw_below_drewN | apply below_drew1 | refine below_set ?_ GE200.out) | exact HB.out)) hb); clear BK200; clear HB; have BK200 := n0_; have HB := n1_; clear n0_ n1_; (try clear hb); (try clear hb2); (try clear hk); (try clear hi)) | ((with_reducible refine gate_callee (f := 21) rfl ?_); refine goesL_ (some 28) rfl rfl Try.func21 (by kernel_rfl) rfl #[.int .i64 t203] rfl (by (try simp only [List.map_toArray, List.map_cons, List.map_nil]); first | done | rfl | (simp only [List.length_drop, List.length_take]; rfl)) ?_; (with_reducible refine (wharfagelaw0_Num.calls t203 t204 _ A7.out).mono ?_); rintro e w' ⟨rfl, ⟨nd, rfl⟩⟩; refine ⟨_, rfl, ?_⟩) | ((with_reducible refine gate_callee (f := 19) rfl ?_); refine goesL_ (some 57) rfl rfl Try.func19 (by kernel_rfl) rfl #[.int .i64 (Int.tmod (wrap64 ((Go.bits .and .i64 a1 65535) + (wrap64 (1 + (wrap64 (Int.tmod (IntKind.u64.wrap (a2)) 32767)))))) 65536), .int .i64 (Go.bits .and .i64 a1 65535)] rfl (by (try simp only [List.map_toArray, List.map_cons, List.map_nil]); first | done | rfl | (simp only [List.length_drop, List.length_take]; rfl)) ?_; (with_reducible refine (report_Newer.calls (Int.tmod (wrap64 ((Go.bits .and .i64 a1 65535) + (wrap64 (1 + (wrap64 (Int.tmod (IntKind.u64.wrap (a2)) 32767)))))) 65536) (Go.bits .and .i64 a1 65535) true t222 _ A33.out).mono ?_); rintro e w' ⟨rfl, ⟨nd, rfl⟩⟩; refine ⟨_, rfl, ?_⟩) | ((with_reducible refine gate_callee (f := 19) rfl ?_); refine goesL_ (some 63) rfl rfl Try.func19 (by kernel_rfl) rfl #[.int .i64 (Go.bits .and .i64 a1 65535), .int .i64 (Int.tmod (wrap64 ((Go.bits .and .i64 a1 65535) + (wrap64 (1 + (wrap64 (Int.tmod (IntKind.u64.wrap (a2)) 32767)))))) 65536)] rfl (by (try simp only [List.map_toArray, List.map_cons, List.map_nil]); first | done | rfl | (simp only [List.length_drop, List.length_take]; rfl)) ?_; (with_reducible refine (report_Newer.calls (Go.bits .and .i64 a1 65535) (Int.tmod (wrap64 ((Go.bits .and .i64 a1 65535) + (wrap64 (1 + (wrap64 (Int.tmod (IntKind.u64.wrap (a2)) 32767)))))) 65536) false t224 _ A34.out).mono ?_); rintro e w' ⟨rfl, ⟨nd, rfl⟩⟩; refine ⟨_, rfl, ?_⟩) | ((with_reducible refine gate_callee (f := 19) rfl ?_); refine goesL_ (some 69) rfl rfl Try.func19 (by kernel_rfl) rfl #[.int .i64 (Go.bits .and .i64 a1 65535), .int .i64 (Go.bits .and .i64 a1 65535)] rfl (by (try simp only [List.map_toArray, List.map_cons, List.map_nil]); first | done | rfl | (simp only [List.length_drop, List.length_take]; rfl)) ?_; (with_reducible refine (report_Newer.calls (Go.bits .and .i64 a1 65535) (Go.bits .and .i64 a1 65535) false t226 _ A35.out).mono ?_); rintro e w' ⟨rfl, ⟨nd, rfl⟩⟩; refine ⟨_, rfl, ?_⟩) | (go_at_call 21; (with_reducible refine (wharfagelaw0_Num.calls t222 t227 _ A39.out).mono ?_); rintro e w' ⟨rfl, ⟨nd, rfl⟩⟩) | (go_at_call 21; (with_reducible refine (wharfagelaw0_Num.calls t224 t228 _ A41.out).mono ?_); rintro e w' ⟨rfl, ⟨nd, rfl⟩⟩) | (go_at_call 21; (with_reducible refine (wharfagelaw0_Num.calls t226 t229 _ A43.out).mono ?_); rintro e w' ⟨rfl, ⟨nd, rfl⟩⟩))
                go_ret
                exact ⟨by first | rfl | (simp [errW_none, errW_some] <;> rfl) | (simp [*, errW_none, errW_some] <;> rfl), by repeat (first | (with_reducible first | exact HB.out | apply below_alloc | apply pw_below_drewN | apply below_drew1 | refine below_set ?_ GE200.out) | exact HB.out)⟩
              · rw [if_neg c42] at H
                exact absurd H (by simp)
            · rw [if_neg c40] at H
              exact absurd H (by simp)
      · replace c36 := Bool.eq_false_iff.mpr c36
        subst c36
        have H1 : (none) = some r := by rw [if_neg (show ¬ (false = true) by decide)] at H; exact H
        clear H
        have H := H1
        clear H1
        exact absurd H (by simp)
  · replace c5 := Bool.eq_false_iff.mpr c5
    subst c5
    have H1 : (none) = some r := by rw [if_neg (show ¬ (false = true) by decide)] at H; exact H
    clear H
    have H := H1
    clear H1
    exact absurd H (by simp)

end Go.Proofs.Ytnocfhnandedoaa.PReport
