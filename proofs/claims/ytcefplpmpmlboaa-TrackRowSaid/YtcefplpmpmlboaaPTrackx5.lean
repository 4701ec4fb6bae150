/- Contracts: what calls of these functions of the program do, each as a plain function; written by a program of this session. -/
import Derived.Test.YtcefplpmpmlboaaPTrackx0
import Derived.Test.YtcefplpmpmlboaaPTrackx1
import Derived.Test.YtcefplpmpmlboaaPTrackx2
import Derived.Test.YtcefplpmpmlboaaPTrackx4
namespace Go.Proofs.Ytcefplpmpmlboaa.PTrack
open Go.RowKit Go.Proofs.YtcefplpmpmlboaaW.PrintWords Go.Proofs.YtcefplpmpmlboaaW.PrintLast Go.Proofs.YtcefplpmpmlboaaW.PrintMore
attribute [local go_sem] max2_int min2_int max_two min_two max_three min_three max_four min_four   -- for this text's walks alone
set_option linter.unusedVariables false
set_option linter.unusedSimpArgs false

/-! ### wharfagelaw14_awake: function 25 -/
def wharfagelaw14_awake.f  : Option (Bool) := (track_Step.f 0 17).bind fun bt105 => ((track_Step.f 1 1).bind fun bt107 => ((track_Step.f 2 2).bind fun bt109 => ((track_Step.f 0 6).bind fun bt111 => ((track_Limit.f 0).bind fun bt113 => ((track_Limit.f 1).bind fun bt115 => ((track_Step.f 3 0).bind fun bt117 => ((track_Step.f 0 64).bind fun bt119 => (if bt105.1 = 1 then ((wharfagelaw0_Num.f bt105.2).bind fun t121 => (if t121 = 0 then (if bt107.1 = 2 then ((wharfagelaw0_Num.f bt107.2).bind fun t122 => (if t122 = 0 then (if bt109.1 = 0 then ((wharfagelaw0_Num.f bt109.2).bind fun t123 => (if t123 = 0 then (if bt111.1 = 2 then ((wharfagelaw0_Num.f bt111.2).bind fun t124 => (if t124 = 0 then (if bt113.1 = 40 then ((wharfagelaw0_Num.f bt113.2).bind fun t125 => (if t125 = 0 then (if bt115.1 = 6 then ((wharfagelaw0_Num.f bt115.2).bind fun t126 => (if t126 = 0 then ((wharfagelaw0_Num.f bt117.2).bind fun t127 => (if t127 = 1400 then ((wharfagelaw0_Num.f bt119.2).bind fun t128 => (some (t128 == 1400))) else (none))) else (none))) else (none)) else (none))) else (none)) else (none))) else (none)) else (none))) else (none)) else (none))) else (none)) else (none))) else (none)))))))))
set_option maxHeartbeats 8000000 in
set_option maxRecDepth 100000 in
theorem wharfagelaw14_awake.calls  (r : Bool) (w : World) (h : wharfagelaw14_awake.f  = some r) :
    Calls Try.prog 25 #[] w fun e w' => e = .returned (.bool r) ∧ Below w.heap.size w w' := by
  have HB := Aside0.mk (Below.refl w.heap.size w)
  have H : ((track_Step.f 0 17).bind fun bt105 => ((track_Step.f 1 1).bind fun bt107 => ((track_Step.f 2 2).bind fun bt109 => ((track_Step.f 0 6).bind fun bt111 => ((track_Limit.f 0).bind fun bt113 => ((track_Limit.f 1).bind fun bt115 => ((track_Step.f 3 0).bind fun bt117 => ((track_Step.f 0 64).bind fun bt119 => (if bt105.1 = 1 then ((wharfagelaw0_Num.f bt105.2).bind fun t121 => (if t121 = 0 then (if bt107.1 = 2 then ((wharfagelaw0_Num.f bt107.2).bind fun t122 => (if t122 = 0 then (if bt109.1 = 0 then ((wharfagelaw0_Num.f bt109.2).bind fun t123 => (if t123 = 0 then (if bt111.1 = 2 then ((wharfagelaw0_Num.f bt111.2).bind fun t124 => (if t124 = 0 then (if bt113.1 = 40 then ((wharfagelaw0_Num.f bt113.2).bind fun t125 => (if t125 = 0 then (if bt115.1 = 6 then ((wharfagelaw0_Num.f bt115.2).bind fun t126 => (if t126 = 0 then ((wharfagelaw0_Num.f bt117.2).bind fun t127 => (if t127 = 1400 then ((wharfagelaw0_Num.f bt119.2).bind fun t128 => (some (t128 == 1400))) else (none))) else (none))) else (none)) else (none))) else (none)) else (none))) else (none)) else (none))) else (none)) else (none))) else (none)) else (none))) else (none)))))))))) = some r := h
  clear h
  replace H := Option.bind_eq_some_iff.mp H
  obtain ⟨⟨t105, t106⟩, A10, H⟩ := H
  replace H : ((track_Step.f 1 1).bind fun bt107 => ((track_Step.f 2 2).bind fun bt109 => ((track_Step.f 0 6).bind fun bt111 => ((track_Limit.f 0).bind fun bt113 => ((track_Limit.f 1).bind fun bt115 => ((track_Step.f 3 0).bind fun bt117 => ((track_Step.f 0 64).bind fun bt119 => (if t105 = 1 then ((wharfagelaw0_Num.f t106).bind fun t121 => (if t121 = 0 then (if bt107.1 = 2 then ((wharfagelaw0_Num.f bt107.2).bind fun t122 => (if t122 = 0 then (if bt109.1 = 0 then ((wharfagelaw0_Num.f bt109.2).bind fun t123 => (if t123 = 0 then (if bt111.1 = 2 then ((wharfagelaw0_Num.f bt111.2).bind fun t124 => (if t124 = 0 then (if bt113.1 = 40 then ((wharfagelaw0_Num.f bt113.2).bind fun t125 => (if t125 = 0 then (if bt115.1 = 6 then ((wharfagelaw0_Num.f bt115.2).bind fun t126 => (if t126 = 0 then ((wharfagelaw0_Num.f bt117.2).bind fun t127 => (if t127 = 1400 then ((wharfagelaw0_Num.f bt119.2).bind fun t128 => (some (t128 == 1400))) else (none))) else (none))) else (none)) else (none))) else (none)) else (none))) else (none)) else (none))) else (none)) else (none))) else (none)) else (none))) else (none))))))))) = some r := H
  have A1 := Aside0.mk A10
  clear A10
  replace H := Option.bind_eq_some_iff.mp H
  obtain ⟨⟨t107, t108⟩, A20, H⟩ := H
  replace H : ((track_Step.f 2 2).bind fun bt109 => ((track_Step.f 0 6).bind fun bt111 => ((track_Limit.f 0).bind fun bt113 => ((track_Limit.f 1).bind fun bt115 => ((track_Step.f 3 0).bind fun bt117 => ((track_Step.f 0 64).bind fun bt119 => (if t105 = 1 then ((wharfagelaw0_Num.f t106).bind fun t121 => (if t121 = 0 then (if t107 = 2 then ((wharfagelaw0_Num.f t108).bind fun t122 => (if t122 = 0 then (if bt109.1 = 0 then ((wharfagelaw0_Num.f bt109.2).bind fun t123 => (if t123 = 0 then (if bt111.1 = 2 then ((wharfagelaw0_Num.f bt111.2).bind fun t124 => (if t124 = 0 then (if bt113.1 = 40 then ((wharfagelaw0_Num.f bt113.2).bind fun t125 => (if t125 = 0 then (if bt115.1 = 6 then ((wharfagelaw0_Num.f bt115.2).bind fun t126 => (if t126 = 0 then ((wharfagelaw0_Num.f bt117.2).bind fun t127 => (if t127 = 1400 then ((wharfagelaw0_Num.f bt119.2).bind fun t128 => (some (t128 == 1400))) else (none))) else (none))) else (none)) else (none))) else (none)) else (none))) else (none)) else (none))) else (none)) else (none))) else (none)) else (none))) else (none)))))))) = some r := H
  have A2 := Aside0.mk A20
  clear A20
  replace H := Option.bind_eq_some_iff.mp H
  obtain ⟨⟨t109, t110⟩, A30, H⟩ := H
  replace H : ((track_Step.f 0 6).bind fun bt111 => ((track_Limit.f 0).bind fun bt113 => ((track_Limit.f 1).bind fun bt115 => ((track_Step.f 3 0).bind fun bt117 => ((track_Step.f 0 64).bind fun bt119 => (if t105 = 1 then ((wharfagelaw0_Num.f t106).bind fun t121 => (if t121 = 0 then (if t107 = 2 then ((wharfagelaw0_Num.f t108).bind fun t122 => (if t122 = 0 then (if t109 = 0 then ((wharfagelaw0_Num.f t110).bind fun t123 => (if t123 = 0 then (if bt111.1 = 2 then ((wharfagelaw0_Num.f bt111.2).bind fun t124 => (if t124 = 0 then (if bt113.1 = 40 then ((wharfagelaw0_Num.f bt113.2).bind fun t125 => (if t125 = 0 then (if bt115.1 = 6 then ((wharfagelaw0_Num.f bt115.2).bind fun t126 => (if t126 = 0 then ((wharfagelaw0_Num.f bt117.2).bind fun t127 => (if t127 = 1400 then ((wharfagelaw0_Num.f bt119.2).bind fun t128 => (some (t128 == 1400))) else (none))) else (none))) else (none)) else (none))) else (none)) else (none))) else (none)) else (none))) else (none)) else (none))) else (none)) else (none))) else (none))))))) = some r := H
  have A3 := Aside0.mk A30
  clear A30
  replace H := Option.bind_eq_some_iff.mp H
  obtain ⟨⟨t111, t112⟩, A40, H⟩ := H
  replace H : ((track_Limit.f 0).bind fun bt113 => ((track_Limit.f 1).bind fun bt115 => ((track_Step.f 3 0).bind fun bt117 => ((track_Step.f 0 64).bind fun bt119 => (if t105 = 1 then ((wharfagelaw0_Num.f t106).bind fun t121 => (if t121 = 0 then (if t107 = 2 then ((wharfagelaw0_Num.f t108).bind fun t122 => (if t122 = 0 then (if t109 = 0 then ((wharfagelaw0_Num.f t110).bind fun t123 => (if t123 = 0 then (if t111 = 2 then ((wharfagelaw0_Num.f t112).bind fun t124 => (if t124 = 0 then (if bt113.1 = 40 then ((wharfagelaw0_Num.f bt113.2).bind fun t125 => (if t125 = 0 then (if bt115.1 = 6 then ((wharfagelaw0_Num.f bt115.2).bind fun t126 => (if t126 = 0 then ((wharfagelaw0_Num.f bt117.2).bind fun t127 => (if t127 = 1400 then ((wharfagelaw0_Num.f bt119.2).bind fun t128 => (some (t128 == 1400))) else (none))) else (none))) else (none)) else (none))) else (none)) else (none))) else (none)) else (none))) else (none)) else (none))) else (none)) else (none))) else (none)))))) = some r := H
  have A4 := Aside0.mk A40
  clear A40
  replace H := Option.bind_eq_some_iff.mp H
  obtain ⟨⟨t113, t114⟩, A50, H⟩ := H
  replace H : ((track_Limit.f 1).bind fun bt115 => ((track_Step.f 3 0).bind fun bt117 => ((track_Step.f 0 64).bind fun bt119 => (if t105 = 1 then ((wharfagelaw0_Num.f t106).bind fun t121 => (if t121 = 0 then (if t107 = 2 then ((wharfagelaw0_Num.f t108).bind fun t122 => (if t122 = 0 then (if t109 = 0 then ((wharfagelaw0_Num.f t110).bind fun t123 => (if t123 = 0 then (if t111 = 2 then ((wharfagelaw0_Num.f t112).bind fun t124 => (if t124 = 0 then (if t113 = 40 then ((wharfagelaw0_Num.f t114).bind fun t125 => (if t125 = 0 then (if bt115.1 = 6 then ((wharfagelaw0_Num.f bt115.2).bind fun t126 => (if t126 = 0 then ((wharfagelaw0_Num.f bt117.2).bind fun t127 => (if t127 = 1400 then ((wharfagelaw0_Num.f bt119.2).bind fun t128 => (some (t128 == 1400))) else (none))) else (none))) else (none)) else (none))) else (none)) else (none))) else (none)) else (none))) else (none)) else (none))) else (none)) else (none))) else (none))))) = some r := H
  have A5 := Aside0.mk A50
  clear A50
  replace H := Option.bind_eq_some_iff.mp H
  obtain ⟨⟨t115, t116⟩, A60, H⟩ := H
  replace H : ((track_Step.f 3 0).bind fun bt117 => ((track_Step.f 0 64).bind fun bt119 => (if t105 = 1 then ((wharfagelaw0_Num.f t106).bind fun t121 => (if t121 = 0 then (if t107 = 2 then ((wharfagelaw0_Num.f t108).bind fun t122 => (if t122 = 0 then (if t109 = 0 then ((wharfagelaw0_Num.f t110).bind fun t123 => (if t123 = 0 then (if t111 = 2 then ((wharfagelaw0_Num.f t112).bind fun t124 => (if t124 = 0 then (if t113 = 40 then ((wharfagelaw0_Num.f t114).bind fun t125 => (if t125 = 0 then (if t115 = 6 then ((wharfagelaw0_Num.f t116).bind fun t126 => (if t126 = 0 then ((wharfagelaw0_Num.f bt117.2).bind fun t127 => (if t127 = 1400 then ((wharfagelaw0_Num.f bt119.2).bind fun t128 => (some (t128 == 1400))) else (none))) else (none))) else (none)) else (none))) else (none)) else (none))) else (none)) else (none))) else (none)) else (none))) else (none)) else (none))) else (none)))) = some r := H
  have A6 := Aside0.mk A60
  clear A60
  replace H := Option.bind_eq_some_iff.mp H
  obtain ⟨⟨t117, t118⟩, A70, H⟩ := H
  replace H : ((track_Step.f 0 64).bind fun bt119 => (if t105 = 1 then ((wharfagelaw0_Num.f t106).bind fun t121 => (if t121 = 0 then (if t107 = 2 then ((wharfagelaw0_Num.f t108).bind fun t122 => (if t122 = 0 then (if t109 = 0 then ((wharfagelaw0_Num.f t110).bind fun t123 => (if t123 = 0 then (if t111 = 2 then ((wharfagelaw0_Num.f t112).bind fun t124 => (if t124 = 0 then (if t113 = 40 then ((wharfagelaw0_Num.f t114).bind fun t125 => (if t125 = 0 then (if t115 = 6 then ((wharfagelaw0_Num.f t116).bind fun t126 => (if t126 = 0 then ((wharfagelaw0_Num.f t118).bind fun t127 => (if t127 = 1400 then ((wharfagelaw0_Num.f bt119.2).bind fun t128 => (some (t128 == 1400))) else (none))) else (none))) else (none)) else (none))) else (none)) else (none))) else (none)) else (none))) else (none)) else (none))) else (none)) else (none))) else (none))) = some r := H
  have A7 := Aside0.mk A70
  clear A70
  replace H := Option.bind_eq_some_iff.mp H
  obtain ⟨⟨t119, t120⟩, A80, H⟩ := H
  replace H : (if t105 = 1 then ((wharfagelaw0_Num.f t106).bind fun t121 => (if t121 = 0 then (if t107 = 2 then ((wharfagelaw0_Num.f t108).bind fun t122 => (if t122 = 0 then (if t109 = 0 then ((wharfagelaw0_Num.f t110).bind fun t123 => (if t123 = 0 then (if t111 = 2 then ((wharfagelaw0_Num.f t112).bind fun t124 => (if t124 = 0 then (if t113 = 40 then ((wharfagelaw0_Num.f t114).bind fun t125 => (if t125 = 0 then (if t115 = 6 then ((wharfagelaw0_Num.f t116).bind fun t126 => (if t126 = 0 then ((wharfagelaw0_Num.f t118).bind fun t127 => (if t127 = 1400 then ((wharfagelaw0_Num.f t120).bind fun t128 => (some (t128 == 1400))) else (none))) else (none))) else (none)) else (none))) else (none)) else (none))) else (none)) else (none))) else (none)) else (none))) else (none)) else (none))) else (none)) = some r := H
  have A8 := Aside0.mk A80
  clear A80
  by_cases c9 : t105 = 1
  · rw [if_pos c9] at H
    have c9b0 : (t105 == 1) = true := beq_iff_eq.mpr c9
    have c9b1 : (t105 != 1) = false := bne_eq_false_iff_eq.mpr c9
    clear c9
    replace H := Option.bind_eq_some_iff.mp H
    obtain ⟨t121, A100, H⟩ := H
    replace H : (if t121 = 0 then (if t107 = 2 then ((wharfagelaw0_Num.f t108).bind fun t122 => (if t122 = 0 then (if t109 = 0 then ((wharfagelaw0_Num.f t110).bind fun t123 => (if t123 = 0 then (if t111 = 2 then ((wharfagelaw0_Num.f t112).bind fun t124 => (if t124 = 0 then (if t113 = 40 then ((wharfagelaw0_Num.f t114).bind fun t125 => (if t125 = 0 then (if t115 = 6 then ((wharfagelaw0_Num.f t116).bind fun t126 => (if t126 = 0 then ((wharfagelaw0_Num.f t118).bind fun t127 => (if t127 = 1400 then ((wharfagelaw0_Num.f t120).bind fun t128 => (some (t128 == 1400))) else (none))) else (none))) else (none)) else (none))) else (none)) else (none))) else (none)) else (none))) else (none)) else (none))) else (none)) else (none)) = some r := H
    have A10 := Aside0.mk A100
    clear A100
    by_cases c11 : t121 = 0
    · rw [if_pos c11] at H
      have c11b0 : (t121 == 0) = true := beq_iff_eq.mpr c11
      have c11b1 : (t121 != 0) = false := bne_eq_false_iff_eq.mpr c11
      clear c11
      by_cases c12 : t107 = 2
      · rw [if_pos c12] at H
        have c12b0 : (t107 == 2) = true := beq_iff_eq.mpr c12
        have c12b1 : (t107 != 2) = false := bne_eq_false_iff_eq.mpr c12
        clear c12
        replace H := Option.bind_eq_some_iff.mp H
        obtain ⟨t122, A130, H⟩ := H
        replace H : (if t122 = 0 then (if t109 = 0 then ((wharfagelaw0_Num.f t110).bind fun t123 => (if t123 = 0 then (if t111 = 2 then ((wharfagelaw0_Num.f t112).bind fun t124 => (if t124 = 0 then (if t113 = 40 then ((wharfagelaw0_Num.f t114).bind fun t125 => (if t125 = 0 then (if t115 = 6 then ((wharfagelaw0_Num.f t116).bind fun t126 => (if t126 = 0 then ((wharfagelaw0_Num.f t118).bind fun t127 => (if t127 = 1400 then ((wharfagelaw0_Num.f t120).bind fun t128 => (some (t128 == 1400))) else (none))) else (none))) else (none)) else (none))) else (none)) else (none))) else (none)) else (none))) else (none)) else (none)) = some r := H
        have A13 := Aside0.mk A130
        clear A130
        by_cases c14 : t122 = 0
        · rw [if_pos c14] at H
          have c14b0 : (t122 == 0) = true := beq_iff_eq.mpr c14
          have c14b1 : (t122 != 0) = false := bne_eq_false_iff_eq.mpr c14
          clear c14
          by_cases c15 : t109 = 0
          · rw [if_pos c15] at H
            have c15b0 : (t109 == 0) = true := beq_iff_eq.mpr c15
            have c15b1 : (t109 != 0) = false := bne_eq_false_iff_eq.mpr c15
            clear c15
            replace H := Option.bind_eq_some_iff.mp H
            obtain ⟨t123, A160, H⟩ := H
            replace H : (if t123 = 0 then (if t111 = 2 then ((wharfagelaw0_Num.f t112).bind fun t124 => (if t124 = 0 then (if t113 = 40 then ((wharfagelaw0_Num.f t114).bind fun t125 => (if t125 = 0 then (if t115 = 6 then ((wharfagelaw0_Num.f t116).bind fun t126 => (if t126 = 0 then ((wharfagelaw0_Num.f t118).bind fun t127 => (if t127 = 1400 then ((wharfagelaw0_Num.f t120).bind fun t128 => (some (t128 == 1400))) else (none))) else (none))) else (none)) else (none))) else (none)) else (none))) else (none)) else (none)) = some r := H
            have A16 := Aside0.mk A160
            clear A160
            by_cases c17 : t123 = 0
            · rw [if_pos c17] at H
              have c17b0 : (t123 == 0) = true := beq_iff_eq.mpr c17
              have c17b1 : (t123 != 0) = false := bne_eq_false_iff_eq.mpr c17
              clear c17
              by_cases c18 : t111 = 2
              · rw [if_pos c18] at H
                have c18b0 : (t111 == 2) = true := beq_iff_eq.mpr c18
                have c18b1 : (t111 != 2) = false := bne_eq_false_iff_eq.mpr c18
                clear c18
                replace H := Option.bind_eq_some_iff.mp H
                obtain ⟨t124, A190, H⟩ := H
                replace H : (if t124 = 0 then (if t113 = 40 then ((wharfagelaw0_Num.f t114).bind fun t125 => (if t125 = 0 then (if t115 = 6 then ((wharfagelaw0_Num.f t116).bind fun t126 => (if t126 = 0 then ((wharfagelaw0_Num.f t118).bind fun t127 => (if t127 = 1400 then ((wharfagelaw0_Num.f t120).bind fun t128 => (some (t128 == 1400))) else (none))) else (none))) else (none)) else (none))) else (none)) else (none)) = some r := H
                have A19 := Aside0.mk A190
                clear A190
                by_cases c20 : t124 = 0
                · rw [if_pos c20] at H
                  have c20b0 : (t124 == 0) = true := beq_iff_eq.mpr c20
                  have c20b1 : (t124 != 0) = false := bne_eq_false_iff_eq.mpr c20
                  clear c20
                  by_cases c21 : t113 = 40
                  · rw [if_pos c21] at H
                    have c21b0 : (t113 == 40) = true := beq_iff_eq.mpr c21
                    have c21b1 : (t113 != 40) = false := bne_eq_false_iff_eq.mpr c21
                    clear c21
                    replace H := Option.bind_eq_some_iff.mp H
                    obtain ⟨t125, A220, H⟩ := H
                    replace H : (if t125 = 0 then (if t115 = 6 then ((wharfagelaw0_Num.f t116).bind fun t126 => (if t126 = 0 then ((wharfagelaw0_Num.f t118).bind fun t127 => (if t127 = 1400 then ((wharfagelaw0_Num.f t120).bind fun t128 => (some (t128 == 1400))) else (none))) else (none))) else (none)) else (none)) = some r := H
                    have A22 := Aside0.mk A220
                    clear A220
                    by_cases c23 : t125 = 0
                    · rw [if_pos c23] at H
                      have c23b0 : (t125 == 0) = true := beq_iff_eq.mpr c23
                      have c23b1 : (t125 != 0) = false := bne_eq_false_iff_eq.mpr c23
                      clear c23
                      by_cases c24 : t115 = 6
                      · rw [if_pos c24] at H
                        have c24b0 : (t115 == 6) = true := beq_iff_eq.mpr c24
                        have c24b1 : (t115 != 6) = false := bne_eq_false_iff_eq.mpr c24
                        clear c24
                        replace H := Option.bind_eq_some_iff.mp H
                        obtain ⟨t126, A250, H⟩ := H
                        replace H : (if t126 = 0 then ((wharfagelaw0_Num.f t118).bind fun t127 => (if t127 = 1400 then ((wharfagelaw0_Num.f t120).bind fun t128 => (some (t128 == 1400))) else (none))) else (none)) = some r := H
                        have A25 := Aside0.mk A250
                        clear A250
                        by_cases c26 : t126 = 0
                        · rw [if_pos c26] at H
                          have c26b0 : (t126 == 0) = true := beq_iff_eq.mpr c26
                          have c26b1 : (t126 != 0) = false := bne_eq_false_iff_eq.mpr c26
                          clear c26
                          replace H := Option.bind_eq_some_iff.mp H
                          obtain ⟨t127, A270, H⟩ := H
                          replace H : (if t127 = 1400 then ((wharfagelaw0_Num.f t120).bind fun t128 => (some (t128 == 1400))) else (none)) = some r := H
                          have A27 := Aside0.mk A270
                          clear A270
                          by_cases c28 : t127 = 1400
                          · rw [if_pos c28] at H
                            have c28b0 : (t127 == 1400) = true := beq_iff_eq.mpr c28
                            have c28b1 : (t127 != 1400) = false := bne_eq_false_iff_eq.mpr c28
                            clear c28
                            replace H := Option.bind_eq_some_iff.mp H
                            obtain ⟨t128, A290, H⟩ := H
                            replace H : (some (t128 == 1400)) = some r := H
                            have A29 := Aside0.mk A290
                            clear A290
                            obtain rfl := Option.some.inj H
                            go_enter Try.func25, Try.ntmps25
                            go_wp2_with (first | ((with_reducible refine gate_callee (f := 21) rfl ?_); refine goesL_ (some 18) rfl rfl Try.func21 (by kernel_rfl) rfl #[.int .i64 0, .int .i64 17] rfl (by (try simp only [List.map_toArray, List.map_cons, List.map_nil]); first | done | rfl | (simp only [List.length_drop, List.length_take]; rfl)) ?_; (with_reducible refine (track_Step.calls 0 17 t105 t106 _ A1.out).mono ?_); rintro e w30 ⟨rfl, hb⟩; refine ⟨_, rfl, ?_⟩; have n0_ := Aside0.mk (below_step (by repeat (first | (with_reducible first | exact HB.out | apply below_alloc | apply pw_below_drewN | apply below_drew1) | exact HB.out)) hb); clear HB; have HB := n0_; clear n0_; (try clear hb); (try clear hb2); (try clear hk); (try clear hi)) | ((with_reducible refine gate_callee (f := 21) rfl ?_); refine goesL_ (some 22) rfl rfl Try.func21 (by kernel_rfl) rfl #[.int .i64 1, .int .i64 1] rfl (by (try simp only [List.map_toArray, List.map_cons, List.map_nil]); first | done | rfl | (simp only [List.length_drop, List.length_take]; rfl)) ?_; (with_reducible refine (track_Step.calls 1 1 t107 t108 _ A2.out).mono ?_); rintro e w31 ⟨rfl, hb⟩; refine ⟨_, rfl, ?_⟩; have n0_ := Aside0.mk (below_step (by repeat (first | (with_reducible first | exact HB.out | apply below_alloc | apply pw_below_drewN | apply below_drew1) | exact HB.out)) hb); clear HB; have HB := n0_; clear n0_; (try clear hb); (try clear hb2); (try clear hk); (try clear hi)) | ((with_reducible refine gate_callee (f := 21) rfl ?_); refine goesL_ (some 26) rfl rfl Try.func21 (by kernel_rfl) rfl #[.int .i64 2, .int .i64 2] rfl (by (try simp only [List.map_toArray, List.map_cons, List.map_nil]); first | done | rfl | (simp only [List.length_drop, List.length_take]; rfl)) ?_; (with_reducible refine (track_Step.calls 2 2 t109 t110 _ A3.out).mono ?_); rintro e w32 ⟨rfl, hb⟩; refine ⟨_, rfl, ?_⟩; have n0_ := Aside0.mk (below_step (by repeat (first | (with_reducible first | exact HB.out | apply below_alloc | apply pw_below_drewN | apply below_drew1) | exact HB.out)) hb); clear HB; have HB := n0_; clear n0_; (try clear hb); (try clear hb2); (try clear hk); (try clear hi)) | ((with_reducible refine gate_callee (f := 21) rfl ?_); refine goesL_ (some 30) rfl rfl Try.func21 (by kernel_rfl) rfl #[.int .i64 0, .int .i64 6] rfl (by (try simp only [List.map_toArray, List.map_cons, List.map_nil]); first | done | rfl | (simp only [List.length_drop, List.length_take]; rfl)) ?_; (with_reducible refine (track_Step.calls 0 6 t111 t112 _ A4.out).mono ?_); rintro e w33 ⟨rfl, hb⟩; refine ⟨_, rfl, ?_⟩; have n0_ := Aside0.mk (below_step (by repeat (first | (with_reducible first | exact HB.out | apply below_alloc | apply pw_below_drewN | apply below_drew1) | exact HB.out)) hb); clear HB; have HB := n0_; clear n0_; (try clear hb); (try clear hb2); (try clear hk); (try clear hi)) | ((with_reducible refine gate_callee (f := 23) rfl ?_); refine goesL_ (some 34) rfl rfl Try.func23 (by kernel_rfl) rfl #[.int .i64 0] rfl (by (try simp only [List.map_toArray, List.map_cons, List.map_nil]); first | done | rfl | (simp only [List.length_drop, List.length_take]; rfl)) ?_; (with_reducible refine (track_Limit.calls 0 t113 t114 _ A5.out).mono ?_); rintro e w' ⟨rfl, ⟨nd, rfl⟩⟩; refine ⟨_, rfl, ?_⟩) | ((with_reducible refine gate_callee (f := 23) rfl ?_); refine goesL_ (some 38) rfl rfl Try.func23 (by kernel_rfl) rfl #[.int .i64 1] rfl (by (try simp only [List.map_toArray, List.map_cons, List.map_nil]); first | done | rfl | (simp only [List.length_drop, List.length_take]; rfl)) ?_; (with_reducible refine (track_Limit.calls 1 t115 t116 _ A6.out).mono ?_); rintro e w' ⟨rfl, ⟨nd, rfl⟩⟩; refine ⟨_, rfl, ?_⟩) | ((with_reducible refine gate_callee (f := 21) rfl ?_); refine goesL_ (some 42) rfl rfl Try.func21 (by kernel_rfl) rfl #[.int .i64 3, .int .i64 0] rfl (by (try simp only [List.map_toArray, List.map_cons, List.map_nil]); first | done | rfl | (simp only [List.length_drop, List.length_take]; rfl)) ?_; (with_reducible refine (track_Step.calls 3 0 t117 t118 _ A7.out).mono ?_); rintro e w34 ⟨rfl, hb⟩; refine ⟨_, rfl, ?_⟩; have n0_ := Aside0.mk (below_step (by repeat (first | (with_reducible first | exact HB.out | apply below_alloc | apply pw_below_drewN | apply below_drew1) | exact HB.out)) hb); clear HB; have HB := n0_; clear n0_; (try clear hb); (try clear hb2); (try clear hk); (try clear hi)) | ((with_reducible refine gate_callee (f := 21) rfl ?_); refine goesL_ (some 46) rfl rfl Try.func21 (by kernel_rfl) rfl #[.int .i64 0, .int .i64 64] rfl (by (try simp only [List.map_toArray, List.map_cons, List.map_nil]); first | done | rfl | (simp only [List.length_drop, List.length_take]; rfl)) ?_; (with_reducible refine (track_Step.calls 0 64 t119 t120 _ A8.out).mono ?_); rintro e w35 ⟨rfl, hb⟩; refine ⟨_, rfl, ?_⟩; have n0_ := Aside0.mk (below_step (by repeat (first | (with_reducible first | exact HB.out | apply below_alloc | apply pw_below_drewN | apply below_drew1) | exact HB.out)) hb); clear HB; have HB := n0_; clear n0_; (try clear hb); (try clear hb2); (try clear hk); (try clear hi)) | (go_at_call 20; (with_reducible refine (wharfagelaw0_Num.calls t106 t121 _ A10.out).mono ?_); rintro e w' ⟨rfl, ⟨nd, rfl⟩⟩) | (go_at_call 20; (with_reducible refine (wharfagelaw0_Num.calls t108 t122 _ A13.out).mono ?_); rintro e w' ⟨rfl, ⟨nd, rfl⟩⟩) | (go_at_call 20; (with_reducible refine (wharfagelaw0_Num.calls t110 t123 _ A16.out).mono ?_); rintro e w' ⟨rfl, ⟨nd, rfl⟩⟩) | (go_at_call 20; (with_reducible refine (wharfagelaw0_Num.calls t112 t124 _ A19.out).mono ?_); rintro e w' ⟨rfl, ⟨nd, rfl⟩⟩) | (go_at_call 20; (with_reducible refine (wharfagelaw0_Num.calls t114 t125 _ A22.out).mono ?_); rintro e w' ⟨rfl, ⟨nd, rfl⟩⟩) | (go_at_call 20; (with_reducible refine (wharfagelaw0_Num.calls t116 t126 _ A25.out).mono ?_); rintro e w' ⟨rfl, ⟨nd, rfl⟩⟩) | (go_at_call 20; (with_reducible refine (wharfagelaw0_Num.calls t118 t127 _ A27.out).mono ?_); rintro e w' ⟨rfl, ⟨nd, rfl⟩⟩) | (go_at_call 20; (with_reducible refine (wharfagelaw0_Num.calls t120 t128 _ A29.out).mono ?_); rintro e w' ⟨rfl, ⟨nd, rfl⟩⟩))
                            go_ret
                            exact ⟨by first | rfl | (simp [errW_none, errW_some] <;> rfl) | (simp [*, errW_none, errW_some] <;> rfl), by repeat (first | (with_reducible first | exact HB.out | apply below_alloc | apply pw_below_drewN | apply below_drew1) | exact HB.out)⟩
                          · rw [if_neg c28] at H
                            exact absurd H (by simp)
                        · rw [if_neg c26] at H
                          exact absurd H (by simp)
                      · rw [if_neg c24] at H
                        exact absurd H (by simp)
                    · rw [if_neg c23] at H
                      exact absurd H (by simp)
                  · rw [if_neg c21] at H
                    exact absurd H (by simp)
                · rw [if_neg c20] at H
                  exact absurd H (by simp)
              · rw [if_neg c18] at H
                exact absurd H (by simp)
            · rw [if_neg c17] at H
              exact absurd H (by simp)
          · rw [if_neg c15] at H
            exact absurd H (by simp)
        · rw [if_neg c14] at H
          exact absurd H (by simp)
      · rw [if_neg c12] at H
        exact absurd H (by simp)
    · rw [if_neg c11] at H
      exact absurd H (by simp)
  · rw [if_neg c9] at H
    exact absurd H (by simp)

end Go.Proofs.Ytcefplpmpmlboaa.PTrack
