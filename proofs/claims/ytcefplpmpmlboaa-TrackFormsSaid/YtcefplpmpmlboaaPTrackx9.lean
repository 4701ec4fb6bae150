/- Contracts: what calls of these functions of the program do, each as a plain function; written by a program of this session. -/
import Derived.Test.YtcefplpmpmlboaaPTrackx0
import Derived.Test.YtcefplpmpmlboaaPTrackx1
import Derived.Test.YtcefplpmpmlboaaPTrackx2
import Derived.Test.YtcefplpmpmlboaaPTrackx4
import Derived.Test.YtcefplpmpmlboaaPTrackx5
namespace Go.Proofs.Ytcefplpmpmlboaa.PTrack
open Go.RowKit Go.Proofs.YtcefplpmpmlboaaW.PrintWords Go.Proofs.YtcefplpmpmlboaaW.PrintLast Go.Proofs.YtcefplpmpmlboaaW.PrintMore
attribute [local go_sem] max2_int min2_int max_two min_two max_three min_three max_four min_four   -- for this text's walks alone
set_option linter.unusedVariables false
set_option linter.unusedSimpArgs false

/-! ### wharfagelaw14_TrackForms: function 12 -/
def wharfagelaw14_TrackForms.f (a0 : Int) : Option (Bool) := (wharfagelaw14_awake.f).bind fun t161 => (if t161 = true then ((track_Step.f (wrap64 (-(wrap64 (1 + (Go.bits .and .i64 a0 1023))))) 0).bind fun bt162 => ((track_Step.f (wrap64 (2 + (wrap64 (1 + (Go.bits .and .i64 a0 1023))))) 0).bind fun bt164 => ((track_Step.f 0 (wrap64 (-(wrap64 (1 + (Go.bits .and .i64 a0 1023)))))).bind fun bt166 => ((track_Step.f 0 (wrap64 (63 + (wrap64 (1 + (Go.bits .and .i64 a0 1023)))))).bind fun bt168 => ((track_Limit.f (wrap64 (-(wrap64 (1 + (Go.bits .and .i64 a0 1023)))))).bind fun bt170 => ((track_Limit.f (wrap64 (2 + (wrap64 (1 + (Go.bits .and .i64 a0 1023)))))).bind fun bt172 => ((wharfagelaw0_Num.f bt162.2).bind fun t174 => (if t174 = 1400 then ((wharfagelaw0_Num.f bt164.2).bind fun t175 => (if t175 = 1400 then ((wharfagelaw0_Num.f bt166.2).bind fun t176 => (if t176 = 1400 then ((wharfagelaw0_Num.f bt168.2).bind fun t177 => (if t177 = 1400 then ((wharfagelaw0_Num.f bt170.2).bind fun t178 => (if t178 = 1400 then ((wharfagelaw0_Num.f bt172.2).bind fun t179 => (some (t179 == 1400))) else (none))) else (none))) else (none))) else (none))) else (none))))))))) else (none))
set_option maxHeartbeats 8000000 in
set_option maxRecDepth 100000 in
theorem wharfagelaw14_TrackForms.calls (a0 : Int) (r : Bool) (w : World) (h : wharfagelaw14_TrackForms.f a0 = some r) :
    Calls Try.prog 12 #[.int .i64 a0] w fun e w' => e = .returned (.bool r) ∧ Below w.heap.size w w' := by
  have HB := Aside0.mk (Below.refl w.heap.size w)
  have H : ((wharfagelaw14_awake.f).bind fun t161 => (if t161 = true then ((track_Step.f (wrap64 (-(wrap64 (1 + (Go.bits .and .i64 a0 1023))))) 0).bind fun bt162 => ((track_Step.f (wrap64 (2 + (wrap64 (1 + (Go.bits .and .i64 a0 1023))))) 0).bind fun bt164 => ((track_Step.f 0 (wrap64 (-(wrap64 (1 + (Go.bits .and .i64 a0 1023)))))).bind fun bt166 => ((track_Step.f 0 (wrap64 (63 + (wrap64 (1 + (Go.bits .and .i64 a0 1023)))))).bind fun bt168 => ((track_Limit.f (wrap64 (-(wrap64 (1 + (Go.bits .and .i64 a0 1023)))))).bind fun bt170 => ((track_Limit.f (wrap64 (2 + (wrap64 (1 + (Go.bits .and .i64 a0 1023)))))).bind fun bt172 => ((wharfagelaw0_Num.f bt162.2).bind fun t174 => (if t174 = 1400 then ((wharfagelaw0_Num.f bt164.2).bind fun t175 => (if t175 = 1400 then ((wharfagelaw0_Num.f bt166.2).bind fun t176 => (if t176 = 1400 then ((wharfagelaw0_Num.f bt168.2).bind fun t177 => (if t177 = 1400 then ((wharfagelaw0_Num.f bt170.2).bind fun t178 => (if t178 = 1400 then ((wharfagelaw0_Num.f bt172.2).bind fun t179 => (some (t179 == 1400))) else (none))) else (none))) else (none))) else (none))) else (none))))))))) else (none))) = some r := h
  clear h
  replace H := Option.bind_eq_some_iff.mp H
  obtain ⟨t161, A20, H⟩ := H
  replace H : (if t161 = true then ((track_Step.f (wrap64 (-(wrap64 (1 + (Go.bits .and .i64 a0 1023))))) 0).bind fun bt162 => ((track_Step.f (wrap64 (2 + (wrap64 (1 + (Go.bits .and .i64 a0 1023))))) 0).bind fun bt164 => ((track_Step.f 0 (wrap64 (-(wrap64 (1 + (Go.bits .and .i64 a0 1023)))))).bind fun bt166 => ((track_Step.f 0 (wrap64 (63 + (wrap64 (1 + (Go.bits .and .i64 a0 1023)))))).bind fun bt168 => ((track_Limit.f (wrap64 (-(wrap64 (1 + (Go.bits .and .i64 a0 1023)))))).bind fun bt170 => ((track_Limit.f (wrap64 (2 + (wrap64 (1 + (Go.bits .and .i64 a0 1023)))))).bind fun bt172 => ((wharfagelaw0_Num.f bt162.2).bind fun t174 => (if t174 = 1400 then ((wharfagelaw0_Num.f bt164.2).bind fun t175 => (if t175 = 1400 then ((wharfagelaw0_Num.f bt166.2).bind fun t176 => (if t176 = 1400 then ((wharfagelaw0_Num.f bt168.2).bind fun t177 => (if t177 = 1400 then ((wharfagelaw0_Num.f bt170.2).bind fun t178 => (if t178 = 1400 then ((wharfagelaw0_Num.f bt172.2).bind fun t179 => (some (t179 == 1400))) else (none))) else (none))) else (none))) else (none))) else (none))))))))) else (none)) = some r := H
  have A2 := Aside0.mk A20
  clear A20
  by_cases c3 : t161 = true
  · subst c3
    have H1 : ((track_Step.f (wrap64 (-(wrap64 (1 + (Go.bits .and .i64 a0 1023))))) 0).bind fun bt162 => ((track_Step.f (wrap64 (2 + (wrap64 (1 + (Go.bits .and .i64 a0 1023))))) 0).bind fun bt164 => ((track_Step.f 0 (wrap64 (-(wrap64 (1 + (Go.bits .and .i64 a0 1023)))))).bind fun bt166 => ((track_Step.f 0 (wrap64 (63 + (wrap64 (1 + (Go.bits .and .i64 a0 1023)))))).bind fun bt168 => ((track_Limit.f (wrap64 (-(wrap64 (1 + (Go.bits .and .i64 a0 1023)))))).bind fun bt170 => ((track_Limit.f (wrap64 (2 + (wrap64 (1 + (Go.bits .and .i64 a0 1023)))))).bind fun bt172 => ((wharfagelaw0_Num.f bt162.2).bind fun t174 => (if t174 = 1400 then ((wharfagelaw0_Num.f bt164.2).bind fun t175 => (if t175 = 1400 then ((wharfagelaw0_Num.f bt166.2).bind fun t176 => (if t176 = 1400 then ((wharfagelaw0_Num.f bt168.2).bind fun t177 => (if t177 = 1400 then ((wharfagelaw0_Num.f bt170.2).bind fun t178 => (if t178 = 1400 then ((wharfagelaw0_Num.f bt172.2).bind fun t179 => (some (t179 == 1400))) else (none))) else (none))) else (none))) else (none))) else (none))))))))) = some r := by rw [if_pos rfl] at H; exact H
    clear H
    have H := H1
    clear H1
    replace H := Option.bind_eq_some_iff.mp H
    obtain ⟨⟨t162, t163⟩, A40, H⟩ := H
    replace H : ((track_Step.f (wrap64 (2 + (wrap64 (1 + (Go.bits .and .i64 a0 1023))))) 0).bind fun bt164 => ((track_Step.f 0 (wrap64 (-(wrap64 (1 + (Go.bits .and .i64 a0 1023)))))).bind fun bt166 => ((track_Step.f 0 (wrap64 (63 + (wrap64 (1 + (Go.bits .and .i64 a0 1023)))))).bind fun bt168 => ((track_Limit.f (wrap64 (-(wrap64 (1 + (Go.bits .and .i64 a0 1023)))))).bind fun bt170 => ((track_Limit.f (wrap64 (2 + (wrap64 (1 + (Go.bits .and .i64 a0 1023)))))).bind fun bt172 => ((wharfagelaw0_Num.f t163).bind fun t174 => (if t174 = 1400 then ((wharfagelaw0_Num.f bt164.2).bind fun t175 => (if t175 = 1400 then ((wharfagelaw0_Num.f bt166.2).bind fun t176 => (if t176 = 1400 then ((wharfagelaw0_Num.f bt168.2).bind fun t177 => (if t177 = 1400 then ((wharfagelaw0_Num.f bt170.2).bind fun t178 => (if t178 = 1400 then ((wharfagelaw0_Num.f bt172.2).bind fun t179 => (some (t179 == 1400))) else (none))) else (none))) else (none))) else (none))) else (none)))))))) = some r := H
    have A4 := Aside0.mk A40
    clear A40
    replace H := Option.bind_eq_some_iff.mp H
    obtain ⟨⟨t164, t165⟩, A50, H⟩ := H
    replace H : ((track_Step.f 0 (wrap64 (-(wrap64 (1 + (Go.bits .and .i64 a0 1023)))))).bind fun bt166 => ((track_Step.f 0 (wrap64 (63 + (wrap64 (1 + (Go.bits .and .i64 a0 1023)))))).bind fun bt168 => ((track_Limit.f (wrap64 (-(wrap64 (1 + (Go.bits .and .i64 a0 1023)))))).bind fun bt170 => ((track_Limit.f (wrap64 (2 + (wrap64 (1 + (Go.bits .and .i64 a0 1023)))))).bind fun bt172 => ((wharfagelaw0_Num.f t163).bind fun t174 => (if t174 = 1400 then ((wharfagelaw0_Num.f t165).bind fun t175 => (if t175 = 1400 then ((wharfagelaw0_Num.f bt166.2).bind fun t176 => (if t176 = 1400 then ((wharfagelaw0_Num.f bt168.2).bind fun t177 => (if t177 = 1400 then ((wharfagelaw0_Num.f bt170.2).bind fun t178 => (if t178 = 1400 then ((wharfagelaw0_Num.f bt172.2).bind fun t179 => (some (t179 == 1400))) else (none))) else (none))) else (none))) else (none))) else (none))))))) = some r := H
    have A5 := Aside0.mk A50
    clear A50
    replace H := Option.bind_eq_some_iff.mp H
    obtain ⟨⟨t166, t167⟩, A60, H⟩ := H
    replace H : ((track_Step.f 0 (wrap64 (63 + (wrap64 (1 + (Go.bits .and .i64 a0 1023)))))).bind fun bt168 => ((track_Limit.f (wrap64 (-(wrap64 (1 + (Go.bits .and .i64 a0 1023)))))).bind fun bt170 => ((track_Limit.f (wrap64 (2 + (wrap64 (1 + (Go.bits .and .i64 a0 1023)))))).bind fun bt172 => ((wharfagelaw0_Num.f t163).bind fun t174 => (if t174 = 1400 then ((wharfagelaw0_Num.f t165).bind fun t175 => (if t175 = 1400 then ((wharfagelaw0_Num.f t167).bind fun t176 => (if t176 = 1400 then ((wharfagelaw0_Num.f bt168.2).bind fun t177 => (if t177 = 1400 then ((wharfagelaw0_Num.f bt170.2).bind fun t178 => (if t178 = 1400 then ((wharfagelaw0_Num.f bt172.2).bind fun t179 => (some (t179 == 1400))) else (none))) else (none))) else (none))) else (none))) else (none)))))) = some r := H
    have A6 := Aside0.mk A60
    clear A60
    replace H := Option.bind_eq_some_iff.mp H
    obtain ⟨⟨t168, t169⟩, A70, H⟩ := H
    replace H : ((track_Limit.f (wrap64 (-(wrap64 (1 + (Go.bits .and .i64 a0 1023)))))).bind fun bt170 => ((track_Limit.f (wrap64 (2 + (wrap64 (1 + (Go.bits .and .i64 a0 1023)))))).bind fun bt172 => ((wharfagelaw0_Num.f t163).bind fun t174 => (if t174 = 1400 then ((wharfagelaw0_Num.f t165).bind fun t175 => (if t175 = 1400 then ((wharfagelaw0_Num.f t167).bind fun t176 => (if t176 = 1400 then ((wharfagelaw0_Num.f t169).bind fun t177 => (if t177 = 1400 then ((wharfagelaw0_Num.f bt170.2).bind fun t178 => (if t178 = 1400 then ((wharfagelaw0_Num.f bt172.2).bind fun t179 => (some (t179 == 1400))) else (none))) else (none))) else (none))) else (none))) else (none))))) = some r := H
    have A7 := Aside0.mk A70
    clear A70
    replace H := Option.bind_eq_some_iff.mp H
    obtain ⟨⟨t170, t171⟩, A80, H⟩ := H
    replace H : ((track_Limit.f (wrap64 (2 + (wrap64 (1 + (Go.bits .and .i64 a0 1023)))))).bind fun bt172 => ((wharfagelaw0_Num.f t163).bind fun t174 => (if t174 = 1400 then ((wharfagelaw0_Num.f t165).bind fun t175 => (if t175 = 1400 then ((wharfagelaw0_Num.f t167).bind fun t176 => (if t176 = 1400 then ((wharfagelaw0_Num.f t169).bind fun t177 => (if t177 = 1400 then ((wharfagelaw0_Num.f t171).bind fun t178 => (if t178 = 1400 then ((wharfagelaw0_Num.f bt172.2).bind fun t179 => (some (t179 == 1400))) else (none))) else (none))) else (none))) else (none))) else (none)))) = some r := H
    have A8 := Aside0.mk A80
    clear A80
    replace H := Option.bind_eq_some_iff.mp H
    obtain ⟨⟨t172, t173⟩, A90, H⟩ := H
    replace H : ((wharfagelaw0_Num.f t163).bind fun t174 => (if t174 = 1400 then ((wharfagelaw0_Num.f t165).bind fun t175 => (if t175 = 1400 then ((wharfagelaw0_Num.f t167).bind fun t176 => (if t176 = 1400 then ((wharfagelaw0_Num.f t169).bind fun t177 => (if t177 = 1400 then ((wharfagelaw0_Num.f t171).bind fun t178 => (if t178 = 1400 then ((wharfagelaw0_Num.f t173).bind fun t179 => (some (t179 == 1400))) else (none))) else (none))) else (none))) else (none))) else (none))) = some r := H
    have A9 := Aside0.mk A90
    clear A90
    replace H := Option.bind_eq_some_iff.mp H
    obtain ⟨t174, A100, H⟩ := H
    replace H : (if t174 = 1400 then ((wharfagelaw0_Num.f t165).bind fun t175 => (if t175 = 1400 then ((wharfagelaw0_Num.f t167).bind fun t176 => (if t176 = 1400 then ((wharfagelaw0_Num.f t169).bind fun t177 => (if t177 = 1400 then ((wharfagelaw0_Num.f t171).bind fun t178 => (if t178 = 1400 then ((wharfagelaw0_Num.f t173).bind fun t179 => (some (t179 == 1400))) else (none))) else (none))) else (none))) else (none))) else (none)) = some r := H
    have A10 := Aside0.mk A100
    clear A100
    by_cases c11 : t174 = 1400
    · rw [if_pos c11] at H
      have c11b0 : (t174 == 1400) = true := beq_iff_eq.mpr c11
      have c11b1 : (t174 != 1400) = false := bne_eq_false_iff_eq.mpr c11
      clear c11
      replace H := Option.bind_eq_some_iff.mp H
      obtain ⟨t175, A120, H⟩ := H
      replace H : (if t175 = 1400 then ((wharfagelaw0_Num.f t167).bind fun t176 => (if t176 = 1400 then ((wharfagelaw0_Num.f t169).bind fun t177 => (if t177 = 1400 then ((wharfagelaw0_Num.f t171).bind fun t178 => (if t178 = 1400 then ((wharfagelaw0_Num.f t173).bind fun t179 => (some (t179 == 1400))) else (none))) else (none))) else (none))) else (none)) = some r := H
      have A12 := Aside0.mk A120
      clear A120
      by_cases c13 : t175 = 1400
      · rw [if_pos c13] at H
        have c13b0 : (t175 == 1400) = true := beq_iff_eq.mpr c13
        have c13b1 : (t175 != 1400) = false := bne_eq_false_iff_eq.mpr c13
        clear c13
        replace H := Option.bind_eq_some_iff.mp H
        obtain ⟨t176, A140, H⟩ := H
        replace H : (if t176 = 1400 then ((wharfagelaw0_Num.f t169).bind fun t177 => (if t177 = 1400 then ((wharfagelaw0_Num.f t171).bind fun t178 => (if t178 = 1400 then ((wharfagelaw0_Num.f t173).bind fun t179 => (some (t179 == 1400))) else (none))) else (none))) else (none)) = some r := H
        have A14 := Aside0.mk A140
        clear A140
        by_cases c15 : t176 = 1400
        · rw [if_pos c15] at H
          have c15b0 : (t176 == 1400) = true := beq_iff_eq.mpr c15
          have c15b1 : (t176 != 1400) = false := bne_eq_false_iff_eq.mpr c15
          clear c15
          replace H := Option.bind_eq_some_iff.mp H
          obtain ⟨t177, A160, H⟩ := H
          replace H : (if t177 = 1400 then ((wharfagelaw0_Num.f t171).bind fun t178 => (if t178 = 1400 then ((wharfagelaw0_Num.f t173).bind fun t179 => (some (t179 == 1400))) else (none))) else (none)) = some r := H
          have A16 := Aside0.mk A160
          clear A160
          by_cases c17 : t177 = 1400
          · rw [if_pos c17] at H
            have c17b0 : (t177 == 1400) = true := beq_iff_eq.mpr c17
            have c17b1 : (t177 != 1400) = false := bne_eq_false_iff_eq.mpr c17
            clear c17
            replace H := Option.bind_eq_some_iff.mp H
            obtain ⟨t178, A180, H⟩ := H
            replace H : (if t178 = 1400 then ((wharfagelaw0_Num.f t173).bind fun t179 => (some (t179 == 1400))) else (none)) = some r := H
            have A18 := Aside0.mk A180
            clear A180
            by_cases c19 : t178 = 1400
            · rw [if_pos c19] at H
              have c19b0 : (t178 == 1400) = true := beq_iff_eq.mpr c19
              have c19b1 : (t178 != 1400) = false := bne_eq_false_iff_eq.mpr c19
              clear c19
              replace H := Option.bind_eq_some_iff.mp H
              obtain ⟨t179, A200, H⟩ := H
              replace H : (some (t179 == 1400)) = some r := H
              have A20 := Aside0.mk A200
              clear A200
              obtain rfl := Option.some.inj H
              go_enter Try.func12, Try.ntmps12
              go_wp2_with (first | ((with_reducible refine gate_callee (f := 25) rfl ?_); refine goesL_ (some 16) rfl rfl Try.func25 (by kernel_rfl) rfl #[] rfl (by (try simp only [List.map_toArray, List.map_cons, List.map_nil]); first | done | rfl | (simp only [List.length_drop, List.length_take]; rfl)) ?_; (with_reducible refine (wharfagelaw14_awake.calls  true _ A2.out).mono ?_); rintro e w21 ⟨rfl, hb⟩; refine ⟨_, rfl, ?_⟩; have n0_ := Aside0.mk (below_step (by repeat (first | (with_reducible first | exact HB.out | apply below_alloc | apply pw_below_drewN | apply below_drew1) | exact HB.out)) hb); clear HB; have HB := n0_; clear n0_; (try clear hb); (try clear hb2); (try clear hk); (try clear hi)) | ((with_reducible refine gate_callee (f := 21) rfl ?_); refine goesL_ (some 24) rfl rfl Try.func21 (by kernel_rfl) rfl #[.int .i64 (wrap64 (-(wrap64 (1 + (Go.bits .and .i64 a0 1023))))), .int .i64 0] rfl (by (try simp only [List.map_toArray, List.map_cons, List.map_nil]); first | done | rfl | (simp only [List.length_drop, List.length_take]; rfl)) ?_; (with_reducible refine (track_Step.calls (wrap64 (-(wrap64 (1 + (Go.bits .and .i64 a0 1023))))) 0 t162 t163 _ A4.out).mono ?_); rintro e w22 ⟨rfl, hb⟩; refine ⟨_, rfl, ?_⟩; have n0_ := Aside0.mk (below_step (by repeat (first | (with_reducible first | exact HB.out | apply below_alloc | apply pw_below_drewN | apply below_drew1) | exact HB.out)) hb); clear HB; have HB := n0_; clear n0_; (try clear hb); (try clear hb2); (try clear hk); (try clear hi)) | ((with_reducible refine gate_callee (f := 21) rfl ?_); refine goesL_ (some 30) rfl rfl Try.func21 (by kernel_rfl) rfl #[.int .i64 (wrap64 (2 + (wrap64 (1 + (Go.bits .and .i64 a0 1023))))), .int .i64 0] rfl (by (try simp only [List.map_toArray, List.map_cons, List.map_nil]); first | done | rfl | (simp only [List.length_drop, List.length_take]; rfl)) ?_; (with_reducible refine (track_Step.calls (wrap64 (2 + (wrap64 (1 + (Go.bits .and .i64 a0 1023))))) 0 t164 t165 _ A5.out).mono ?_); rintro e w23 ⟨rfl, hb⟩; refine ⟨_, rfl, ?_⟩; have n0_ := Aside0.mk (below_step (by repeat (first | (with_reducible first | exact HB.out | apply below_alloc | apply pw_below_drewN | apply below_drew1) | exact HB.out)) hb); clear HB; have HB := n0_; clear n0_; (try clear hb); (try clear hb2); (try clear hk); (try clear hi)) | ((with_reducible refine gate_callee (f := 21) rfl ?_); refine goesL_ (some 36) rfl rfl Try.func21 (by kernel_rfl) rfl #[.int .i64 0, .int .i64 (wrap64 (-(wrap64 (1 + (Go.bits .and .i64 a0 1023)))))] rfl (by (try simp only [List.map_toArray, List.map_cons, List.map_nil]); first | done | rfl | (simp only [List.length_drop, List.length_take]; rfl)) ?_; (with_reducible refine (track_Step.calls 0 (wrap64 (-(wrap64 (1 + (Go.bits .and .i64 a0 1023))))) t166 t167 _ A6.out).mono ?_); rintro e w24 ⟨rfl, hb⟩; refine ⟨_, rfl, ?_⟩; have n0_ := Aside0.mk (below_step (by repeat (first | (with_reducible first | exact HB.out | apply below_alloc | apply pw_below_drewN | apply below_drew1) | exact HB.out)) hb); clear HB; have HB := n0_; clear n0_; (try clear hb); (try clear hb2); (try clear hk); (try clear hi)) | ((with_reducible refine gate_callee (f := 21) rfl ?_); refine goesL_ (some 42) rfl rfl Try.func21 (by kernel_rfl) rfl #[.int .i64 0, .int .i64 (wrap64 (63 + (wrap64 (1 + (Go.bits .and .i64 a0 1023)))))] rfl (by (try simp only [List.map_toArray, List.map_cons, List.map_nil]); first | done | rfl | (simp only [List.length_drop, List.length_take]; rfl)) ?_; (with_reducible refine (track_Step.calls 0 (wrap64 (63 + (wrap64 (1 + (Go.bits .and .i64 a0 1023))))) t168 t169 _ A7.out).mono ?_); rintro e w25 ⟨rfl, hb⟩; refine ⟨_, rfl, ?_⟩; have n0_ := Aside0.mk (below_step (by repeat (first | (with_reducible first | exact HB.out | apply below_alloc | apply pw_below_drewN | apply below_drew1) | exact HB.out)) hb); clear HB; have HB := n0_; clear n0_; (try clear hb); (try clear hb2); (try clear hk); (try clear hi)) | ((with_reducible refine gate_callee (f := 23) rfl ?_); refine goesL_ (some 48) rfl rfl Try.func23 (by kernel_rfl) rfl #[.int .i64 (wrap64 (-(wrap64 (1 + (Go.bits .and .i64 a0 1023)))))] rfl (by (try simp only [List.map_toArray, List.map_cons, List.map_nil]); first | done | rfl | (simp only [List.length_drop, List.length_take]; rfl)) ?_; (with_reducible refine (track_Limit.calls (wrap64 (-(wrap64 (1 + (Go.bits .and .i64 a0 1023))))) t170 t171 _ A8.out).mono ?_); rintro e w' ⟨rfl, ⟨nd, rfl⟩⟩; refine ⟨_, rfl, ?_⟩) | ((with_reducible refine gate_callee (f := 23) rfl ?_); refine goesL_ (some 54) rfl rfl Try.func23 (by kernel_rfl) rfl #[.int .i64 (wrap64 (2 + (wrap64 (1 + (Go.bits .and .i64 a0 1023)))))] rfl (by (try simp only [List.map_toArray, List.map_cons, List.map_nil]); first | done | rfl | (simp only [List.length_drop, List.length_take]; rfl)) ?_; (with_reducible refine (track_Limit.calls (wrap64 (2 + (wrap64 (1 + (Go.bits .and .i64 a0 1023))))) t172 t173 _ A9.out).mono ?_); rintro e w' ⟨rfl, ⟨nd, rfl⟩⟩; refine ⟨_, rfl, ?_⟩) | ((with_reducible refine gate_callee (f := 20) rfl ?_); refine goesL_ (some 58) rfl rfl Try.func20 (by kernel_rfl) rfl #[.int .i64 t163] rfl (by (try simp only [List.map_toArray, List.map_cons, List.map_nil]); first | done | rfl | (simp only [List.length_drop, List.length_take]; rfl)) ?_; (with_reducible refine (wharfagelaw0_Num.calls t163 t174 _ A10.out).mono ?_); rintro e w' ⟨rfl, ⟨nd, rfl⟩⟩; refine ⟨_, rfl, ?_⟩) | (go_at_call 20; (with_reducible refine (wharfagelaw0_Num.calls t165 t175 _ A12.out).mono ?_); rintro e w' ⟨rfl, ⟨nd, rfl⟩⟩) | (go_at_call 20; (with_reducible refine (wharfagelaw0_Num.calls t167 t176 _ A14.out).mono ?_); rintro e w' ⟨rfl, ⟨nd, rfl⟩⟩) | (go_at_call 20; (with_reducible refine (wharfagelaw0_Num.calls t169 t177 _ A16.out).mono ?_); rintro e w' ⟨rfl, ⟨nd, rfl⟩⟩) | (go_at_call 20; (with_reducible refine (wharfagelaw0_Num.calls t171 t178 _ A18.out).mono ?_); rintro e w' ⟨rfl, ⟨nd, rfl⟩⟩) | (go_at_call 20; (with_reducible refine (wharfagelaw0_Num.calls t173 t179 _ A20.out).mono ?_); rintro e w' ⟨rfl, ⟨nd, rfl⟩⟩))
              go_ret
              exact ⟨by first | rfl | (simp [errW_none, errW_some] <;> rfl) | (simp [*, errW_none, errW_some] <;> rfl), by repeat (first | (with_reducible first | exact HB.out | apply below_alloc | apply pw_below_drewN | apply below_drew1) | exact HB.out)⟩
            · rw [if_neg c19] at H
              exact absurd H (by simp)
          · rw [if_neg c17] at H
            exact absurd H (by simp)
        · rw [if_neg c15] at H
          exact absurd H (by simp)
      · rw [if_neg c13] at H
        exact absurd H (by simp)
    · rw [if_neg c11] at H
      exact absurd H (by simp)
  · replace c3 := Bool.eq_false_iff.mpr c3
    subst c3
    have H1 : (none) = some r := by rw [if_neg (show ¬ (false = true) by decide)] at H; exact H
    clear H
    have H := H1
    clear H1
    exact absurd H (by simp)

/-- THE ONE PURE STATEMENT of wharfagelaw14_TrackForms: yours. -/
def wharfagelaw14_TrackForms.Pure : Prop := ∀ (a0 : Int), (Lit.int .i64 a0).wf = true → wharfagelaw14_TrackForms.f a0 = some true
theorem wharfagelaw14_TrackForms.walk (P : wharfagelaw14_TrackForms.Pure) (a0 : Int) (w : World) (w0 : (Lit.int .i64 a0).wf = true) :
    Calls Try.prog 12 #[.int .i64 a0] w fun e w' => e = .returned (.bool true) ∧ Below w.heap.size w w' := by
  have h := P a0 w0
  refine (wharfagelaw14_TrackForms.calls a0 true w h).mono ?_
  rintro e w' ⟨rfl, hd⟩
  exact ⟨rfl, hd⟩

end Go.Proofs.Ytcefplpmpmlboaa.PTrack
