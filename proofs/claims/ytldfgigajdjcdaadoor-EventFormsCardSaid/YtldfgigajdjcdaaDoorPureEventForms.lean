/- Events that may not be are refused. -/
import Derived.Test.YtldfgigajdjcdaaDoorPEventsx9
import Derived.Test.YtldfgigajdjcdaaDoorNumMath
import Derived.Lib.ItoaLen
import Derived.Lib.Strings
set_option linter.unusedVariables false
set_option linter.unusedSimpArgs false
namespace Go.Proofs.YtldfgigajdjcdaaDoor.Pure
open Go.RowKit Go.Proofs.YtldfgigajdjcdaaDoor.PEvents Go.Proofs.YtldfgigajdjcdaaDoorW.PrintWords Go.Proofs.YtldfgigajdjcdaaDoorW.PrintLast Go.Proofs.YtldfgigajdjcdaaDoorW.PrintMore Go.Proofs.YtldfgigajdjcdaaDoor.NumMath

theorem dig (u : Nat) (h : u < 10) : Lib.itoa (u : Int) = [UInt8.ofNat (48 + u)] := by rw [Lib.itoa_nonneg, Lib.decDigits_one h]
theorem show1 : EvLaw.show_ (EvLaw.nums 0 1 2 0 3 1 2 6 4 5) = (⟨#[48, 32, 49, 32, 50, 32, 48, 32, 51, 32, 49, 32, 50, 32, 54, 32, 52, 32, 53]⟩ : ByteArray) := by
  have h0 := dig 0 (by decide); have h1 := dig 1 (by decide); have h2 := dig 2 (by decide); have h3 := dig 3 (by decide); have h4 := dig 4 (by decide); have h5 := dig 5 (by decide); have h6 := dig 6 (by decide)
  show EvLaw.show_ [0, 1, 2, 0, 3, 1, 2, 6, 4, 5] = _
  unfold EvLaw.show_
  simp only [List.map_cons, List.map_nil, EvLaw.strI]
  rw [show Lib.itoa 0 = _ from h0, show Lib.itoa 1 = _ from h1, show Lib.itoa 2 = _ from h2, show Lib.itoa 3 = _ from h3, show Lib.itoa 4 = _ from h4, show Lib.itoa 5 = _ from h5, show Lib.itoa 6 = _ from h6]
  rfl
theorem show2 : EvLaw.show_ (EvLaw.nums 8 0 0 0 0 0 0 0 0 0) = (⟨#[56, 32, 48, 32, 48, 32, 48, 32, 48]⟩ : ByteArray) := by
  have h0 := dig 0 (by decide); have h8 := dig 8 (by decide)
  show EvLaw.show_ [8, 0, 0, 0, 0] = _
  unfold EvLaw.show_
  simp only [List.map_cons, List.map_nil, EvLaw.strI]
  rw [show Lib.itoa 0 = _ from h0, show Lib.itoa 8 = _ from h8]
  rfl
theorem sh_yes (e0 e1 e2 e3 e4 e5 e6 e7 e8 e9 : Int) (h : EvLaw.EvP e0 e1 e2 e3 e4 e5 e6 e7 e8 e9) : event_Show.f e0 e1 e2 e3 e4 e5 e6 e7 e8 e9 = some (EvLaw.show_ (EvLaw.nums e0 e1 e2 e3 e4 e5 e6 e7 e8 e9), 0) := if_pos h
theorem sh_no (e0 e1 e2 e3 e4 e5 e6 e7 e8 e9 : Int) (h : ¬ EvLaw.EvP e0 e1 e2 e3 e4 e5 e6 e7 e8 e9) : event_Show.f e0 e1 e2 e3 e4 e5 e6 e7 e8 e9 = some (⟨#[]⟩, 1800) := if_neg h
theorem aw_f (k : Nat) (hk : 2 ≤ k) : wharfagelaw18_awake.f k = some true := by
  unfold wharfagelaw18_awake.f
  rw [sh_yes _ _ _ _ _ _ _ _ _ _ (by decide), sh_yes _ _ _ _ _ _ _ _ _ _ (by decide), sh_no _ _ _ _ _ _ _ _ _ _ (by decide), show1, show2]
  simp only [Option.bind_some, ByteArray.toList_eq]
  rw [if_pos trivial]
  simp only [wharfagelaw0_Num.f, Option.bind_some]
  rw [if_pos trivial, if_pos trivial, if_pos trivial, if_pos trivial, EvLaw.ev_f _ _ _ _ _ _ _ _ _ _ k hk]
  rfl

theorem EventForms : wharfagelaw18_EventForms.Pure := by
  intro a0 a1 _ _
  refine ⟨10, ?_⟩
  unfold wharfagelaw18_EventForms.f
  rw [aw_f 10 (by omega)]
  simp only [Option.bind_some, if_true]
  obtain ⟨d, hd, hd1, hd2⟩ : ∃ d : Int, wrap64 (1 + (Go.bits .and .i64 a1 1023)) = d ∧ 1 ≤ d ∧ d ≤ 1024 := ⟨_, rfl, by rw [NumMath.and1023]; unfold wrap64; omega, by rw [NumMath.and1023]; unfold wrap64; omega⟩
  obtain ⟨i, hi, hi2⟩ : ∃ i : Nat, wrap64 (Int.tmod (IntKind.u64.wrap a0) 13) = (i : Int) ∧ i < 13 := by
    have h0 : 0 ≤ IntKind.u64.wrap a0 := by rw [NumMath.wrap_u64_mod]; omega
    refine ⟨(IntKind.u64.wrap a0 % 13).toNat, ?_, by omega⟩
    rw [NumMath.tmod_nn _ _ h0]
    unfold wrap64
    omega
  rw [hd, hi, show wrap64 (-d) = -d by unfold wrap64; omega, show wrap64 (13 + d) = 13 + d by unfold wrap64; omega, show wrap64 (2 + d) = 2 + d by unfold wrap64; omega, show wrap64 (255 + d) = 255 + d by unfold wrap64; omega]
  rw [if_pos (by omega), if_pos (by simp only [List.length_cons, List.length_nil]; omega)]
  have key : ∀ x : S25, ¬ EvLaw.EvP x.f0 x.f1 x.f2 x.f3 x.f4 x.f5.f0 x.f5.f1 x.f5.f2 x.f5.f3 x.f5.f4 → ((event_Show.f x.f0 x.f1 x.f2 x.f3 x.f4 x.f5.f0 x.f5.f1 x.f5.f2 x.f5.f3 x.f5.f4).bind fun bt149 => ((event_May.f 10 x.f0 x.f1 x.f2 x.f3 x.f4 x.f5.f0 x.f5.f1 x.f5.f2 x.f5.f3 x.f5.f4).bind fun t151 => (if t151 = true then (none) else (if bt149.1.toList = ([] : List UInt8) then ((wharfagelaw0_Num.f bt149.2).bind fun t152 => (some (t152 == 1800))) else (none))))) = some true := by
    intro x hx
    rw [sh_no _ _ _ _ _ _ _ _ _ _ hx, EvLaw.ev_f _ _ _ _ _ _ _ _ _ _ 10 (by omega), decide_eq_false hx]
    simp only [Option.bind_some, ByteArray.toList_eq]
    rfl
  refine key _ ?_
  unfold EvLaw.EvP EvLaw.Fm
  match i, hi2 with
  | 0, _ | 1, _ | 2, _ | 3, _ | 4, _ | 5, _ | 6, _ | 7, _ | 8, _ | 9, _ | 10, _ | 11, _ | 12, _ => simp only [rd_T25, Int.toNat_natCast, List.getD_cons_zero, List.getD_cons_succ]; omega

end Go.Proofs.YtldfgigajdjcdaaDoor.Pure
