/- Answers of toeplitz are the caller's: for all addresses; alive is shown by reckoning. -/
import Derived.Test.YtgfghinjjidcoaaPlainT
namespace Go.Proofs.Ytgfghinjjidcoaa.Pure
open Go.RowKit Go.Proofs.Ytgfghinjjidcoaa.PA Go.Proofs.YtgfghinjjidcoaaW.PrintWords Go.Proofs.YtgfghinjjidcoaaW.PrintLast Go.Proofs.YtgfghinjjidcoaaW.PrintMore Go.Proofs.Ytgfghinjjidcoaa.Util
set_option linter.unusedVariables false
set_option linter.unusedSimpArgs false

theorem wf32 {x : Int} (h : (Lit.int .u32 x).wf = true) : 0 ≤ x ∧ x ≤ 4294967295 := by
  simp [Lit.wf, IntKind.min, IntKind.max, IntKind.bits, IntKind.signed] at h
  omega
theorem four_len (x : Int) : (Hand.four x).length = 4 := rfl
theorem ToeplitzOwn : stopcocklaw07_ToeplitzOwn.Pure := by
  intro a0 a1 h0 h1
  have b0 := wf32 h0
  have b1 := wf32 h1
  obtain ⟨K1, e1⟩ := alive_ev
  obtain ⟨l, hl⟩ : ∃ l, Hand.four a0 ++ Hand.four a1 ++ Hand.four (1 * 65536 + 2) = l := ⟨_, rfl⟩
  have hlen : l.length = 12 := by rw [← hl]; rfl
  have ht : toeplitz_Tuple.f a0 a1 1 2 = some l := by rw [tup_eq a0 a1 1 2 (by omega) (by omega) (by omega) (by omega) (by omega) (by omega) (by omega) (by omega), hl]
  obtain ⟨l', K2, e2⟩ := spoil_ev l (by omega)
  obtain ⟨K3, e3⟩ := same_ev l (by omega)
  refine ⟨K1 + K2 + K3, ?_⟩
  unfold stopcocklaw07_ToeplitzOwn.f
  rw [show stopcocklaw07_alive.f (K1 + K2 + K3) = _ from e1 _ (by omega), Option.bind_some, if_pos rfl, ht, Option.bind_some, copy_eq l (by omega), Option.bind_some, Option.bind_some]
  rw [show stopcockplain_Spoil.f (K1 + K2 + K3) l = _ from e2 _ (by omega), Option.bind_some, show stopcockplain_SameBytes.f (K1 + K2 + K3) l l = _ from e3 _ (by omega), Option.bind_some, if_pos rfl, hlen]
  rfl
end Go.Proofs.Ytgfghinjjidcoaa.Pure
