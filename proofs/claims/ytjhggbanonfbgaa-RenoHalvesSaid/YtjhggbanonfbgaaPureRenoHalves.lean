import Derived.Test.YtjhggbanonfbgaaPlain
import Derived.Test.YtjhggbanonfbgaaPAx17
namespace Go.Proofs.Ytjhggbanonfbgaa.Pure
open Go.RowKit Go.Proofs.Ytjhggbanonfbgaa.PA Go.Proofs.YtjhggbanonfbgaaW.PrintWords Go.Proofs.YtjhggbanonfbgaaW.PrintLast Go.Proofs.YtjhggbanonfbgaaW.PrintMore Go.Proofs.Ytjhggbanonfbgaa.Util Go.Proofs.Ytjhggbanonfbgaa.Hand
set_option linter.unusedVariables false
set_option linter.unusedSimpArgs false

theorem RenoHalves : stopcocklaw20_RenoHalves.Pure := by
  intro c th ac m n _ _ _ _ _
  unfold stopcocklaw20_RenoHalves.f
  rw [alive_eq, loss_eq, time_eq]
  simp only [Option.bind_some, num_eq, if_true_eq]
  unfold after lossS timeS
  by_cases h : askF c th ac m n = 0
  · obtain ⟨⟨⟨m0, m1⟩, _⟩, n0, n1⟩ := ask_zero.1 h
    rw [if_pos h, if_pos h, half n0 n1 m0 m1]
    simp only [if_true_eq]
    rw [show wrap64 (0 + 0) = 0 from wrap_id (by omega) (by omega)]
    rfl
  · rw [if_neg h, if_neg h]
    dsimp only
    rw [if_neg h, if_pos rfl]
    rfl
end Go.Proofs.Ytjhggbanonfbgaa.Pure
