import Derived.Test.YtjhggbanonfbgaaPlain
import Derived.Test.YtjhggbanonfbgaaPAx14
namespace Go.Proofs.Ytjhggbanonfbgaa.Pure
open Go.RowKit Go.Proofs.Ytjhggbanonfbgaa.PA Go.Proofs.YtjhggbanonfbgaaW.PrintWords Go.Proofs.YtjhggbanonfbgaaW.PrintLast Go.Proofs.YtjhggbanonfbgaaW.PrintMore Go.Proofs.Ytjhggbanonfbgaa.Util Go.Proofs.Ytjhggbanonfbgaa.Hand
set_option linter.unusedVariables false
set_option linter.unusedSimpArgs false

theorem RenoTells : stopcocklaw20_RenoTells.Pure := by
  intro c th ac m n _ _ _ _ _
  refine ⟨2, ?_⟩
  unfold stopcocklaw20_RenoTells.f
  rw [ack_eq, rack_eq 1, step_after, loss_eq, rloss_eq 1, step_after, time_eq, rtime_eq 1, step_after, new_eq, rnew_eq, pcheck_eq, rcheck_eq 1, alive_eq]
  simp only [Option.bind_some, num_eq, beq_self_eq_true, Bool.and_self, if_true_eq]
end Go.Proofs.Ytjhggbanonfbgaa.Pure
