/- Of any settings and state: what follows of a sample, of a time that ran out, and how long to wait, are the page's. -/
import Derived.Test.YtbdakddmonopmaaPAx5
import Derived.Test.YtbdakddmonopmaaPlain
namespace Go.Proofs.Ytbdakddmonopmaa.Pure
open Go.RowKit Go.Proofs.Ytbdakddmonopmaa.PA Go.Proofs.YtbdakddmonopmaaW.PrintWords Go.Proofs.YtbdakddmonopmaaW.PrintLast Go.Proofs.YtbdakddmonopmaaW.PrintMore Go.Proofs.Ytbdakddmonopmaa.Util

theorem RttTells : stopcocklaw18_RttTells.Pure := by
  intro p0 p1 p2 p3 h s v b r _ _ _ _ _ _ _ _
  refine ⟨40, ?_⟩
  unfold stopcocklaw18_RttTells.f
  rw [sample_eq _ _ _ _ _ _ _ _ _ 40 (by omega), rsample_eq, back_eq _ _ _ _ _ _ _ _ 40 (by omega), rback_eq, rto_eq _ _ _ _ _ _ _ _ 40 (by omega), rrto_eq _ _ _ _ _ _ _ _ 40 (by omega), check_eq _ _ _ _ 40 (by omega), rcheck_eq, alive_eq 40 (by omega)]
  simp [stopcocklaw18_num.f]
end Go.Proofs.Ytbdakddmonopmaa.Pure
