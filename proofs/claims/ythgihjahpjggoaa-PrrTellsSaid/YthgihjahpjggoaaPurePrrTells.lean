/- Of any state: what may be sent, and what follows, are the page's. -/
import Derived.Test.YthgihjahpjggoaaPAx5
import Derived.Test.YthgihjahpjggoaaPlain
namespace Go.Proofs.Ythgihjahpjggoaa.Pure
open Go.RowKit Go.Proofs.Ythgihjahpjggoaa.PA Go.Proofs.YthgihjahpjggoaaW.PrintWords Go.Proofs.YthgihjahpjggoaaW.PrintLast Go.Proofs.YthgihjahpjggoaaW.PrintMore Go.Proofs.Ythgihjahpjggoaa.Util
theorem PrrTells : stopcocklaw19_PrrTells.Pure := by
  intro a0 a1 a2 a3 a4 a5 a6 a7 a8 _ _ _ _ _ _ _ _ _
  refine ⟨40, ?_⟩
  unfold stopcocklaw19_PrrTells.f
  rw [ack_eq _ _ _ _ _ _ _ 40 (by omega), rack_eq _ _ _ _ _ _ _ 40 (by omega), spent_eq _ _ _ _ _ 40 (by omega), rspent_eq, start_eq _ _ 40 (by omega), rstart_eq, alive_eq 40 (by omega)]
  simp [stopcocklaw19_num.f]
end Go.Proofs.Ythgihjahpjggoaa.Pure
