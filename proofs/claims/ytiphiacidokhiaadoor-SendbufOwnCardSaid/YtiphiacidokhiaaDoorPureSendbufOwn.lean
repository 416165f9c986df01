/- The plain law of SendbufOwn: the walk (HandO) says it. -/
import Derived.Test.YtiphiacidokhiaaDoorPOx1
namespace Go.Proofs.YtiphiacidokhiaaDoor.Pure
open Go.RowKit Go.Proofs.YtiphiacidokhiaaDoor.PO Go.Proofs.YtiphiacidokhiaaDoorW.PrintWords Go.Proofs.YtiphiacidokhiaaDoorW.PrintLast
theorem SendbufOwn : stopcocklaw15_SendbufOwn.Pure := by
  intro a0 l1 _ _ _ _
  rfl
end Go.Proofs.YtiphiacidokhiaaDoor.Pure
