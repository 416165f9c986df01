/- The plain law of SendbufNumbers. -/
import Derived.Test.YtiphiacidokhiaaDoorPAx2
namespace Go.Proofs.YtiphiacidokhiaaDoor.Pure
open Go.RowKit Go.Proofs.YtiphiacidokhiaaDoor.PA Go.Proofs.YtiphiacidokhiaaDoorW.PrintWords Go.Proofs.YtiphiacidokhiaaDoorW.PrintLast
theorem less_eq (a b : Int) : sendbuf_Less.f a b = some (decide ((a - b) % 4294967296 ≥ 2147483648)) := by
  unfold sendbuf_Less.f wrap32
  congr 1
  apply decide_eq_decide.mpr
  omega
theorem ref_less (a b : Int) : stopcockref15_Less.f a b = some (decide ((a - b) % 4294967296 ≥ 2147483648)) := rfl
theorem ref_within (a b c : Int) : stopcockref15_Within.f a b c = sendbuf_Within.f a b c := rfl
theorem ref_max (a b : Int) : stopcockref15_Max.f a b = sendbuf_Max.f a b := by
  unfold stopcockref15_Max.f sendbuf_Max.f
  rw [less_eq, ref_less]
theorem SendbufNumbers : stopcocklaw15_SendbufNumbers.Pure := by
  intro a b c ha hb hc
  unfold stopcocklaw15_SendbufNumbers.f
  rw [ref_less, ref_within, ref_max]
  have hm : ∃ m, sendbuf_Max.f a b = some m := by
    unfold sendbuf_Max.f
    rw [less_eq]
    simp only [Option.bind_some]
    split <;> exact ⟨_, rfl⟩
  obtain ⟨m, hm⟩ := hm
  have e1 : sendbuf_Less.f a a = some false := by rw [less_eq]; simp
  have e2 : sendbuf_Less.f a ((a + 1) % 4294967296) = some true := by rw [less_eq]; congr 1; apply decide_eq_true; omega
  have e3 : sendbuf_Less.f ((a + c) % 4294967296) ((b + c) % 4294967296) = sendbuf_Less.f a b := by
    rw [less_eq, less_eq]; congr 1; apply decide_eq_decide.mpr; omega
  rw [e3, hm, e1, e2, less_eq]
  simp [sendbuf_Within.f, stopcocklaw15_alive.f]
end Go.Proofs.YtiphiacidokhiaaDoor.Pure
