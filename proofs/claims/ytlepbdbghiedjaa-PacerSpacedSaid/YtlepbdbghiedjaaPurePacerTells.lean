/- A packet's departure, and the state that follows, are the page's: for all whole numbers that Go's int holds. -/
import Derived.Test.YtlepbdbghiedjaaPAx1
import Derived.Test.YtlepbdbghiedjaaUtil
namespace Go.Proofs.Ytlepbdbghiedjaa.Pure
open Go.RowKit Go.Proofs.Ytlepbdbghiedjaa.PA Go.Proofs.YtlepbdbghiedjaaW.PrintWords Go.Proofs.YtlepbdbghiedjaaW.PrintLast Go.Proofs.YtlepbdbghiedjaaW.PrintMore Go.Proofs.Ytlepbdbghiedjaa.Util

theorem ref_eq (a0 a1 a2 a3 a4 : Int) : stopcockref14_Depart.f a0 a1 a2 a3 a4 = Hand.departF a0 a1 a2 a3 a4 := by
  unfold stopcockref14_Depart.f Hand.departF
  by_cases hm : Hand.may a0 a1 a2 a3 a4
  · rw [if_pos hm]
    obtain ⟨h1, h2, h3, h4, h5, h6, h7, h8, h9, h10⟩ := hm
    rw [if_neg (by omega), if_neg (by omega), if_neg (by omega), if_neg (by omega), if_neg (by omega), if_neg (by omega), if_neg (by omega), if_neg (by omega), if_neg (by omega), if_neg (by omega), if_neg (by omega)]
    have hr1 : 0 ≤ a3 * 1024 / a2 := Int.ediv_nonneg (by omega) (by omega)
    have hr2 : a3 * 1024 / a2 ≤ a3 * 1024 := Int.ediv_le_self _ (by omega)
    have hq1 : 0 ≤ (a1 * 1024 + a2 - 1) / a2 := Int.ediv_nonneg (by omega) (by omega)
    have hq2 : (a1 * 1024 + a2 - 1) / a2 ≤ a1 * 1024 + a2 - 1 := Int.ediv_le_self _ (by omega)
    have hc : Hand.cost a1 a2 = (a1 * 1024 + a2 - 1) / a2 := by unfold Hand.cost; rw [up_div _ _ h3]
    rw [wrap_id (x := a3 * 1024) (by omega) (by omega), Int.tdiv_eq_ediv_of_nonneg (by omega), wrap_id (x := a3 * 1024 / a2) (by omega) (by omega)]
    rw [wrap_id (x := a4 - a3 * 1024 / a2) (by omega) (by omega)]
    rw [wrap_id (x := a1 * 1024) (by omega) (by omega), wrap_id (x := a1 * 1024 + a2) (by omega) (by omega), wrap_id (x := a1 * 1024 + a2 - 1) (by omega) (by omega)]
    rw [Int.tdiv_eq_ediv_of_nonneg (by omega), wrap_id (x := (a1 * 1024 + a2 - 1) / a2) (by omega) (by omega), hc]
    have hx : 0 ≤ mx a0 (a4 - a3 * 1024 / a2) ∧ mx a0 (a4 - a3 * 1024 / a2) ≤ 1099511627776 := by unfold mx; split <;> omega
    rw [wrap_id (x := mx a0 (a4 - a3 * 1024 / a2) + (a1 * 1024 + a2 - 1) / a2) (by omega) (by omega)]
  · rw [if_neg hm]
    refine ite_to (fun _ => rfl) fun h1 => ite_to (fun _ => rfl) fun h2 => ite_to (fun _ => rfl) fun h3 => ite_to (fun _ => rfl) fun h4 => ite_to (fun _ => rfl) fun h5 => ite_to (fun _ => rfl) fun h6 => ite_to (fun _ => rfl) fun h7 => ite_to (fun _ => rfl) fun h8 => ite_to (fun _ => rfl) fun h9 => ite_to (fun _ => rfl) fun h10 => ?_
    exact absurd (by unfold Hand.may; omega) hm

theorem alive_true : stopcocklaw14_alive.f = some true := by decide +kernel

theorem PacerTells : stopcocklaw14_PacerTells.Pure := by
  intro a0 a1 a2 a3 a4 _ _ _ _ _
  unfold stopcocklaw14_PacerTells.f
  rw [ref_eq, alive_true]
  unfold pacer_Depart.f
  have h : ∃ r, Hand.departF a0 a1 a2 a3 a4 = some r := by unfold Hand.departF; split <;> exact ⟨_, rfl⟩
  obtain ⟨r, hr⟩ := h
  rw [hr]
  simp [stopcocklaw14_num.f]

end Go.Proofs.Ytlepbdbghiedjaa.Pure
