/- An event, as a plain function: the steps that the laws of bbr go. -/
import Derived.Test.YtodlibmnmjopbaaPAx6
import Derived.Test.YtodlibmnmjopbaaPAx3
import Derived.Test.YtodlibmnmjopbaaUtil
namespace Go.Proofs.Ytodlibmnmjopbaa.Pure
open Go.RowKit Go.Proofs.Ytodlibmnmjopbaa.PA Go.Proofs.YtodlibmnmjopbaaW.PrintWords Go.Proofs.YtodlibmnmjopbaaW.PrintLast Go.Proofs.YtodlibmnmjopbaaW.PrintMore Go.Proofs.Ytodlibmnmjopbaa.Util Go.Proofs.Ytodlibmnmjopbaa.Hand
set_option linter.unusedVariables false
set_option linter.unusedSimpArgs false

theorem alive_ev' : Ev (fun k => stopcocklaw23_alive.f k) true := Ev.of stopcocklaw23_alive.mono (k := 60) (by decide +kernel)
theorem may_nil : mayV [] = true := by decide +kernel
theorem may_one (a b : Int) (h0 : 0 ≤ a ∧ a ≤ 1099511627776) (h1 : 0 ≤ b ∧ b ≤ 1073741824) : mayV [⟨a, b⟩] = true := by
  have e0 : A0 [⟨a, b⟩] ((0 : Nat) : Int) = a := rfl
  have e1 : A1 [⟨a, b⟩] ((0 : Nat) : Int) = b := rfl
  unfold mayV
  simp only [List.length_singleton, allG, goodB, e0, e1]
  simp [h0, h1]
theorem gmod' (a m : Int) (h : 0 < m) (h2 : m ≤ 4000000000000000000) : ∃ r, Int.tmod (wrap64 (Int.tmod a m + m)) m = r ∧ 0 ≤ r ∧ r < m := gomod a m h h2
/-- An event of the law of the least time. -/
theorem least_ack (hr : Bool) (rt ra rd i r : Int) (hi : 0 ≤ i ∧ i < 100) (hrr : 0 ≤ r ∧ r < 100000) (hrt : 0 ≤ rt ∧ rt ≤ 1073741824) (hra : 0 ≤ ra ∧ ra ≤ 1000000) (hrd : rd = 0 ∨ rd = 1) :
    bbr_Ack.f 0 [] hr rt ra false 0 0 0 0 0 rd 1000 (100 * i) 1 0 r 0 false true = some (0, [], true, (if hr = false ∨ r ≤ rt then r else rt), (if hr = false ∨ r ≤ rt then 100 * i else ra), false, 0, 0, 0, 0, 0, 1, 0) := by
  unfold bbr_Ack.f ackF
  have hok : okS [] 0 rt ra 0 0 0 0 0 rd ∧ okE ⟨0, [], hr, rt, ra, false, 0, 0, 0, 0, 0, rd⟩ ⟨100 * i, 1, 0, r, 0, false, true⟩ 1000 := by
    refine ⟨⟨by omega, by omega, may_nil, by omega, by omega, by omega, by omega, by omega, by omega, by omega⟩, ⟨by omega, ?_, ?_, ?_, ?_, ?_, ?_, ?_⟩⟩
    all_goals simp [lastR]
    all_goals omega
  rw [if_pos hok]
  have hs : ∀ h : Bool, stale h ra (100 * i) = false := fun h => by unfold stale; rw [decide_eq_false (by omega)]; simp
  have e2 : st2 (st1 ⟨0, [], hr, rt, ra, false, 0, 0, 0, 0, 0, rd⟩ ⟨100 * i, 1, 0, r, 0, false, true⟩) ⟨100 * i, 1, 0, r, 0, false, true⟩ = ⟨0, [], hr, rt, ra, false, 0, 0, 0, 0, 0, 1⟩ := by
    unfold st1 st2 roundS
    simp [gr]
  have e3 : st3 ⟨0, [], hr, rt, ra, false, 0, 0, 0, 0, 0, 1⟩ ⟨100 * i, 1, 0, r, 0, false, true⟩ = ⟨0, [], true, (if hr = false ∨ r ≤ rt then r else rt), (if hr = false ∨ r ≤ rt then 100 * i else ra), false, 0, 0, 0, 0, 0, 1⟩ := by
    unfold st3 fresher
    have hd : decide (ra + 10240 ≤ 100 * i) = false := decide_eq_false (by omega)
    cases hr
    · simp
    · simp only [hd]
      by_cases h : r ≤ rt
      · simp [h]
      · simp [h]
  have e4 : ∀ (t a : Int), st4 ⟨0, [], true, t, a, false, 0, 0, 0, 0, 0, 1⟩ ⟨100 * i, 1, 0, r, 0, false, true⟩ = ⟨0, [], true, t, a, false, 0, 0, 0, 0, 0, 1⟩ := fun t a => by unfold st4; simp
  have e5 : ∀ (t a : Int), st5 ⟨0, [], true, t, a, false, 0, 0, 0, 0, 0, 1⟩ ⟨100 * i, 1, 0, r, 0, false, true⟩ = ⟨0, [], true, t, a, false, 0, 0, 0, 0, 0, 1⟩ := fun t a => by unfold st5; simp
  have e6 : ∀ (t a : Int), st6 ⟨0, [], true, t, a, false, 0, 0, 0, 0, 0, 1⟩ ⟨100 * i, 1, 0, r, 0, false, true⟩ false = ⟨0, [], true, t, a, false, 0, 0, 0, 0, 0, 1⟩ := fun t a => by unfold st6; simp
  have eo : oldS ⟨0, [], hr, rt, ra, false, 0, 0, 0, 0, 0, 1⟩ ⟨100 * i, 1, 0, r, 0, false, true⟩ = false := by unfold oldS; rw [hs]; rfl
  unfold ackB
  rw [e2, eo, e3, e4, e5, e6]
end Go.Proofs.Ytodlibmnmjopbaa.Pure
