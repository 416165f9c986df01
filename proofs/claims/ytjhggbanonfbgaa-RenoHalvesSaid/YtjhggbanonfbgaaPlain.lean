/- reno and its reference: the printed functions as plain ones. -/
import Derived.Test.YtjhggbanonfbgaaPAx13
import Derived.Test.YtjhggbanonfbgaaPAx6
import Derived.Test.YtjhggbanonfbgaaPAx10
import Derived.Test.YtjhggbanonfbgaaPAx11
import Derived.Test.YtjhggbanonfbgaaPAx12
import Derived.Test.YtjhggbanonfbgaaHand
namespace Go.Proofs.Ytjhggbanonfbgaa.Pure
open Go.RowKit Go.Proofs.Ytjhggbanonfbgaa.PA Go.Proofs.YtjhggbanonfbgaaW.PrintWords Go.Proofs.YtjhggbanonfbgaaW.PrintLast Go.Proofs.YtjhggbanonfbgaaW.PrintMore Go.Proofs.Ytjhggbanonfbgaa.Util Go.Proofs.Ytjhggbanonfbgaa.Hand
set_option linter.unusedVariables false
set_option linter.unusedSimpArgs false

theorem num_eq (x : Int) : stopcocklaw20_num.f x = some x := rfl
theorem rcheck_eq (k : Nat) (c th ac m : Int) : stopcockref20_Check.f (k + 1) c th ac m = some (checkF c th ac m) := by
  unfold stopcockref20_Check.f checkF
  simp only [stopcockref20_Check.j0]
  by_cases hm : 1 ≤ m ∧ m ≤ 65535
  · rw [if_pos hm, if_neg (by omega), decide_eq_false (by omega), if_neg (by decide)]
    by_cases ho : okS c th ac m
    · have ho' := ho
      unfold okS at ho'
      rw [if_pos ho, if_neg (by omega), if_neg (by omega), if_neg (by omega), if_neg (by omega), if_neg (by omega), if_neg (by omega)]
    · have ho' := ho
      unfold okS at ho'
      rw [if_neg ho]
      refine ite_to (fun _ => rfl) fun q1 => ite_to (fun _ => rfl) fun q2 => ite_to (fun _ => rfl) fun q3 => ite_to (fun _ => rfl) fun q4 => ite_to (fun _ => rfl) fun q5 => ite_to (fun _ => rfl) fun q6 => by omega
  · rw [if_neg hm]
    refine ite_to (fun _ => by rw [if_pos trivial]) fun q1 => by rw [decide_eq_true (by omega), if_pos rfl]
def askF (c th ac m n : Int) : Int := if checkF c th ac m = 0 then (if inN n then 0 else 4) else checkF c th ac m
theorem asked_eq (k : Nat) (c th ac m n : Int) : stopcockref20_asked.f (k + 1) c th ac m n = some (askF c th ac m n) := by
  unfold stopcockref20_asked.f askF
  rw [rcheck_eq]
  simp only [Option.bind_some]
  by_cases h : checkF c th ac m = 0
  · rw [if_pos h, if_pos h, h]
    by_cases g : inN n
    · rw [if_pos g, if_neg (by have := g.1; omega), if_neg (by have := g.2; omega)]
    · rw [if_neg g]
      refine ite_to (fun _ => rfl) fun q1 => ite_to (fun _ => rfl) fun q2 => absurd (show inN n by unfold inN; omega) g
  · rw [if_neg h, if_neg h]
theorem step_ask (c th ac m n : Int) (s : Int × Int × Int) : stepF c th ac m n s = if askF c th ac m n = 0 then some (s.1, s.2.1, s.2.2, 0) else some (0, 0, 0, askF c th ac m n) := by
  unfold stepF askF
  by_cases h : checkF c th ac m = 0
  · rw [if_pos h, if_pos h]
    by_cases g : inN n
    · rw [if_pos g, if_pos g, if_pos rfl]
    · rw [if_neg g, if_neg g, if_neg (by decide)]
  · rw [if_neg h, if_neg h, if_neg h]
theorem ask_zero {c th ac m n : Int} : askF c th ac m n = 0 ↔ ((1 ≤ m ∧ m ≤ 65535) ∧ okS c th ac m) ∧ inN n := by
  unfold askF
  rw [← check_zero]
  by_cases h : checkF c th ac m = 0
  · rw [if_pos h]
    by_cases g : inN n
    · rw [if_pos g]; exact ⟨fun _ => ⟨h, g⟩, fun _ => rfl⟩
    · rw [if_neg g]; exact ⟨fun q => by omega, fun q => absurd q.2 g⟩
  · rw [if_neg h]; exact ⟨fun q => absurd q h, fun q => absurd q.1 h⟩
theorem rack_eq (k : Nat) (c th ac m n : Int) : stopcockref20_Ack.f (k + 1) c th ac m n = stepF c th ac m n (ackS c th ac m n) := by
  unfold stopcockref20_Ack.f ackS
  rw [asked_eq, step_ask]
  simp only [Option.bind_some]
  by_cases h : askF c th ac m n = 0
  · obtain ⟨⟨⟨m0, m1⟩, ⟨c0, c1⟩, ⟨t0, t1⟩, a0, a1⟩, n0, n1⟩ := ask_zero.1 h
    have hx := mn_or n m
    have hy := mn_or (ac + n) 1073741824
    rw [if_pos h, if_pos h, wrap_id (x := c + mn n m) (by omega) (by omega), wrap_id (x := ac + n) (by omega) (by omega), wrap_id (x := c + m) (by omega) (by omega), wrap_id (x := mn (ac + n) 1073741824 - c) (by omega) (by omega)]
    by_cases g : c < th
    · rw [if_pos g, if_pos g]
    · rw [if_neg g, if_neg g]
      by_cases e : mn (ac + n) 1073741824 ≥ c
      · rw [if_pos e, if_pos e]
      · rw [if_neg e, if_neg e]
  · rw [if_neg h, if_neg h]
theorem half {n m : Int} (n0 : 0 ≤ n) (n1 : n ≤ 1073741824) (m0 : 1 ≤ m) (m1 : m ≤ 65535) : mx (wrap64 (Int.tdiv n 2)) (wrap64 (2 * m)) = mx (n / 2) (2 * m) := by
  rw [tdiv_pos n0, wrap_id (x := n / 2) (by omega) (by omega), wrap_id (x := 2 * m) (by omega) (by omega)]
theorem rloss_eq (k : Nat) (c th ac m n : Int) : stopcockref20_Loss.f (k + 1) c th ac m n = stepF c th ac m n (lossS m n) := by
  unfold stopcockref20_Loss.f lossS
  rw [asked_eq, step_ask]
  simp only [Option.bind_some]
  by_cases h : askF c th ac m n = 0
  · obtain ⟨⟨⟨m0, m1⟩, _⟩, n0, n1⟩ := ask_zero.1 h
    rw [if_pos h, if_pos h, half n0 n1 m0 m1]
  · rw [if_neg h, if_neg h]
theorem rtime_eq (k : Nat) (c th ac m n : Int) : stopcockref20_Timeout.f (k + 1) c th ac m n = stepF c th ac m n (timeS m n) := by
  unfold stopcockref20_Timeout.f timeS
  rw [rloss_eq, step_ask, step_ask]
  unfold lossS
  by_cases h : askF c th ac m n = 0
  · rw [if_pos h, if_pos h]
    simp only [Option.bind_some]
    rw [if_pos trivial]
  · rw [if_neg h, if_neg h]
    simp only [Option.bind_some]
    rw [if_neg h]
/-- What follows, as one tuple. -/
def after (c th ac m n : Int) (s : Int × Int × Int) : Int × Int × Int × Int := if askF c th ac m n = 0 then (s.1, s.2.1, s.2.2, 0) else (0, 0, 0, askF c th ac m n)
theorem step_after (c th ac m n : Int) (s : Int × Int × Int) : stepF c th ac m n s = some (after c th ac m n s) := by
  rw [step_ask]; unfold after
  by_cases h : askF c th ac m n = 0
  · rw [if_pos h, if_pos h]
  · rw [if_neg h, if_neg h]
theorem ack_eq (c th ac m n : Int) : reno_Ack.f c th ac m n = some (after c th ac m n (ackS c th ac m n)) := by unfold reno_Ack.f; rw [step_after]
theorem loss_eq (c th ac m n : Int) : reno_Loss.f c th ac m n = some (after c th ac m n (lossS m n)) := by unfold reno_Loss.f; rw [step_after]
theorem time_eq (c th ac m n : Int) : reno_Timeout.f c th ac m n = some (after c th ac m n (timeS m n)) := by unfold reno_Timeout.f; rw [step_after]
theorem pcheck_eq (c th ac m : Int) : PA.reno_Check.f c th ac m = some (checkF c th ac m) := by rw [← Hand.check_eq]; rfl
def newF (m : Int) : Int × Int × Int × Int := if 1 ≤ m ∧ m ≤ 65535 then (mn (10 * m) (mx (2 * m) 14600), 1073741824, 0, 0) else (0, 0, 0, 4)
theorem size_eq (m : Int) : PA.reno_size.f m = some (if 1 ≤ m ∧ m ≤ 65535 then 0 else 4) := by
  unfold PA.reno_size.f
  by_cases h : 1 ≤ m ∧ m ≤ 65535
  · rw [if_pos h, if_neg (by omega), if_neg (by omega)]
  · rw [if_neg h]; exact ite_to (fun _ => rfl) fun q1 => ite_to (fun _ => rfl) fun q2 => by omega
theorem new_eq (m : Int) : reno_New.f m = some (newF m) := by
  unfold reno_New.f newF
  rw [size_eq]
  simp only [Option.bind_some]
  by_cases h : 1 ≤ m ∧ m ≤ 65535
  · rw [if_pos h, if_pos h, if_pos rfl, wrap_id (x := 10 * m) (by omega) (by omega), wrap_id (x := 2 * m) (by omega) (by omega)]
  · rw [if_neg h, if_neg h, if_neg (by decide)]
theorem rnew_eq (m : Int) : stopcockref20_New.f m = some (newF m) := by
  unfold stopcockref20_New.f newF stopcockref20_Begin.f
  simp only [Option.bind_some]
  by_cases h : 1 ≤ m ∧ m ≤ 65535
  · rw [if_pos h, if_neg (by omega), if_neg (by omega), wrap_id (x := 10 * m) (by omega) (by omega), wrap_id (x := 2 * m) (by omega) (by omega)]
  · rw [if_neg h]; exact ite_to (fun _ => rfl) fun q1 => ite_to (fun _ => rfl) fun q2 => by omega
theorem alive_eq : stopcocklaw20_alive.f = some true := by decide +kernel
end Go.Proofs.Ytjhggbanonfbgaa.Pure
