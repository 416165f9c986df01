import Derived.Test.YtjhggbanonfbgaaPlain
import Derived.Test.YtjhggbanonfbgaaPAx16
namespace Go.Proofs.Ytjhggbanonfbgaa.Pure
open Go.RowKit Go.Proofs.Ytjhggbanonfbgaa.PA Go.Proofs.YtjhggbanonfbgaaW.PrintWords Go.Proofs.YtjhggbanonfbgaaW.PrintLast Go.Proofs.YtjhggbanonfbgaaW.PrintMore Go.Proofs.Ytjhggbanonfbgaa.Util Go.Proofs.Ytjhggbanonfbgaa.Hand
set_option linter.unusedVariables false
set_option linter.unusedSimpArgs false

theorem after_ok {c th ac m n : Int} (h : askF c th ac m n = 0) (s : Int × Int × Int) : after c th ac m n s = (s.1, s.2.1, s.2.2, 0) := by unfold after; rw [if_pos h]
theorem after_bad {c th ac m n : Int} (h : ¬ askF c th ac m n = 0) (s : Int × Int × Int) : after c th ac m n s = (0, 0, 0, askF c th ac m n) := by unfold after; rw [if_neg h]
def evS (c th ac m : Int) (x : S42) : Int × Int × Int := if x.f0 = 1 then lossS m x.f1 else if x.f0 = 2 then timeS m x.f1 else ackS c th ac m x.f1
theorem pafter_eq (c th ac m : Int) (x : S42) : stopcocklaw20_after.f c th ac m x.f0 x.f1 = some (after c th ac m x.f1 (evS c th ac m x)) := by
  unfold stopcocklaw20_after.f evS
  rw [loss_eq, time_eq, ack_eq]
  simp only [Option.bind_some]
  by_cases h1 : x.f0 = 1
  · rw [if_pos h1, if_pos h1]
  · rw [if_neg h1, if_neg h1]
    by_cases h2 : x.f0 = 2
    · rw [if_pos h2, if_pos h2]
    · rw [if_neg h2, if_neg h2]
/-- What a round keeps: the state may be. -/
theorem ev_keeps {c th ac m n : Int} (h : askF c th ac m n = 0) (x : S42) (hx : x.f1 = n) : okS (evS c th ac m x).1 (evS c th ac m x).2.1 (evS c th ac m x).2.2 m := by
  obtain ⟨⟨⟨m0, m1⟩, ⟨c0, c1⟩, ⟨t0, t1⟩, a0, a1⟩, n0, n1⟩ := ask_zero.1 h
  unfold evS
  rw [hx]
  have q1 := mx_or (n / 2) (2 * m)
  by_cases h1 : x.f0 = 1
  · rw [if_pos h1]; unfold lossS okS; dsimp only; omega
  · rw [if_neg h1]
    by_cases h2 : x.f0 = 2
    · rw [if_pos h2]; unfold timeS okS; dsimp only; omega
    · rw [if_neg h2]
      unfold ackS
      have q2 := mn_or n m
      have q3 := mn_or (c + mn n m) 1073741824
      have q4 := mn_or (ac + n) 1073741824
      have q5 := mn_or (c + m) 1073741824
      by_cases g : c < th
      · rw [if_pos g]; unfold okS; dsimp only; omega
      · rw [if_neg g]
        by_cases e : mn (ac + n) 1073741824 ≥ c
        · rw [if_pos e]; unfold okS; dsimp only; omega
        · rw [if_neg e]; unfold okS; dsimp only; omega
theorem round (m : Int) (l : List S42) (hl : l.length < 1000000000000000) : ∀ (d i : Nat) (c th ac : Int), i + d = l.length → ∃ K, ∀ k, K ≤ k →
    stopcocklaw20_RenoPlays.l0 k m l 0 (i : Int) c th ac c th ac = some true := by
  intro d
  induction d with
  | zero =>
    intro i c th ac h
    refine ⟨2, fun k hk => ?_⟩
    obtain ⟨k, rfl⟩ : ∃ j, k = j + 1 + 1 := ⟨k - 2, by omega⟩
    simp only [stopcocklaw20_RenoPlays.l0, stopcocklaw20_RenoPlays.j1]
    rw [if_pos trivial, decide_eq_false (by omega), if_neg (by decide), alive_eq]
    rfl
  | succ d ih =>
    intro i c th ac h
    obtain ⟨x, hx⟩ : ∃ x, rd_T42 l (i : Int) = x := ⟨_, rfl⟩
    obtain ⟨K1, ih1⟩ := ih (i + 1) (evS c th ac m x).1 (evS c th ac m x).2.1 (evS c th ac m x).2.2 (by omega)
    obtain ⟨K2, ih2⟩ := ih (i + 1) c th ac (by omega)
    refine ⟨K1 + K2 + 5, fun k hk => ?_⟩
    obtain ⟨k, rfl⟩ : ∃ j, k = j + 1 + 1 + 1 + 1 + 1 := ⟨k - 5, by omega⟩
    simp only [stopcocklaw20_RenoPlays.l0, stopcocklaw20_RenoPlays.j1]
    rw [if_pos trivial, decide_eq_true (by omega), if_pos rfl, if_pos (by omega), if_pos (by omega), hx, pafter_eq]
    simp only [Option.bind_some]
    have fin : stopcocklaw20_RenoPlays.j2 (k + 3) m l 0 (i : Int) (after c th ac m x.f1 (evS c th ac m x)).2.2.2 (after c th ac m x.f1 (evS c th ac m x)).2.2.2 c th ac c th ac (after c th ac m x.f1 (evS c th ac m x)).1 (after c th ac m x.f1 (evS c th ac m x)).2.1 (after c th ac m x.f1 (evS c th ac m x)).2.2.1 (after c th ac m x.f1 (evS c th ac m x)).1 (after c th ac m x.f1 (evS c th ac m x)).2.1 (after c th ac m x.f1 (evS c th ac m x)).2.2.1 = some true := by
      simp only [stopcocklaw20_RenoPlays.j2, stopcocklaw20_RenoPlays.j3]
      rw [if_neg (by simp)]
      simp only [num_eq, Option.bind_some]
      rw [if_neg (by simp), show wrap64 ((i : Int) + 1) = ((i + 1 : Nat) : Int) by rw [wrap_id (by omega) (by omega)]; omega]
      by_cases ha : askF c th ac m x.f1 = 0
      · rw [after_ok ha]
        have hk2 := ev_keeps ha x rfl
        unfold okS at hk2
        dsimp only
        rw [if_pos (show (0 : Int) = 0 from rfl), if_neg (by omega), if_neg (by omega)]
        exact ih1 _ (by omega)
      · rw [after_bad ha]
        dsimp only
        rw [if_neg ha]
        exact ih2 _ (by omega)
    by_cases h1 : x.f0 = 1
    · rw [if_pos h1, rloss_eq, step_after]
      simp only [Option.bind_some]
      have e : evS c th ac m x = lossS m x.f1 := by unfold evS; rw [if_pos h1]
      rw [e] at fin ⊢
      exact fin
    · rw [if_neg h1]
      by_cases h2 : x.f0 = 2
      · rw [if_pos h2, rtime_eq, step_after]
        simp only [Option.bind_some]
        have e : evS c th ac m x = timeS m x.f1 := by unfold evS; rw [if_neg h1, if_pos h2]
        rw [e] at fin ⊢
        exact fin
      · rw [if_neg h2, rack_eq, step_after]
        simp only [Option.bind_some]
        have e : evS c th ac m x = ackS c th ac m x.f1 := by unfold evS; rw [if_neg h1, if_neg h2]
        rw [e] at fin ⊢
        exact fin
theorem RenoPlays : stopcocklaw20_RenoPlays.Pure := by
  intro m l _ hl _
  unfold stopcocklaw20_RenoPlays.f
  simp only [new_eq, rnew_eq, Option.bind_some, num_eq, if_true_eq]
  unfold newF
  by_cases h : 1 ≤ m ∧ m ≤ 65535
  · rw [if_pos h]
    obtain ⟨K, hK⟩ := round m l (by omega) l.length 0 (mn (10 * m) (mx (2 * m) 14600)) 1073741824 0 (by omega)
    exact ⟨K, hK K (Nat.le_refl _)⟩
  · rw [if_neg h]
    refine ⟨2, ?_⟩
    simp only [stopcocklaw20_RenoPlays.l0, stopcocklaw20_RenoPlays.j1]
    rw [if_neg (by decide), if_neg (by decide), alive_eq]
    rfl
end Go.Proofs.Ytjhggbanonfbgaa.Pure
