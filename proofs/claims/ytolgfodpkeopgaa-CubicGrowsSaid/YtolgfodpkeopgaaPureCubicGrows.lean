import Derived.Test.YtolgfodpkeopgaaMoves
import Derived.Test.YtolgfodpkeopgaaPAx13
namespace Go.Proofs.Ytolgfodpkeopgaa.Pure
open Go.RowKit Go.Proofs.Ytolgfodpkeopgaa.PA Go.Proofs.YtolgfodpkeopgaaW.PrintWords Go.Proofs.YtolgfodpkeopgaaW.PrintLast Go.Proofs.YtolgfodpkeopgaaW.PrintMore Go.Proofs.Ytolgfodpkeopgaa.Util
set_option linter.unusedVariables false
set_option linter.unusedSimpArgs false

theorem go_ok (c th mo tu ep es : Int) (h : Bool) (m n now rtt : Int) (hm : okM m) (hs : okS c th mo tu ep es m) (hn : okN n now rtt) : ∃ c' es', goF c th mo tu ep es h m n now rtt = (c', th, mo, tu, ep, es', h, 0) ∧ c ≤ c' ∧ okS c' th mo tu ep es' m := by
  obtain ⟨⟨c0, c1⟩, ⟨th0, th1⟩, ⟨⟨mo0, mo1⟩, es0, es1⟩, ⟨tu0, tu1⟩, ep0, ep1⟩ := hs
  obtain ⟨⟨⟨n0, n1⟩, r0, r1⟩, w0, w1⟩ := hn
  obtain ⟨e1, e2, e3, e4⟩ := est_bd (n := n) hm c0 n0 n1
  obtain ⟨m0, m1⟩ := hm
  unfold goF
  have hx := mn_or (es + 9 * m * n / (17 * c)) 1073741824
  generalize curveF mo m (mx 0 (now - ep) + rtt - tu) = aim
  generalize mn (es + 9 * m * n / (17 * c)) 1073741824 = e at *
  by_cases g : e > aim
  · rw [if_pos g]
    have hy := mx_or c e
    exact ⟨_, _, rfl, by omega, ⟨⟨by omega, by omega⟩, ⟨th0, th1⟩, ⟨⟨mo0, mo1⟩, by omega, by omega⟩, ⟨tu0, tu1⟩, ep0, ep1⟩⟩
  · rw [if_neg g]
    obtain ⟨g1, g2, g3, g4⟩ := grow_bd (x := aim) (c := c) (n := n) (by omega) c1 n0 n1
    have hy := mn_or (c + (mn (mx aim c) (c * 3 / 2) - c) * n / c) 1073741824
    exact ⟨_, _, rfl, by omega, ⟨⟨by omega, by omega⟩, ⟨th0, th1⟩, ⟨⟨mo0, mo1⟩, by omega, by omega⟩, ⟨tu0, tu1⟩, ep0, ep1⟩⟩
theorem ack_ok (c th mo tu ep es : Int) (h : Bool) (m n now rtt : Int) (hz : (AckF c th mo tu ep es h m n now rtt).2.2.2.2.2.2.2 = 0) : ∃ c' th' mo' tu' ep' es' h', AckF c th mo tu ep es h m n now rtt = (c', th', mo', tu', ep', es', h', 0) ∧ c ≤ c' ∧ okM m ∧ okS c' th' mo' tu' ep' es' m := by
  unfold AckF at *
  by_cases h1 : CheckF c th mo tu ep es m = 0
  · obtain ⟨hm, hs⟩ := check_zero.1 h1
    rw [if_pos h1] at hz ⊢
    by_cases h2 : okN n now rtt
    · rw [if_pos h2] at hz ⊢
      by_cases h4 : c < th
      · rw [if_pos h4]
        obtain ⟨⟨c0, c1⟩, ⟨th0, th1⟩, ⟨⟨mo0, mo1⟩, es0, es1⟩, ⟨tu0, tu1⟩, ep0, ep1⟩ := hs
        obtain ⟨⟨⟨n0, n1⟩, r0, r1⟩, w0, w1⟩ := h2
        have hm' := id hm
        obtain ⟨m0, m1⟩ := hm'
        have hx := mn_or n m
        have hy := mn_or (c + mn n m) 1073741824
        exact ⟨_, _, _, _, _, _, _, rfl, by omega, hm, ⟨⟨by omega, by omega⟩, ⟨th0, th1⟩, ⟨⟨mo0, mo1⟩, by omega, by omega⟩, ⟨tu0, tu1⟩, ep0, ep1⟩⟩
      · rw [if_neg h4]
        by_cases h5 : h = true
        · rw [if_pos h5]
          obtain ⟨c', es', q1, q2, q3⟩ := go_ok c th mo tu ep es h m n now rtt hm hs h2
          exact ⟨_, _, _, _, _, _, _, q1, q2, hm, q3⟩
        · rw [if_neg h5]
          obtain ⟨c', es', q1, q2, q3⟩ := go_ok c th (mx mo c) (turnF mo c m) now c true m n now rtt hm (ok_begun hm hs h2.2.1 h2.2.2) h2
          exact ⟨_, _, _, _, _, _, _, q1, q2, hm, q3⟩
    · rw [if_neg h2] at hz
      exact absurd hz (by decide)
  · rw [if_neg h1] at hz
    exact absurd hz h1
theorem CubicGrows : stopcocklaw21_CubicGrows.Pure := by
  intro c th mo tu ep es h m n now rtt _ _ _ _ _ _ _ _ _ _
  suffices g : ∀ k, 50 ≤ k → stopcocklaw21_CubicGrows.f (k + 1) c th mo tu ep es h m n now rtt = some true from ⟨51, g 50 (by omega)⟩
  intro k hk
  have fin : stopcocklaw21_CubicGrows.j0 (k + 1) m false c th mo tu ep es h = some true := by
    simp only [stopcocklaw21_CubicGrows.j0]
    rw [if_neg (by decide), Loss_eq _ _ _ _ _ _ _ _ _ (by omega), Timeout_eq _ _ _ _ _ _ _ _ _ (by omega)]
    simp only [Option.bind_some, num_eq]
    unfold TimeoutF
    have hl : LossF c th mo tu ep es m = LossF c th mo tu ep es m := rfl
    conv at hl => rhs; unfold LossF
    by_cases h1 : CheckF c th mo tu ep es m = 0
    · obtain ⟨hm, hs⟩ := check_zero.1 h1
      rw [if_pos h1] at hl
      rw [hl]
      obtain ⟨⟨c0, c1⟩, ⟨th0, th1⟩, ⟨⟨mo0, mo1⟩, es0, es1⟩, ⟨tu0, tu1⟩, ep0, ep1⟩ := hs
      have hm' := id hm
      obtain ⟨m0, m1⟩ := hm'
      have hx := mx_or (c * 7 / 10) (2 * m)
      have hy := mn_or (mx (c * 7 / 10) (2 * m)) 1073741824
      obtain ⟨v, hv⟩ : ∃ v, (if mo > c then c * 17 / 20 else c) = v := ⟨_, rfl⟩
      have hv2 : 0 ≤ v ∧ v ≤ c := by rw [← hv]; split <;> omega
      rw [hv]
      have hz := mx_or c (2 * m)
      rw [wrap_id (x := 2 * m) (by omega) (by omega)]
      generalize mn (mx (c * 7 / 10) (2 * m)) 1073741824 = t at *
      generalize mx c (2 * m) = u at *
      simp only [if_true_eq]
      rw [Check_eq _ _ _ _ _ _ _ _ _ (by omega), Check_eq _ _ _ _ _ _ _ _ _ (by omega)]
      simp only [Option.bind_some]
      rw [if_pos (check_zero.2 ⟨hm, ⟨by omega, by omega⟩, ⟨by omega, by omega⟩, ⟨⟨by omega, by omega⟩, by omega, by omega⟩, ⟨tu0, tu1⟩, ep0, ep1⟩), if_pos (check_zero.2 ⟨hm, ⟨by omega, by omega⟩, ⟨by omega, by omega⟩, ⟨⟨by omega, by omega⟩, by omega, by omega⟩, ⟨tu0, tu1⟩, ep0, ep1⟩), if_pos (by omega), if_pos (by omega)]
      rfl
    · rw [if_neg h1] at hl
      rw [hl]
      dsimp only
      rw [if_neg h1]
      rw [if_neg h1, if_pos rfl]
      rfl
  unfold stopcocklaw21_CubicGrows.f
  rw [alive (k + 1) (by omega)]
  simp only [Option.bind_some, if_true_eq]
  rw [Ack_eq _ _ _ _ _ _ _ _ _ _ _ _ (by omega)]
  simp only [Option.bind_some, num_eq]
  by_cases hz : (AckF c th mo tu ep es h m n now rtt).2.2.2.2.2.2.2 = 0
  · rw [if_pos hz]
    obtain ⟨c', th', mo', tu', ep', es', h', q1, q2, q3, q4⟩ := ack_ok c th mo tu ep es h m n now rtt hz
    rw [q1]
    dsimp only
    rw [if_neg (by omega), Check_eq _ _ _ _ _ _ _ _ _ (by omega), check_zero.2 ⟨q3, q4⟩]
    simp only [Option.bind_some]
    exact fin
  · rw [if_neg hz]
    exact fin
end Go.Proofs.Ytolgfodpkeopgaa.Pure
