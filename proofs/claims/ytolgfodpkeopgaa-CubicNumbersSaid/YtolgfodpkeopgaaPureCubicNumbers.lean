import Derived.Test.YtolgfodpkeopgaaCurve
import Derived.Test.YtolgfodpkeopgaaPAx7
namespace Go.Proofs.Ytolgfodpkeopgaa.Pure
open Go.RowKit Go.Proofs.Ytolgfodpkeopgaa.PA Go.Proofs.YtolgfodpkeopgaaW.PrintWords Go.Proofs.YtolgfodpkeopgaaW.PrintLast Go.Proofs.YtolgfodpkeopgaaW.PrintMore Go.Proofs.Ytolgfodpkeopgaa.Util
set_option linter.unusedVariables false
set_option linter.unusedSimpArgs false

theorem CubicNumbers : stopcocklaw21_CubicNumbers.Pure := by
  intro n a c m d wn _ _ _ _
  have hn : 0 ≤ n ∧ n < 18446744073709551616 := by
    simp [Lit.wf, IntKind.min, IntKind.max, IntKind.bits, IntKind.signed] at wn
    omega
  suffices h : ∀ k, 50 ≤ k → stopcocklaw21_CubicNumbers.f (k + 1) n a c m d = some true from ⟨51, h 50 (by omega)⟩
  intro k hk
  have fin : stopcocklaw21_CubicNumbers.j0 (k + 1) a c m d false = some true := by
    simp only [stopcocklaw21_CubicNumbers.j0]
    rw [if_neg (by decide), Curve_eq a m d k (by omega), rCurve_eq, Turn_eq a c m k (by omega), rTurn_eq a c m k (by omega)]
    simp only [Option.bind_some, num_eq, alive k (by omega), if_true_eq]
  unfold stopcocklaw21_CubicNumbers.f
  rw [root_eq n hn.1 hn.2 (k + 1) (by omega)]
  simp only [Option.bind_some]
  obtain ⟨⟨r0, r1, r2⟩, _⟩ := root_is n hn.1 hn.2
  have r3 := root_top hn.1 hn.2
  generalize rootF n = r at *
  have q1 := abs_mul (a := r) (A := 2642245) (b := r) (B := 2642245) (by omega) r3 (by omega) r3
  have q2 := Int.mul_nonneg r0 r0
  have q3 := Int.mul_nonneg q2 r0
  rw [if_neg (by omega), u64_id (x := r * r) q2 (by omega), u64_id (x := r * r * r) q3 (by omega), if_neg (by omega)]
  by_cases h : r < 2642245
  · have p1 := abs_mul (a := r + 1) (A := 2642245) (b := r + 1) (B := 2642245) (by omega) (by omega) (by omega) (by omega)
    have p2 : 0 ≤ (r + 1) * (r + 1) := Int.mul_nonneg (by omega) (by omega)
    have p3 : 0 ≤ (r + 1) * (r + 1) * (r + 1) := Int.mul_nonneg p2 (by omega)
    have p4 := abs_mul (a := (r + 1) * (r + 1)) (A := 2642245 * 2642245) (b := r + 1) (B := 2642245) (by omega) (by omega) (by omega) (by omega)
    rw [if_pos h, u64_id (x := r + 1) (by omega) (by omega), u64_id (x := (r + 1) * (r + 1)) p2 (by omega), u64_id (x := (r + 1) * (r + 1) * (r + 1)) p3 (by omega), decide_eq_false (by omega), fin]
  · rw [if_neg h, fin]
end Go.Proofs.Ytolgfodpkeopgaa.Pure
