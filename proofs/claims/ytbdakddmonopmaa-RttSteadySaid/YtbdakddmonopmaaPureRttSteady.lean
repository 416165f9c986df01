/- Answers that take always the same: the mean is that, and the wait comes down to a little above it. -/
import Derived.Test.YtbdakddmonopmaaPAx3
import Derived.Test.YtbdakddmonopmaaPlain
namespace Go.Proofs.Ytbdakddmonopmaa.Pure
open Go.RowKit Go.Proofs.Ytbdakddmonopmaa.PA Go.Proofs.YtbdakddmonopmaaW.PrintWords Go.Proofs.YtbdakddmonopmaaW.PrintLast Go.Proofs.YtbdakddmonopmaaW.PrintMore Go.Proofs.Ytbdakddmonopmaa.Util

/-- The deviation behind so many samples more. -/
def V (r : Int) : Nat → Int
  | 0 => 2 * r
  | k + 1 => V r k - V r k / 4
theorem V_bd (r : Int) (h0 : 0 ≤ r) (h1 : r < 100000) (k : Nat) : 0 ≤ V r k ∧ V r k ≤ 200000 := by
  induction k with
  | zero => simp only [V]; omega
  | succ k ih => simp only [V]; omega
theorem V_down (r : Int) (k : Nat) : 4 ^ k * (V r k - 3) ≤ 3 ^ k * (2 * r - 3) := by
  induction k with
  | zero => simp [V]
  | succ k ih =>
    have h1 : 4 * (V r (k + 1) - 3) ≤ 3 * (V r k - 3) := by simp only [V]; omega
    have h2 : (0 : Int) ≤ 4 ^ k := Int.le_of_lt (Int.pow_pos (by decide))
    have h3 := Int.mul_le_mul_of_nonneg_left h1 h2
    have e1 : (4 : Int) ^ (k + 1) * (V r (k + 1) - 3) = 4 ^ k * (4 * (V r (k + 1) - 3)) := by rw [Int.pow_succ, Int.mul_assoc]
    have e2 : (4 : Int) ^ k * (3 * (V r k - 3)) = 3 * (4 ^ k * (V r k - 3)) := by rw [← Int.mul_assoc, Int.mul_comm (4 ^ k) 3, Int.mul_assoc]
    have e3 : (3 : Int) ^ (k + 1) * (2 * r - 3) = 3 * (3 ^ k * (2 * r - 3)) := by rw [Int.pow_succ, Int.mul_comm (3 ^ k) 3, Int.mul_assoc]
    rw [e1, e3]
    rw [e2] at h3
    omega
theorem V_step (r : Int) (h0 : 0 ≤ r) (h1 : r < 100000) (k : Nat) : V r (k + 1) ≤ V r k := by
  have := V_bd r h0 h1 k
  simp only [V]; omega
theorem V_far (r : Int) (h0 : 0 ≤ r) (h1 : r < 100000) : ∀ k : Nat, V r (39 + k) ≤ 3 + r / 1000
  | 0 => by
    have h := V_down r 39
    have e1 : (4 : Int) ^ 39 = 302231454903657293676544 := by decide
    have e2 : (3 : Int) ^ 39 = 4052555153018976267 := by decide
    rw [e1, e2] at h
    show V r 39 ≤ _
    generalize V r 39 = v at *
    omega
  | k + 1 => Int.le_trans (V_step r h0 h1 (39 + k)) (V_far r h0 h1 k)

theorem steady_sample (r v : Int) (h0 : 0 ≤ r) (h1 : r < 100000) (v0 : 0 ≤ v) (v1 : v ≤ 200000) : sampleF 1000 1 1073741824 1 true (8 * r) v 0 r = (true, 8 * r, v - v / 4, 0, 0) := by
  unfold sampleF
  have ha : ask 1000 1 1073741824 1 (8 * r) v 0 = 0 := by
    unfold ask
    rw [if_pos (by decide), if_pos (by unfold okS; omega)]
  rw [if_pos ha, if_pos (by omega), if_pos rfl, if_neg (by omega)]
  congr 2
  · omega
  · congr 1; omega
theorem steady_rto (r v : Int) (h0 : 0 ≤ r) (h1 : r < 100000) (v0 : 0 ≤ v) (v1 : v ≤ 200000) : rtoF 1000 1 1073741824 1 true (8 * r) v 0 = (r + mx 1 v, 0) := by
  unfold rtoF
  have ha : ask 1000 1 1073741824 1 (8 * r) v 0 = 0 := by
    unfold ask
    rw [if_pos (by decide), if_pos (by unfold okS; omega)]
  rw [if_pos ha]
  unfold baseF
  rw [if_pos rfl]
  have e : (8 * r) / 8 = r := by omega
  rw [e]
  unfold mx mn
  simp only [Int.toNat_zero, Int.pow_zero, Int.mul_one]
  congr 1
  split <;> split <;> split <;> omega

theorem steady_l0 (r n : Int) (h0 : 0 ≤ r) (h1 : r < 100000) (n0 : 40 ≤ n) (n1 : n < 140) : ∀ (d j k : Nat), (j : Int) + 1 + d = n → d + 5 < k →
    stopcocklaw18_RttSteady.l0 k r n (V r j) ((j : Int) + 1) 1000 1 1073741824 1 true (8 * r) (V r j) 0 = some true := by
  intro d
  induction d with
  | zero =>
    intro j k hj hk
    obtain ⟨k, rfl⟩ : ∃ m, k = m + 1 := ⟨k - 1, by omega⟩
    obtain ⟨v0, v1⟩ := V_bd r h0 h1 j
    simp only [stopcocklaw18_RttSteady.l0]
    rw [if_neg (by omega), rto_eq _ _ _ _ _ _ _ _ k (by omega), steady_rto r _ h0 h1 v0 v1]
    simp only [Option.bind_some, stopcocklaw18_num.f]
    have hf := V_far r h0 h1 (j - 39)
    rw [show 39 + (j - 39) = j by omega] at hf
    generalize V r j = v at *
    have hm : v ≤ mx 1 v ∧ 0 ≤ mx 1 v ∧ mx 1 v ≤ mx 4 v ∧ mx 4 v ≤ 200000 := by unfold mx; split <;> split <;> omega
    rw [tdiv_pos h0, wrap_id (x := r / 1000) (by omega) (by omega), wrap_id (x := 3 + r / 1000) (by omega) (by omega), wrap_id (x := r + mx 4 v) (by omega) (by omega)]
    rw [if_pos trivial, if_pos (by omega), if_pos (by omega)]
    simp; omega
  | succ d ih =>
    intro j k hj hk
    obtain ⟨k, rfl⟩ : ∃ m, k = m + 1 := ⟨k - 1, by omega⟩
    obtain ⟨v0, v1⟩ := V_bd r h0 h1 j
    simp only [stopcocklaw18_RttSteady.l0]
    rw [if_pos (by omega), sample_eq _ _ _ _ _ _ _ _ _ k (by omega), steady_sample r _ h0 h1 v0 v1]
    simp only [Option.bind_some, stopcocklaw18_num.f]
    have hv := V_step r h0 h1 j
    simp only [V] at hv
    rw [if_pos trivial, tdiv_pos (by omega), show (8 * r) / 8 = r by omega, wrap_id (x := r) (by omega) (by omega), if_pos rfl, if_neg (by omega), wrap_id (by omega) (by omega)]
    have := ih (j + 1) k (by omega) (by omega)
    simp only [V] at this
    rw [show ((j + 1 : Nat) : Int) + 1 = (j : Int) + 1 + 1 by omega] at this
    exact this

theorem steady_first (r n : Int) (h0 : 0 ≤ r) (h1 : r < 100000) (n0 : 40 ≤ n) (n1 : n < 140) (k : Nat) (hk : 200 ≤ k) :
    stopcocklaw18_RttSteady.l0 (k + 1) r n 1099511627776 0 1000 1 1073741824 1 false 0 0 0 = some true := by
  simp only [stopcocklaw18_RttSteady.l0]
  have hs : sampleF 1000 1 1073741824 1 false 0 0 0 r = (true, 8 * r, 2 * r, 0, 0) := by
    unfold sampleF
    rw [if_pos (by decide), if_pos (by omega), if_neg (by simp)]
  rw [if_pos (by omega), sample_eq _ _ _ _ _ _ _ _ _ k (by omega), hs]
  simp only [Option.bind_some, stopcocklaw18_num.f]
  rw [if_pos trivial, tdiv_pos (by omega), show (8 * r) / 8 = r by omega, wrap_id (x := r) (by omega) (by omega), if_pos rfl, if_neg (by omega)]
  have := steady_l0 r n h0 h1 n0 n1 (n - 1).toNat 0 k (by omega) (by omega)
  simp only [V] at this
  rw [wrap_id (by omega) (by omega)]
  exact this

theorem RttSteady : stopcocklaw18_RttSteady.Pure := by
  intro a0 a1 _ _
  obtain ⟨r, hr, r0, r1⟩ := gomod a0 100000 (by omega) (by omega)
  obtain ⟨m, hm, m0, m1⟩ := gomod a1 100 (by omega) (by omega)
  refine ⟨300 + 1, ?_⟩
  unfold stopcocklaw18_RttSteady.f
  rw [alive_eq (300 + 1) (by omega)]
  simp only [Option.bind_some]
  rw [if_pos trivial, hr, hm, wrap_id (by omega) (by omega)]
  exact steady_first r (40 + m) r0 r1 (by omega) (by omega) 300 (by omega)
end Go.Proofs.Ytbdakddmonopmaa.Pure
