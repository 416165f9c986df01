/- Segments of one size that leave one by one, each as the one ahead is delivered: the rate is a segment in the time that it takes; each is a round. -/
import Derived.Test.YthgihjahpjggoaaPBx12
import Derived.Test.YthgihjahpjggoaaRate
namespace Go.Proofs.Ythgihjahpjggoaa.Pure
open Go.RowKit Go.Proofs.Ythgihjahpjggoaa.PB Go.Proofs.YthgihjahpjggoaaW.PrintWords Go.Proofs.YthgihjahpjggoaaW.PrintLast Go.Proofs.YthgihjahpjggoaaW.PrintMore Go.Proofs.Ythgihjahpjggoaa.Util Go.Proofs.Ythgihjahpjggoaa.PureB

theorem steady_l0 (z w n : Int) (z0 : 1 ≤ z) (z1 : z ≤ 60000) (w0 : 1 ≤ w) (w1 : w ≤ 1000) (n0 : 1 ≤ n) (n1 : n ≤ 50) : ∀ (d i k : Nat) (at_ fi : Int), (i : Int) + d = n → d + 20 < k → tk at_ → tk fi →
    stopcocklaw19_PrrSteady.l0 k z w n (i * w) i (i * z) at_ fi i (i * z) = some true := by
  intro d
  induction d with
  | zero =>
    intro i k at_ fi hi hk ha hf
    obtain ⟨k, rfl⟩ : ∃ m, k = m + 1 := ⟨k - 1, by omega⟩
    simp only [stopcocklaw19_PrrSteady.l0]
    have e : n = (i : Int) := by omega
    have h1 : (i : Int) * z ≤ 50 * 60000 := Int.mul_le_mul (by omega) (by omega) (by omega) (by omega)
    have h2 : 0 ≤ (i : Int) * z := Int.mul_nonneg (by omega) (by omega)
    rw [if_neg (by omega), e, wrap_id (by omega) (by omega)]
    simp
  | succ d ih =>
    intro i k at_ fi hi hk ha hf
    obtain ⟨k, rfl⟩ : ∃ m, k = m + 1 := ⟨k - 1, by omega⟩
    simp only [stopcocklaw19_PrrSteady.l0]
    have h1 : (i : Int) * z ≤ 50 * 60000 := Int.mul_le_mul (by omega) (by omega) (by omega) (by omega)
    have h2 : 0 ≤ (i : Int) * z := Int.mul_nonneg (by omega) (by omega)
    have h3 : (i : Int) * w ≤ 50 * 1000 := Int.mul_le_mul (by omega) (by omega) (by omega) (by omega)
    have h4 : 0 ≤ (i : Int) * w := Int.mul_nonneg (by omega) (by omega)
    have e1 : ((i + 1 : Nat) : Int) * z = (i : Int) * z + z := by rw [show ((i + 1 : Nat) : Int) = (i : Int) + 1 by omega, Int.add_mul, Int.one_mul]
    have e2 : ((i + 1 : Nat) : Int) * w = (i : Int) * w + w := by rw [show ((i + 1 : Nat) : Int) = (i : Int) + 1 by omega, Int.add_mul, Int.one_mul]
    have ih' := ih (i + 1) k ((i : Int) * w + w) ((i : Int) * w) (by omega) (by omega) ⟨by omega, by omega⟩ ⟨by omega, by omega⟩
    rw [e1, e2] at ih'
    generalize hx : (i : Int) * z = x at *
    generalize hy : (i : Int) * w = y at *
    obtain ⟨f1, f2⟩ := hf
    obtain ⟨a1, a2⟩ := ha
    have hs : sendF x at_ fi i x y true = (x, y, y, (i : Int), x, x, y, y, y, 0) := by
      unfold sendF
      rw [if_pos (by unfold okR tk; omega), if_pos (by unfold tk; omega), if_pos rfl]
    have hq0 : 0 ≤ z * 1024 / w := ediv_lo (by omega) (by omega)
    have hq1 : z * 1024 / w ≤ z * 1024 := ediv_hi (by omega)
    have hd : deliverF x y y i x x y y y z (y + w) = (x + z, y + w, y, (i : Int) + 1, x + z, z * 1024 / w, true, 0) := by
      have m1 : mn (x + z) 1099511627776 = x + z := by unfold mn; rw [if_neg (by omega)]
      have m2 : mn ((i : Int) + 1) 1099511627776 = i + 1 := by unfold mn; rw [if_neg (by omega)]
      have m3 : mx (y - y) (y + w - y) = w := by unfold mx; rw [if_pos (by omega)]; omega
      unfold deliverF came while_
      rw [m1, m2, m3, show x + z - x = z by omega]
      rw [if_pos (by unfold okR tk; omega), if_pos (by unfold okD tk; omega), if_pos (by omega), if_pos (by omega), if_neg (by omega), if_neg (by omega)]
      have m4 : mn (z * 1024 / w) 1073741824 = z * 1024 / w := by unfold mn; rw [if_neg (by omega)]
      rw [m4]
    rw [if_pos (by omega), send_eq _ _ _ _ _ _ _ k (by omega), hs]
    simp only [Option.bind_some]
    rw [wrap_id (x := y + w) (by omega) (by omega), deliver_eq _ _ _ _ _ _ _ _ _ _ _ k (by omega), hd]
    simp only [Option.bind_some, stopcocklaw19_num.f]
    rw [wrap_id (x := 0 + 0) (by omega) (by omega), if_pos (show (0 + 0 : Int) = 0 by rfl), if_pos trivial, if_neg (by omega), wrap_id (x := z * 1024) (by omega) (by omega), tdiv_pos (by omega), wrap_id (x := z * 1024 / w) (by omega) (by omega), if_pos rfl, wrap_id (x := (i : Int) + 1) (by omega) (by omega), if_pos rfl]
    rw [show ((i + 1 : Nat) : Int) = (i : Int) + 1 by omega] at ih'
    exact ih'

theorem PrrSteady : stopcocklaw19_PrrSteady.Pure := by
  intro a0 a1 a2 _ _ _
  obtain ⟨z, hz, z0, z1⟩ := gomod a0 60000 (by omega) (by omega)
  obtain ⟨w, hw, w0, w1⟩ := gomod a1 1000 (by omega) (by omega)
  obtain ⟨n, hn, n0, n1⟩ := gomod a2 50 (by omega) (by omega)
  refine ⟨200, ?_⟩
  unfold stopcocklaw19_PrrSteady.f
  rw [alive_eq 200 (by omega), hz, hw, hn, wrap_id (x := 1 + z) (by omega) (by omega), wrap_id (x := 1 + w) (by omega) (by omega), wrap_id (x := 1 + n) (by omega) (by omega)]
  simp only [Option.bind_some]
  rw [if_pos trivial]
  have := steady_l0 (1 + z) (1 + w) (1 + n) (by omega) (by omega) (by omega) (by omega) (by omega) (by omega) (1 + n).toNat 0 200 0 0 (by omega) (by omega) (by unfold tk; omega) (by unfold tk; omega)
  simp only [Int.zero_mul, show ((0 : Nat) : Int) = 0 by rfl] at this
  exact this
end Go.Proofs.Ythgihjahpjggoaa.Pure
