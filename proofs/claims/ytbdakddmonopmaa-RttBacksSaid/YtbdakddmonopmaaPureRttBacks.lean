/- Each time that runs out doubles the wait, up to the greatest; a sample ends that. -/
import Derived.Test.YtbdakddmonopmaaPAx7
import Derived.Test.YtbdakddmonopmaaPlain
namespace Go.Proofs.Ytbdakddmonopmaa.Pure
open Go.RowKit Go.Proofs.Ytbdakddmonopmaa.PA Go.Proofs.YtbdakddmonopmaaW.PrintWords Go.Proofs.YtbdakddmonopmaaW.PrintLast Go.Proofs.YtbdakddmonopmaaW.PrintMore Go.Proofs.Ytbdakddmonopmaa.Util

theorem backs_ask (r b : Int) (h0 : 1 ≤ r) (h1 : r ≤ 1000) (b0 : 0 ≤ b) (b1 : b ≤ 16) : ask 1000 1 1073741824 1 (8 * r) (2 * r) b = 0 := by
  unfold ask
  rw [if_pos (by decide), if_pos (by unfold okS; omega)]
theorem backs_rto (r b : Int) (h0 : 1 ≤ r) (h1 : r ≤ 1000) (b0 : 0 ≤ b) (b1 : b ≤ 16) : rtoF 1000 1 1073741824 1 true (8 * r) (2 * r) b = (mn (3 * r * 2 ^ b.toNat) 1073741824, 0) := by
  unfold rtoF
  rw [if_pos (backs_ask r b h0 h1 b0 b1)]
  have e : baseF 1000 1 1 true (8 * r) (2 * r) = 3 * r := by
    unfold baseF mx
    rw [if_pos rfl]
    split <;> split <;> omega
  rw [e]
theorem backs_l0 (r n : Int) (h0 : 1 ≤ r) (h1 : r ≤ 1000) (n0 : 0 ≤ n) (n1 : n < 16) : ∀ (d j k : Nat), (j : Int) + d = n → d + 5 < k →
    stopcocklaw18_RttBacks.l0 k r n (3 * r) j 1000 1 1073741824 1 true (8 * r) (2 * r) j = some true := by
  intro d
  induction d with
  | zero =>
    intro j k hj hk
    obtain ⟨k, rfl⟩ : ∃ m, k = m + 1 := ⟨k - 1, by omega⟩
    simp only [stopcocklaw18_RttBacks.l0]
    rw [if_neg (by omega), rto_eq _ _ _ _ _ _ _ _ k (by omega), backs_rto r _ h0 h1 (by omega) (by omega), sample_eq _ _ _ _ _ _ _ _ _ k (by omega)]
    have hs : sampleF 1000 1 1073741824 1 true (8 * r) (2 * r) j r = (true, 8 * r, 2 * r - 2 * r / 4, 0, 0) := by
      unfold sampleF
      rw [if_pos (backs_ask r j h0 h1 (by omega) (by omega)), if_pos (by omega), if_pos rfl, if_neg (by omega)]
      congr 2
      · omega
      · congr 1; omega
    rw [hs]
    simp only [Option.bind_some, stopcocklaw18_num.f]
    have e : n = (j : Int) := by omega
    have hd := dbl_bd (show (0 : Int) ≤ 3 * r by omega) (by omega) (show (0 : Int) ≤ (j : Int) by omega) (by omega)
    rw [wrap_id (x := 0 + 0) (by omega) (by omega), if_pos (show (0 + 0 : Int) = 0 by rfl), if_pos n0, e, shl_val (by omega) (by omega) (by omega), if_pos rfl]
    rfl
  | succ d ih =>
    intro j k hj hk
    obtain ⟨k, rfl⟩ : ∃ m, k = m + 1 := ⟨k - 1, by omega⟩
    simp only [stopcocklaw18_RttBacks.l0]
    have hb : backF 1000 1 1073741824 1 true (8 * r) (2 * r) j = (true, 8 * r, 2 * r, ((j + 1 : Nat) : Int), 0) := by
      unfold backF
      rw [if_pos (backs_ask r j h0 h1 (by omega) (by omega)), if_pos (by omega)]
      rfl
    rw [if_pos (by omega), back_eq _ _ _ _ _ _ _ _ k (by omega), hb, wrap_id (by omega) (by omega)]
    simp only [Option.bind_some]
    exact ih (j + 1) k (by omega) (by omega)

theorem RttBacks : stopcocklaw18_RttBacks.Pure := by
  intro a0 a1 _ _
  obtain ⟨r, hr, r0, r1⟩ := gomod a0 1000 (by omega) (by omega)
  obtain ⟨m, hm, m0, m1⟩ := gomod a1 16 (by omega) (by omega)
  refine ⟨100, ?_⟩
  unfold stopcocklaw18_RttBacks.f
  rw [alive_eq 100 (by omega)]
  simp only [Option.bind_some]
  have hs : sampleF 1000 1 1073741824 1 false 0 0 0 (1 + r) = (true, 8 * (1 + r), 2 * (1 + r), 0, 0) := by
    unfold sampleF
    rw [if_pos (by decide), if_pos (by omega), if_neg (by simp)]
  rw [if_pos trivial, hr, hm, wrap_id (by omega) (by omega), sample_eq _ _ _ _ _ _ _ _ _ 100 (by omega), hs]
  simp only [Option.bind_some]
  rw [rto_eq _ _ _ _ _ _ _ _ 100 (by omega), backs_rto (1 + r) 0 (by omega) (by omega) (by omega) (by omega)]
  simp only [Option.bind_some, stopcocklaw18_num.f]
  have e : mn (3 * (1 + r) * 2 ^ (0 : Int).toNat) 1073741824 = 3 * (1 + r) := by
    simp only [Int.toNat_zero, Int.pow_zero, Int.mul_one]
    unfold mn
    rw [if_neg (by omega)]
  rw [wrap_id (x := 0 + 0) (by omega) (by omega), if_pos (show (0 + 0 : Int) = 0 by rfl), e]
  exact backs_l0 (1 + r) m (by omega) (by omega) m0 m1 m.toNat 0 100 (by omega) (by omega)
end Go.Proofs.Ytbdakddmonopmaa.Pure
