import Derived.Test.YtjhggbanonfbgaaPGx5
import Derived.Test.YtjhggbanonfbgaaHand
namespace Go.Proofs.Ytjhggbanonfbgaa.Pure
open Go.RowKit Go.Proofs.Ytjhggbanonfbgaa.PG Go.Proofs.YtjhggbanonfbgaaW.PrintWords Go.Proofs.YtjhggbanonfbgaaW.PrintLast Go.Proofs.YtjhggbanonfbgaaW.PrintMore Go.Proofs.Ytjhggbanonfbgaa.Util Go.Proofs.Ytjhggbanonfbgaa.Hand
set_option linter.unusedVariables false
set_option linter.unusedSimpArgs false

def askF (c th ac m n : Int) : Int := if checkF c th ac m = 0 then (if inN n then 0 else 4) else checkF c th ac m
theorem step_ask (c th ac m n : Int) (s : Int × Int × Int) : stepF c th ac m n s = if askF c th ac m n = 0 then some (s.1, s.2.1, s.2.2, 0) else some (0, 0, 0, askF c th ac m n) := by
  unfold stepF askF
  by_cases h : checkF c th ac m = 0
  · rw [if_pos h, if_pos h]
    by_cases g : inN n
    · rw [if_pos g, if_pos g, if_pos rfl]
    · rw [if_neg g, if_neg g, if_neg (by decide)]
  · rw [if_neg h, if_neg h, if_neg h]
theorem ask_zero {c th ac m n : Int} : askF c th ac m n = 0 ↔ ((1 ≤ m ∧ m ≤ 65535) ∧ okS c th ac m) ∧ inN n := by
  unfold askF
  rw [← check_zero]
  by_cases h : checkF c th ac m = 0
  · rw [if_pos h]
    by_cases g : inN n
    · rw [if_pos g]; exact ⟨fun _ => ⟨h, g⟩, fun _ => rfl⟩
    · rw [if_neg g]; exact ⟨fun q => by omega, fun q => absurd q.2 g⟩
  · rw [if_neg h]; exact ⟨fun q => absurd q h, fun q => absurd q.1 h⟩
/-- What follows, as one tuple. -/
def after (c th ac m n : Int) (s : Int × Int × Int) : Int × Int × Int × Int := if askF c th ac m n = 0 then (s.1, s.2.1, s.2.2, 0) else (0, 0, 0, askF c th ac m n)
theorem step_after (c th ac m n : Int) (s : Int × Int × Int) : stepF c th ac m n s = some (after c th ac m n s) := by
  rw [step_ask]; unfold after
  by_cases h : askF c th ac m n = 0
  · rw [if_pos h, if_pos h]
  · rw [if_neg h, if_neg h]
theorem num_eq (x : Int) : stopcocklaw20_num.f x = some x := rfl
theorem ack_eq (c th ac m n : Int) : reno_Ack.f c th ac m n = some (after c th ac m n (ackS c th ac m n)) := by unfold reno_Ack.f; rw [step_after]
theorem alive_eq : stopcocklaw20_alive.f = some true := by decide +kernel
set_option maxRecDepth 20000 in
theorem round (m : Int) (m0 : 1 ≤ m) (m1 : m ≤ 1500) (th : Int) (t0 : 1 ≤ th) (t1 : th ≤ 20000) (l : List Int) (hl : l.length < 1000000000000000) (hw : ∀ x ∈ l, (Lit.int .i64 x).wf = true) :
    ∀ (d i : Nat) (c ac : Int), i + d = 300 → m ≤ c → c ≤ 4 * m + 1500 * i → 0 ≤ ac → ac < c → ∃ K, ∀ k, K ≤ k → stopcocklaw20_RenoGrows.l0 k m l (i : Int) c th ac = some true := by
  intro d
  induction d with
  | zero =>
    intro i c ac h c0 c1 a0 a1
    refine ⟨2, fun k hk => ?_⟩
    obtain ⟨k, rfl⟩ : ∃ j, k = j + 1 + 1 := ⟨k - 2, by omega⟩
    simp only [stopcocklaw20_RenoGrows.l0, stopcocklaw20_RenoGrows.j1]
    rw [decide_eq_false (by omega)]
    simp
  | succ d ih =>
    intro i c ac h c0 c1 a0 a1
    by_cases hi : i < l.length
    · have hv : -9223372036854775808 ≤ rd l (i : Int) ∧ rd l (i : Int) ≤ 9223372036854775807 := by
        apply wf64
        unfold rd
        rw [Int.toNat_natCast, getD_eq l i 0 hi]
        exact hw _ (List.getElem_mem hi)
      obtain ⟨n, hn, n0, n1⟩ := gomod (rd l (i : Int)) c (by omega) (by omega)
      have hask : askF c th ac m n = 0 := ask_zero.2 ⟨⟨⟨by omega, by omega⟩, ⟨by omega, by omega⟩, ⟨by omega, by omega⟩, by omega, by omega⟩, by omega, by omega⟩
      have q2 := mn_or n m
      have q3 := mn_or (c + mn n m) 1073741824
      have q4 := mn_or (ac + n) 1073741824
      have q5 := mn_or (c + m) 1073741824
      have hst : ∃ c' ac', after c th ac m n (ackS c th ac m n) = (c', th, ac', 0) ∧ m ≤ c' ∧ c' ≤ 4 * m + 1500 * (i + 1 : Nat) ∧ 0 ≤ ac' ∧ ac' < c' ∧ (c < th → c' - c = mn n m) ∧ (¬ c < th → ac + n ≥ c → c' - c = m) ∧ (¬ c < th → ¬ ac + n ≥ c → c' - c = 0) := by
        unfold after ackS
        rw [if_pos hask]
        by_cases g : c < th
        · rw [if_pos g]
          exact ⟨_, _, rfl, by dsimp only; omega, by dsimp only; omega, by dsimp only; omega, by dsimp only; omega, by dsimp only; omega, by dsimp only; omega, by dsimp only; omega⟩
        · rw [if_neg g]
          by_cases e : mn (ac + n) 1073741824 ≥ c
          · rw [if_pos e]
            exact ⟨_, _, rfl, by dsimp only; omega, by dsimp only; omega, by dsimp only; omega, by dsimp only; omega, by dsimp only; omega, by dsimp only; omega, by dsimp only; omega⟩
          · rw [if_neg e]
            exact ⟨_, _, rfl, by dsimp only; omega, by dsimp only; omega, by dsimp only; omega, by dsimp only; omega, by dsimp only; omega, by dsimp only; omega, by dsimp only; omega⟩
      obtain ⟨c', ac', hs, s1, s2, s3, s4, s5, s6, s7⟩ := hst
      clear q2 q3 q4 q5
      have hacn : -9223372036854775808 ≤ ac + n ∧ ac + n ≤ 9223372036854775807 := by clear s5 s6 s7; omega
      obtain ⟨K, hK⟩ := ih (i + 1) c' ac' (by omega) s1 s2 s3 s4
      refine ⟨K + 3, fun k hk => ?_⟩
      obtain ⟨k, rfl⟩ : ∃ j, k = j + 1 + 1 + 1 := ⟨k - 3, by omega⟩
      simp only [stopcocklaw20_RenoGrows.l0, stopcocklaw20_RenoGrows.j1]
      rw [if_pos (by omega), decide_eq_true (by omega), if_pos rfl, if_pos (by omega), if_pos (by omega), if_neg (by omega), hn, ack_eq, hs]
      simp only [Option.bind_some, num_eq, if_true_eq]
      rw [wrap_id (x := c' - c) (by omega) (by omega)]
      have hnx : wrap64 ((i : Int) + 1) = ((i + 1 : Nat) : Int) := by rw [wrap_id (by omega) (by omega)]; omega
      have fin := hK k (by omega)
      simp only [stopcocklaw20_RenoGrows.j2, hnx]
      by_cases g : c < th
      · rw [if_pos g, s5 g]
        simp only [bne_self_eq_false]
        rw [if_neg Bool.false_ne_true, if_neg (by omega)]
        exact fin
      · rw [if_neg g, if_neg Bool.false_ne_true, if_pos (show c ≥ th from Int.not_lt.1 g), wrap_id (x := ac + n) hacn.1 hacn.2]
        by_cases e : ac + n ≥ c
        · rw [s6 g e, if_neg (show ¬ m = 0 by omega), if_pos rfl, decide_eq_true e]
          simp only [beq_self_eq_true, bne_self_eq_false]
          rw [if_neg Bool.false_ne_true]
          exact fin
        · rw [s7 g e, if_pos rfl, decide_eq_false e]
          have hne : ((0 : Int) == m) = false := by rw [beq_eq_false_iff_ne]; omega
          rw [hne]
          simp only [bne_self_eq_false]
          rw [if_neg Bool.false_ne_true]
          exact fin
    · refine ⟨2, fun k hk => ?_⟩
      obtain ⟨k, rfl⟩ : ∃ j, k = j + 1 + 1 := ⟨k - 2, by omega⟩
      simp only [stopcocklaw20_RenoGrows.l0, stopcocklaw20_RenoGrows.j1]
      rw [if_neg (by omega), if_neg Bool.false_ne_true]
theorem RenoGrows : stopcocklaw20_RenoGrows.Pure := by
  intro a b l wa wb hl hl2 hw
  obtain ⟨r, hr, r0, r1⟩ := gomod a 1500 (by omega) (by omega)
  obtain ⟨s, hs, s0, s1⟩ := gomod b 20000 (by omega) (by omega)
  unfold stopcocklaw20_RenoGrows.f
  rw [alive_eq]
  simp only [Option.bind_some, if_true_eq]
  rw [hr, hs, wrap_id (x := 1 + r) (by omega) (by omega), wrap_id (x := 1 + s) (by omega) (by omega), wrap_id (x := 4 * (1 + r)) (by omega) (by omega)]
  obtain ⟨K, hK⟩ := round (1 + r) (by omega) (by omega) (1 + s) (by omega) (by omega) l (by omega) hw 300 0 (4 * (1 + r)) 0 (by omega) (by omega) (by omega) (by omega) (by omega)
  exact ⟨K, hK K (Nat.le_refl _)⟩
end Go.Proofs.Ytjhggbanonfbgaa.Pure
