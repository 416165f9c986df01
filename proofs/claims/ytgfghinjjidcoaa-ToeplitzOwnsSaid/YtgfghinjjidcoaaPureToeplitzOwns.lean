/- Answers to a port that toeplitz chose for a shard come to that shard: for all keys, tables and wants. -/
import Derived.Test.YtgfghinjjidcoaaPureToeplitzPorts
namespace Go.Proofs.Ytgfghinjjidcoaa.PureB
open Go.RowKit Go.Proofs.Ytgfghinjjidcoaa.PB Go.Proofs.Ytgfghinjjidcoaa.Pure Go.Proofs.YtgfghinjjidcoaaW.PrintWords Go.Proofs.YtgfghinjjidcoaaW.PrintLast Go.Proofs.YtgfghinjjidcoaaW.PrintMore Go.Proofs.Ytgfghinjjidcoaa.Util
set_option linter.unusedVariables false
set_option linter.unusedSimpArgs false

theorem allOwns : stopcocklaw07_ToeplitzOwns.Pure := by
  intro key tb lo re rp sh fr hk1 hk2 ht1 ht2 hlo hre hrp hsh hfr
  have b1 := wf32 hlo
  have b2 := wf32 hre
  have b3 := wf16 hrp
  have b4 := wf16 hfr
  have ok := oct_wf hk2
  obtain ⟨v, e1, _, e4, e5⟩ := port_eq key tb lo re rp sh fr ok (by omega) b4.1 b4.2 b1.1 b1.2 b2.1 b2.2 b3.1 b3.2
  obtain ⟨K1, e3⟩ := alive_ev
  by_cases hv : v.2 = 0
  · obtain ⟨h40, hct, h128, hf0, hR⟩ := e4 hv
    have hfound : ∃ i : Nat, v = (Hand.pAt fr (i : Nat), 0) ∧ Hand.goodP key tb lo re rp sh (Hand.pAt fr (i : Nat)) = true := by
      unfold Hand.portR at hR
      split at hR
      · rename_i i hi
        refine ⟨i, hR, ?_⟩
        have h3 := List.find?_some (p := fun i => Hand.goodP key tb lo re rp sh (Hand.pAt fr (i : Nat))) hi
        exact h3
      · rw [hR] at hv; exact absurd hv (by decide)
    obtain ⟨i, hvi, hg⟩ := hfound
    have hpb := Hand.pAt_bd fr i
    have hpe := pAt_eq fr (by omega) i
    obtain ⟨p, hp⟩ : ∃ p, Hand.pAt fr (i : Nat) = p := ⟨_, rfl⟩
    rw [hp] at hvi hg hpb hpe
    have oL := tup_oct re lo (rp * 65536 + p) b2.1 b2.2 b1.1 b1.2 (by omega) (by omega)
    obtain ⟨K2, e6⟩ := hash_ev key _ ok oL
    have ht := tup_eq re lo rp p b2.1 b2.2 b1.1 b1.2 b3.1 b3.2 (by omega) (by omega)
    have hb := hash_bd key (Hand.four re ++ Hand.four lo ++ Hand.four (rp * 65536 + p))
    have hg' : rd tb ((hashV key (Hand.four re ++ Hand.four lo ++ Hand.four (rp * 65536 + p))).1 % 128) = sh := by
      unfold Hand.goodP Hand.shP at hg
      simpa using hg
    have h2 : (hashV key (Hand.four re ++ Hand.four lo ++ Hand.four (rp * 65536 + p))).2 = 0 := by
      unfold hashV
      rw [if_pos ⟨h40, by simp [Hand.four]⟩]
    generalize Hand.four re ++ Hand.four lo ++ Hand.four (rp * 65536 + p) = L at *
    refine ⟨K1 + K2, ?_⟩
    unfold stopcocklaw07_ToeplitzOwns.f
    rw [show stopcocklaw07_alive.f (K1 + K2) = _ from e3 _ (by omega), Option.bind_some, if_pos rfl, e1, Option.bind_some, hvi]
    simp only [stopcocklaw07_num.f, Option.bind_some]
    rw [if_pos trivial, ht, Option.bind_some, show toeplitz_Hash.f (K1 + K2) key L = _ from e6 _ (by omega), Option.bind_some]
    unfold toeplitz_Shard.f
    rw [hct, Option.bind_some, if_pos rfl, and127 _ hb.1 (by omega), if_pos (by omega), if_pos (by omega), Option.bind_some]
    simp only
    rw [h2, if_pos (by rw [wrap_id (by decide) (by decide)]; rfl), if_pos hg', decide_eq_true (by omega)]
  · refine ⟨K1, ?_⟩
    unfold stopcocklaw07_ToeplitzOwns.f
    rw [show stopcocklaw07_alive.f K1 = _ from e3 _ (Nat.le_refl _), Option.bind_some, if_pos rfl, e1, Option.bind_some]
    simp only [stopcocklaw07_num.f, Option.bind_some]
    rw [if_neg hv, e5 hv]
    rfl
end Go.Proofs.Ytgfghinjjidcoaa.PureB
namespace Go.Proofs.Ytgfghinjjidcoaa.Pure
theorem ToeplitzOwns : PB.stopcocklaw07_ToeplitzOwns.Pure := PureB.allOwns
end Go.Proofs.Ytgfghinjjidcoaa.Pure
