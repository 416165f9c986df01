/- The states that follow may be. -/
import Derived.Test.YthgihjahpjggoaaPBx13
import Derived.Test.YthgihjahpjggoaaRate
namespace Go.Proofs.Ythgihjahpjggoaa.Pure
open Go.RowKit Go.Proofs.Ythgihjahpjggoaa.PB Go.Proofs.YthgihjahpjggoaaW.PrintWords Go.Proofs.YthgihjahpjggoaaW.PrintLast Go.Proofs.YthgihjahpjggoaaW.PrintMore Go.Proofs.Ythgihjahpjggoaa.Util Go.Proofs.Ythgihjahpjggoaa.PureB

theorem keeps_j0 (now de at_ fi ro ma : Int) (k : Nat) (hk : 20 ≤ k) : stopcocklaw19_PrrKeeps.j0 (k + 1) now de at_ fi ro ma = some true := by
  simp only [stopcocklaw19_PrrKeeps.j0]
  rw [send_eq _ _ _ _ _ _ _ k hk]
  by_cases h : okR de at_ fi ro ma
  · by_cases c : tk now
    · have hs : sendF de at_ fi ro ma now false = (de, at_, fi, ro, ma, de, at_, fi, now, 0) := by
        unfold sendF; rw [if_pos h, if_pos c, if_neg (by simp)]
      rw [hs]
      simp only [Option.bind_some, stopcocklaw19_num.f]
      rw [if_pos trivial, deliver_eq _ _ _ _ _ _ _ _ _ _ _ k hk]
      have h' := h
      obtain ⟨⟨a1, a2⟩, ⟨a3, a4⟩, ⟨a5, a6⟩, ⟨a7, a8⟩, ⟨a9, a10⟩⟩ := h'
      obtain ⟨c1, c2⟩ := c
      have m1 := mn_bd (a := de + 1) (b := 1099511627776) (lo := 0) (hi := 1099511627776) (by omega) (by omega) (by omega)
      have m2 := mn_bd (a := ro + 1) (b := 1099511627776) (lo := 0) (hi := 1099511627776) (by omega) (by omega) (by omega)
      obtain ⟨d1, d2, d3, d4, d5, d6, d7, hd, ok⟩ : ∃ d1 d2 d3 d4 d5 d6 d7, deliverF de at_ fi ro ma de at_ fi now 1 now = (d1, d2, d3, d4, d5, d6, d7, 0) ∧ okR d1 d2 d3 d4 d5 := by
        unfold deliverF
        rw [if_pos h, if_pos (by unfold okD tk; omega)]
        refine ⟨_, _, _, _, _, _, _, rfl, ?_⟩
        by_cases q : de ≥ ma
        · rw [if_pos q, if_pos q]; unfold okR tk; omega
        · rw [if_neg q, if_neg q]; unfold okR tk; omega
      rw [hd]
      simp only [Option.bind_some]
      rw [if_pos trivial, send_eq _ _ _ _ _ _ _ k hk]
      have hs2 : sendF d1 d2 d3 d4 d5 now true = (d1, now, now, d4, d5, d1, now, now, now, 0) := by
        unfold sendF; rw [if_pos ok, if_pos (by unfold tk; omega), if_pos rfl]
      rw [hs2]
      rfl
    · have hs : sendF de at_ fi ro ma now false = (0, 0, 0, 0, 0, 0, 0, 0, 0, 4) := by
        unfold sendF; rw [if_pos h, if_neg c]
      rw [hs]
      rfl
  · have hs : sendF de at_ fi ro ma now false = (0, 0, 0, 0, 0, 0, 0, 0, 0, 171) := by
      unfold sendF; rw [if_neg h]
    rw [hs]
    rfl

theorem PrrKeeps : stopcocklaw19_PrrKeeps.Pure := by
  intro th fl de ou r0 r1 r2 r3 r4 n pipe now _ _ _ _ _ _ _ _ _ _ _ _
  refine ⟨39 + 1, ?_⟩
  have hj := keeps_j0 now r0 r1 r2 r3 r4 39 (by omega)
  unfold stopcocklaw19_PrrKeeps.f
  rw [alive_eq (39 + 1) (by omega), ack_eq _ _ _ _ _ _ _ (39 + 1) (by omega)]
  by_cases hs : okS th fl de ou
  · by_cases ha : okA n pipe 1000
    · obtain ⟨f1, f2, f3, f4, f5, f6, f7, f8⟩ := ack_facts hs ha
      obtain ⟨kk, he, hk⟩ : ∃ kk, ackF th fl de ou n pipe 1000 = (th, fl, mn (de + n) 2147483648, ou, kk, 0) ∧ 0 ≤ kk := by
        unfold ackF
        rw [if_pos hs, if_pos ha]
        exact ⟨_, rfl, by unfold mx; split <;> omega⟩
      obtain ⟨g1, g2, g3, g4, g5, g6, g7, g8⟩ := hs
      rw [he]
      simp only [Option.bind_some, stopcocklaw19_num.f]
      rw [if_pos trivial, if_pos trivial, spent_eq _ _ _ _ _ (39 + 1) (by omega)]
      have hsp : spentF th fl (mn (de + n) 2147483648) ou 0 = (th, fl, mn (de + n) 2147483648, mn (ou + 0) 2147483648, 0) := by
        unfold spentF
        rw [if_pos (by unfold okS; omega), if_pos (by omega)]
      rw [hsp]
      simp only [Option.bind_some]
      rw [if_pos trivial, if_neg (by omega)]
      exact hj
    · have he : ackF th fl de ou n pipe 1000 = (0, 0, 0, 0, 0, 4) := by unfold ackF; rw [if_pos hs, if_neg ha]
      rw [he]
      exact hj
  · have he : ackF th fl de ou n pipe 1000 = (0, 0, 0, 0, 0, 171) := by unfold ackF; rw [if_neg hs]
    rw [he]
    exact hj
end Go.Proofs.Ythgihjahpjggoaa.Pure
