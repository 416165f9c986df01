import Derived.Test.YthgihjahpjggoaaRateC
import Derived.Test.YthgihjahpjggoaaPCx17
namespace Go.Proofs.Ythgihjahpjggoaa.Pure
open Go.RowKit Go.Proofs.Ythgihjahpjggoaa.PC Go.Proofs.YthgihjahpjggoaaW.PrintWords Go.Proofs.YthgihjahpjggoaaW.PrintLast Go.Proofs.YthgihjahpjggoaaW.PrintMore Go.Proofs.Ythgihjahpjggoaa.Util Go.Proofs.Ythgihjahpjggoaa.PureC
set_option linter.unusedVariables false
set_option linter.unusedSimpArgs false

theorem within_eq (x lo hi : Int) : stopcockref19_within.f x lo hi = some (decide (lo ≤ x ∧ x ≤ hi)) := by
  unfold stopcockref19_within.f
  by_cases h : x ≥ lo
  · rw [if_pos h]; congr 1; exact decide_eq_decide.2 ⟨fun q => ⟨h, q⟩, fun q => q.2⟩
  · rw [if_neg h]; congr 1; exact (decide_eq_false (fun q => h q.1)).symm
theorem tick_eq (x : Int) : stopcockref19_tick.f x = some (decide (tk x)) := by
  unfold stopcockref19_tick.f; rw [within_eq]; rfl
theorem rmay_eq (de at_ fi ro ma : Int) : stopcockref19_may.f de at_ fi ro ma = some (decide (okR de at_ fi ro ma)) := by
  unfold stopcockref19_may.f
  simp only [tick_eq, Option.bind_some, decide_eq_true_eq]
  by_cases h1 : tk de
  · rw [if_pos h1]
    by_cases h2 : tk ma
    · rw [if_pos h2]
      by_cases h3 : tk at_
      · rw [if_pos h3]
        by_cases h4 : tk fi
        · rw [if_pos h4]
          congr 1
          exact decide_eq_decide.2 ⟨fun q => ⟨h1, h3, h4, q, h2⟩, fun q => q.2.2.2.1⟩
        · rw [if_neg h4]; congr 1; exact (decide_eq_false (fun q : okR de at_ fi ro ma => h4 q.2.2.1)).symm
      · rw [if_neg h3]; congr 1; exact (decide_eq_false (fun q : okR de at_ fi ro ma => h3 q.2.1)).symm
    · rw [if_neg h2]; congr 1; exact (decide_eq_false (fun q : okR de at_ fi ro ma => h2 q.2.2.2.2)).symm
  · rw [if_neg h1]; congr 1; exact (decide_eq_false (fun q : okR de at_ fi ro ma => h1 q.1)).symm
theorem rsend_eq (de at_ fi ro ma now : Int) (idle : Bool) : stopcockref19_Send.f de at_ fi ro ma now idle = some (sendF de at_ fi ro ma now idle) := by
  unfold stopcockref19_Send.f sendF
  rw [rmay_eq, tick_eq]
  simp only [Option.bind_some, decide_eq_true_eq]
  by_cases h : okR de at_ fi ro ma
  · rw [if_pos h, if_pos h]
    by_cases c : tk now
    · rw [if_pos c, if_pos c]
      cases idle with
      | true => rw [if_pos rfl, if_pos rfl]
      | false => rw [if_neg (by simp), if_neg (by simp)]
    · rw [if_neg c, if_neg c]
  · rw [if_neg h, if_neg h]
theorem rdeliver_eq (de at_ fi ro ma p0 p1 p2 p3 n now : Int) : stopcockref19_Deliver.f de at_ fi ro ma p0 p1 p2 p3 n now = some (deliverF de at_ fi ro ma p0 p1 p2 p3 n now) := by
  unfold stopcockref19_Deliver.f deliverF
  simp only [rmay_eq, tick_eq, within_eq, Option.bind_some, decide_eq_true_eq]
  by_cases h : okR de at_ fi ro ma
  · rw [if_pos h, if_pos h]
    by_cases c : okD n now p0 p1 p2 p3
    · rw [if_pos c, if_pos ⟨c.1, c.2.1⟩, if_pos c.2.2.1, if_pos c.2.2.2.1, if_pos c.2.2.2.2.1, if_pos c.2.2.2.2.2.1, if_pos c.2.2.2.2.2.2]
      obtain ⟨⟨a1, a2⟩, ⟨a3, a4⟩, ⟨a5, a6⟩, ⟨a7, a8⟩, ⟨a9, a10⟩⟩ := h
      obtain ⟨b1, b2, ⟨b3, b4⟩, ⟨b5, b6⟩, ⟨b7, b8⟩, ⟨b9, b10⟩, ⟨b11, b12⟩⟩ := c
      rw [wrap_id (x := de + n) (by omega) (by omega), wrap_id (x := p3 - p2) (by omega) (by omega), wrap_id (x := now - p1) (by omega) (by omega), wrap_id (x := ro + 1) (by omega) (by omega)]
      have hD := mn_bd (a := de + n) (b := 1099511627776) (lo := 0) (hi := 1099511627776) (by omega) (by omega) (by omega)
      rw [wrap_id (x := mn (de + n) 1099511627776 - p0) (by omega) (by omega), wrap_id (x := (mn (de + n) 1099511627776 - p0) * 1024) (by omega) (by omega)]
      have hw : -1099511627776 ≤ mx (p3 - p2) (now - p1) ∧ mx (p3 - p2) (now - p1) ≤ 1099511627776 := mx_bd (by omega) (by omega) (by omega)
      unfold came while_
      generalize mn (de + n) 1099511627776 = D at *
      generalize mx (p3 - p2) (now - p1) = V at *
      have hq : ∀ (c1 : ¬ (D - p0 ≤ 0 ∨ V ≤ 0)), wrap64 (Int.tdiv ((D - p0) * 1024) V) = (D - p0) * 1024 / V := by
        intro c1
        have h0 : 0 ≤ (D - p0) * 1024 := by omega
        rw [tdiv_pos h0]
        have := ediv_hi (b := V) h0
        have := ediv_lo (b := V) h0 (by omega)
        exact wrap_id (by omega) (by omega)
      by_cases c2 : p0 ≥ ma
      · rw [if_pos c2, if_pos c2, if_pos c2]
        by_cases c1 : D - p0 ≤ 0
        · rw [if_pos c1, if_pos (Or.inl c1), if_pos (Or.inl c1)]
        · rw [if_neg c1]
          by_cases c3 : V ≤ 0
          · rw [if_pos c3, if_pos (Or.inr c3), if_pos (Or.inr c3)]
          · have c4 : ¬ (D - p0 ≤ 0 ∨ V ≤ 0) := by omega
            rw [if_neg c3, if_neg (by omega), if_neg c4, if_neg c4, hq c4]
      · rw [if_neg c2, if_neg c2, if_neg c2]
        by_cases c1 : D - p0 ≤ 0
        · rw [if_pos c1, if_pos (Or.inl c1), if_pos (Or.inl c1)]
        · rw [if_neg c1]
          by_cases c3 : V ≤ 0
          · rw [if_pos c3, if_pos (Or.inr c3), if_pos (Or.inr c3)]
          · have c4 : ¬ (D - p0 ≤ 0 ∨ V ≤ 0) := by omega
            rw [if_neg c3, if_neg (by omega), if_neg c4, if_neg c4, hq c4]
    · rw [if_neg c]
      refine ite_to (fun q1 => ite_to (fun q2 => ite_to (fun q3 => ite_to (fun q4 => ite_to (fun q5 => ite_to (fun q6 => absurd ⟨q1.1, q1.2, q2, q3, q4, q5, q6⟩ c) fun _ => rfl) fun _ => rfl) fun _ => rfl) fun _ => rfl) fun _ => rfl) fun _ => rfl
  · rw [if_neg h, if_neg h]
theorem PrrRates : stopcocklaw19_PrrRates.Pure := by
  unfold stopcocklaw19_PrrRates.Pure
  intros
  refine ⟨60, ?_⟩
  unfold stopcocklaw19_PrrRates.f
  rw [send_eq _ _ _ _ _ _ _ 60 (by omega), rsend_eq, deliver_eq _ _ _ _ _ _ _ _ _ _ _ 60 (by omega), rdeliver_eq, alive_eq 60 (by omega)]
  simp only [Option.bind_some, stopcocklaw19_num.f, beq_self_eq_true, Bool.and_self, if_true_eq]
end Go.Proofs.Ythgihjahpjggoaa.Pure
