/- As Rate, for the texts of the namespace PC. -/
import Derived.Test.YthgihjahpjggoaaPlainC
import Derived.Test.YthgihjahpjggoaaPCx11
import Derived.Test.YthgihjahpjggoaaPCx15
namespace Go.Proofs.Ythgihjahpjggoaa.PureC
open Go.RowKit Go.Proofs.Ythgihjahpjggoaa.PC Go.Proofs.YthgihjahpjggoaaW.PrintWords Go.Proofs.YthgihjahpjggoaaW.PrintLast Go.Proofs.YthgihjahpjggoaaW.PrintMore Go.Proofs.Ythgihjahpjggoaa.Util
set_option linter.unusedVariables false
set_option linter.unusedSimpArgs false

def tk (n : Int) : Prop := 0 ≤ n ∧ n ≤ 1099511627776
instance (n : Int) : Decidable (tk n) := by unfold tk; infer_instance
def okR (de at_ fi ro ma : Int) : Prop := tk de ∧ tk at_ ∧ tk fi ∧ tk ro ∧ tk ma
instance (de at_ fi ro ma : Int) : Decidable (okR de at_ fi ro ma) := by unfold okR; infer_instance
theorem mayR_eq (de at_ fi ro ma : Int) (k : Nat) (hk : 20 ≤ k) : prr_Rate_may.f k de at_ fi ro ma = some (decide (okR de at_ fi ro ma)) := by
  unfold prr_Rate_may.f
  rw [all_eq _ (by simp) (by simp) k (by simp [cost]; omega)]
  simp only [Option.bind_some, Option.some.injEq]
  refine decide_eq_decide.2 ?_
  simp only [List.mem_cons, List.not_mem_nil, or_false, forall_eq_or_imp, forall_eq, inB]
  unfold okR tk
  omega
def sendF (de at_ fi ro ma now : Int) (idle : Bool) : Int × Int × Int × Int × Int × Int × Int × Int × Int × Int :=
  if okR de at_ fi ro ma then
    if tk now then (if idle = true then (de, now, now, ro, ma, de, now, now, now, 0) else (de, at_, fi, ro, ma, de, at_, fi, now, 0))
    else (0, 0, 0, 0, 0, 0, 0, 0, 0, 4)
  else (0, 0, 0, 0, 0, 0, 0, 0, 0, 171)
theorem send_eq (de at_ fi ro ma now : Int) (idle : Bool) (k : Nat) (hk : 20 ≤ k) : prr_Send.f k de at_ fi ro ma now idle = some (sendF de at_ fi ro ma now idle) := by
  unfold prr_Send.f sendF
  rw [mayR_eq _ _ _ _ _ k hk, all_eq _ (by simp) (by simp) k (by simp [cost]; omega)]
  simp only [Option.bind_some]
  by_cases h : okR de at_ fi ro ma
  · rw [if_pos (by simpa using h), if_pos h]
    by_cases c : tk now
    · rw [if_pos (by simpa [inB, tk] using c), if_pos c]
      cases idle with
      | true => rw [if_pos rfl, if_pos rfl]
      | false => rw [if_neg (by simp), if_neg (by simp)]
    · rw [if_neg (by simpa [inB, tk] using c), if_neg c]
  · rw [if_neg (by simpa using h), if_neg h]

def okD (n now p0 p1 p2 p3 : Int) : Prop := 1 ≤ n ∧ n ≤ 1073741824 ∧ tk now ∧ tk p0 ∧ tk p1 ∧ tk p2 ∧ tk p3
instance (n now p0 p1 p2 p3 : Int) : Decidable (okD n now p0 p1 p2 p3) := by unfold okD; infer_instance
/-- The octets that came, and the ticks. -/
def came (de n p0 : Int) : Int := mn (de + n) 1099511627776 - p0
def while_ (now p1 p2 p3 : Int) : Int := mx (p3 - p2) (now - p1)
def deliverF (de at_ fi ro ma p0 p1 p2 p3 n now : Int) : Int × Int × Int × Int × Int × Int × Bool × Int :=
  if okR de at_ fi ro ma then
    if okD n now p0 p1 p2 p3 then
      (mn (de + n) 1099511627776, now, p3, (if p0 ≥ ma then mn (ro + 1) 1099511627776 else ro), (if p0 ≥ ma then mn (de + n) 1099511627776 else ma),
        (if came de n p0 ≤ 0 ∨ while_ now p1 p2 p3 ≤ 0 then 0 else mn (came de n p0 * 1024 / while_ now p1 p2 p3) 1073741824), (if came de n p0 ≤ 0 ∨ while_ now p1 p2 p3 ≤ 0 then false else true), 0)
    else (0, 0, 0, 0, 0, 0, false, 4)
  else (0, 0, 0, 0, 0, 0, false, 171)
theorem mn_le_zero (a b : Int) : mn a b ≤ 0 ↔ (a ≤ 0 ∨ b ≤ 0) := by unfold mn; split <;> omega
theorem deliver_eq (de at_ fi ro ma p0 p1 p2 p3 n now : Int) (k : Nat) (hk : 20 ≤ k) : prr_Deliver.f k de at_ fi ro ma p0 p1 p2 p3 n now = some (deliverF de at_ fi ro ma p0 p1 p2 p3 n now) := by
  unfold prr_Deliver.f deliverF
  rw [mayR_eq _ _ _ _ _ k hk, all_eq _ (by simp) (by simp) k (by simp [cost]; omega)]
  simp only [Option.bind_some]
  by_cases h : okR de at_ fi ro ma
  · rw [if_pos (by simpa using h), if_pos h]
    have e : (∀ b ∈ ([(⟨1, 1073741824, (([n] : List Int))⟩ : S59), (⟨0, 1099511627776, (([now, p0, p1, p2, p3] : List Int))⟩ : S59)] : List (S59)), inB b) ↔ okD n now p0 p1 p2 p3 := by
      simp only [List.mem_cons, List.not_mem_nil, or_false, forall_eq_or_imp, forall_eq, inB]
      unfold okD tk
      omega
    by_cases c : okD n now p0 p1 p2 p3
    · rw [if_pos (by rw [decide_eq_true_eq]; exact e.2 c), if_pos c]
      obtain ⟨⟨a1, a2⟩, ⟨a3, a4⟩, ⟨a5, a6⟩, ⟨a7, a8⟩, ⟨a9, a10⟩⟩ := h
      obtain ⟨b1, b2, ⟨b3, b4⟩, ⟨b5, b6⟩, ⟨b7, b8⟩, ⟨b9, b10⟩, ⟨b11, b12⟩⟩ := c
      rw [wrap_id (x := de + n) (by omega) (by omega), wrap_id (x := p3 - p2) (by omega) (by omega), wrap_id (x := now - p1) (by omega) (by omega), wrap_id (x := ro + 1) (by omega) (by omega)]
      have hD := mn_bd (a := de + n) (b := 1099511627776) (lo := 0) (hi := 1099511627776) (by omega) (by omega) (by omega)
      rw [wrap_id (x := mn (de + n) 1099511627776 - p0) (by omega) (by omega), wrap_id (x := (mn (de + n) 1099511627776 - p0) * 1024) (by omega) (by omega)]
      have hw : -1099511627776 ≤ mx (p3 - p2) (now - p1) ∧ mx (p3 - p2) (now - p1) ≤ 1099511627776 := mx_bd (by omega) (by omega) (by omega)
      unfold came while_
      generalize mn (de + n) 1099511627776 = D at *
      generalize mx (p3 - p2) (now - p1) = W at *
      have hq : ∀ (c1 : ¬ mn (D - p0) W ≤ 0), wrap64 (Int.tdiv ((D - p0) * 1024) W) = (D - p0) * 1024 / W := by
        intro c1
        have h1 := mt (mn_le_zero (D - p0) W).2 c1
        have h0 : 0 ≤ (D - p0) * 1024 := by omega
        rw [tdiv_pos h0]
        have := ediv_hi (b := W) h0
        have := ediv_lo (b := W) h0 (by omega)
        exact wrap_id (by omega) (by omega)
      by_cases c2 : p0 ≥ ma
      · rw [if_pos c2, if_pos c2, if_pos c2]
        by_cases c1 : mn (D - p0) W ≤ 0
        · rw [if_pos c1, if_pos ((mn_le_zero _ _).1 c1), if_pos ((mn_le_zero _ _).1 c1)]
        · have c3 := mt (mn_le_zero (D - p0) W).2 c1
          rw [if_neg c1, if_neg (by omega), if_neg c3, if_neg c3, hq c1]
      · rw [if_neg c2, if_neg c2, if_neg c2]
        by_cases c1 : mn (D - p0) W ≤ 0
        · rw [if_pos c1, if_pos ((mn_le_zero _ _).1 c1), if_pos ((mn_le_zero _ _).1 c1)]
        · have c3 := mt (mn_le_zero (D - p0) W).2 c1
          rw [if_neg c1, if_neg (by omega), if_neg c3, if_neg c3, hq c1]
    · rw [if_neg (by rw [decide_eq_true_eq]; exact fun h => c (e.1 h)), if_neg c]
  · rw [if_neg (by simpa using h), if_neg h]
end Go.Proofs.Ythgihjahpjggoaa.PureC
