/- The time of the path is the least that was told, as long as none is stale: of any times. -/
import Derived.Test.YtodlibmnmjopbaaPlainK
import Derived.Test.YtodlibmnmjopbaaPAx8
namespace Go.Proofs.Ytodlibmnmjopbaa.Pure
open Go.RowKit Go.Proofs.Ytodlibmnmjopbaa.PA Go.Proofs.YtodlibmnmjopbaaW.PrintWords Go.Proofs.YtodlibmnmjopbaaW.PrintLast Go.Proofs.YtodlibmnmjopbaaW.PrintMore Go.Proofs.Ytodlibmnmjopbaa.Util Go.Proofs.Ytodlibmnmjopbaa.Hand
set_option linter.unusedVariables false
set_option linter.unusedSimpArgs false

theorem least_ev (l : List Int) (hl : l.length ≤ 100000000000000) : ∀ (d i : Nat) (least : Int) (hr : Bool) (rt ra rr : Int), i + d = 100 → (0 ≤ rt ∧ rt ≤ 1073741824) → (0 ≤ ra ∧ ra ≤ 1000000) → (rr = 0 ∨ rr = 1) →
    ((hr = false ∧ least = 1073741824) ∨ (hr = true ∧ rt = least)) →
    Ev (fun k => stopcocklaw23_BbrLeast.l0 k l least (i : Int) 0 [] hr rt ra false 0 0 0 0 0 rr) true := by
  intro d
  induction d with
  | zero =>
    intro i least hr rt ra rr hi hrt hra hrd hinv
    refine evEnd 2 (fun k hk => ?_)
    obtain ⟨m, rfl⟩ : ∃ m, k = m + 2 := ⟨k - 2, by omega⟩
    simp only [stopcocklaw23_BbrLeast.l0]
    by_cases h : (i : Int) < (l.length : Int)
    · rw [if_pos h, decide_eq_false (by omega)]
      simp only [stopcocklaw23_BbrLeast.j1]
      rw [if_neg (by decide)]
    · rw [if_neg h]
      simp only [stopcocklaw23_BbrLeast.j1]
      rw [if_neg (by decide)]
  | succ d ih =>
    intro i least hr rt ra rr hi hrt hra hrd hinv
    by_cases h : (i : Int) < (l.length : Int)
    · obtain ⟨r, hr1, hr2, hr3⟩ := gmod' (rd l (i : Int)) 100000 (by decide) (by decide)
      have hmn : (if hr = false ∨ r ≤ rt then r else rt) = mn least r := by
        unfold mn
        rcases hinv with ⟨rfl, rfl⟩ | ⟨rfl, rfl⟩
        · rw [if_pos (.inl rfl)]; split <;> omega
        · by_cases c : r ≤ rt
          · rw [if_pos (.inr c)]; split <;> omega
          · rw [if_neg (by simp [c])]; split <;> omega
      have hmb : 0 ≤ mn least r ∧ mn least r ≤ 1073741824 := by rw [← hmn]; split <;> omega
      have ha := least_ack hr rt ra rr i r (by omega) ⟨hr2, hr3⟩ hrt hra hrd
      rw [hmn] at ha
      have hj : Ev (fun k => stopcocklaw23_BbrLeast.j1 k l least (i : Int) true 0 [] hr rt ra false 0 0 0 0 0 rr) true := by
        refine evStep 0 (fun k _ => ?_) (ih (i + 1) (mn least r) true (mn least r) (if hr = false ∨ r ≤ rt then 100 * (i : Int) else ra) 1 (by omega) hmb (by split <;> omega) (.inr rfl) (.inr ⟨rfl, rfl⟩))
        simp only [stopcocklaw23_BbrLeast.j1]
        rw [if_pos trivial, if_pos (by omega), if_pos h, wrap_id (x := 100 * (i : Int)) (by omega) (by omega)]
        rw [show Int.tmod (wrap64 (Int.tmod (rd l (i : Int)) 100000 + 100000)) 100000 = r from hr1, ha, Option.bind_some]
        simp only [stopcocklaw23_num.f, Option.bind_some, if_true]
        rw [if_neg (by decide), wrap_id (x := (i : Int) + 1) (by omega) (by omega)]
        rfl
      refine evStep 0 (fun k _ => ?_) hj
      simp only [stopcocklaw23_BbrLeast.l0]
      rw [if_pos h, decide_eq_true (by omega)]
    · refine evEnd 2 (fun k hk => ?_)
      obtain ⟨m, rfl⟩ : ∃ m, k = m + 2 := ⟨k - 2, by omega⟩
      simp only [stopcocklaw23_BbrLeast.l0]
      rw [if_neg h]
      simp only [stopcocklaw23_BbrLeast.j1]
      rw [if_neg (by decide)]
theorem BbrLeast : stopcocklaw23_BbrLeast.Pure := by
  intro l h0 h1 h2
  obtain ⟨K1, e1⟩ := alive_ev'
  obtain ⟨K2, e2⟩ := least_ev l (by omega) 100 0 1073741824 false 0 0 0 (by omega) (by omega) (by omega) (.inl rfl) (.inl ⟨rfl, rfl⟩)
  refine ⟨K1 + K2, ?_⟩
  unfold stopcocklaw23_BbrLeast.f
  rw [show stopcocklaw23_alive.f (K1 + K2) = _ from e1 _ (by omega), Option.bind_some, if_pos rfl]
  exact e2 _ (by omega)
end Go.Proofs.Ytodlibmnmjopbaa.Pure
