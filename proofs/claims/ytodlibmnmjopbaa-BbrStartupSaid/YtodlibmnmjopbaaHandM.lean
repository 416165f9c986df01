/- May a list of pairs be: the program's test, as a plain function; the test of a state that may be. -/
import Derived.Test.YtodlibmnmjopbaaPAx4
import Derived.Test.YtodlibmnmjopbaaUtil
namespace Go.Proofs.Ytodlibmnmjopbaa.Hand
open Go.RowKit Go.Proofs.YtodlibmnmjopbaaW.PrintWords Go.Proofs.YtodlibmnmjopbaaW.PrintLast Go.Proofs.YtodlibmnmjopbaaW.PrintMore Go.Proofs.Ytodlibmnmjopbaa.PA Go.Proofs.Ytodlibmnmjopbaa.Util
set_option linter.unusedVariables false
set_option linter.unusedSimpArgs false

abbrev A0 (L : List S36) (i : Int) : Int := (rd_T36 L i).f0
abbrev A1 (L : List S36) (i : Int) : Int := (rd_T36 L i).f1
/-- May the pair at i be? -/
def goodB (L : List S36) (i : Nat) : Bool :=
  decide (0 ≤ A0 L i ∧ A0 L i ≤ 1099511627776) && decide (0 ≤ A1 L i ∧ A1 L i ≤ 1073741824) && (decide (i = 0) || (decide (A0 L ((i : Int) - 1) < A0 L i) && decide (A1 L i < A1 L ((i : Int) - 1))))
def allG (L : List S36) : Nat → Nat → Bool
  | 0, _ => true
  | d + 1, i => goodB L i && allG L d (i + 1)
def mayV (L : List S36) : Bool := allG L L.length 0 && decide (L.length ≤ 10)
theorem inside_eq (k : Nat) (a x : Int) : bbr_inside.f (k + 2) a [x] = some (decide (0 ≤ x ∧ x ≤ a)) := by
  unfold bbr_inside.f
  simp only [bbr_inside.l0, List.length_singleton]
  rw [if_pos (by decide), if_pos (by decide), if_pos (by decide)]
  have e : rd [x] 0 = x := rfl
  rw [e]
  by_cases h0 : x < 0
  · rw [if_pos h0, decide_eq_false (by omega)]
  · rw [if_neg h0]
    by_cases h1 : x > a
    · rw [if_pos h1, decide_eq_false (by omega)]
    · rw [if_neg h1, decide_eq_true (by omega), if_neg (by rw [wrap_id (by decide) (by decide)]; decide)]
theorem mayList_ev (L : List S36) (hs : L.length ≤ 10000000000000) : Ev (fun k => bbr_mayList.f k L) (mayV L) := by
  have h : ∀ (d i : Nat), i + d = L.length → Ev (fun k => bbr_mayList.l0 k L L (L.length : Int) (i : Int)) (allG L d i && decide (L.length ≤ 10)) := by
    intro d
    induction d with
    | zero =>
      intro i hi
      refine evEnd 1 (fun k hk => ?_)
      obtain ⟨m, rfl⟩ : ∃ m, k = m + 1 := ⟨k - 1, by omega⟩
      simp only [bbr_mayList.l0, allG, Bool.true_and]
      rw [if_neg (by omega)]
      congr 2
      exact propext (by omega)
    | succ d ih =>
      intro i hi
      have hw : wrap64 ((i : Int) + 1) = ((i + 1 : Nat) : Int) := by rw [wrap_id (by omega) (by omega)]; rfl
      have open_ : ∀ m, bbr_mayList.l0 (m + 2 + 1) L L (L.length : Int) (i : Int) = (if decide (0 ≤ A0 L i ∧ A0 L i ≤ 1099511627776) = true then (if decide (0 ≤ A1 L i ∧ A1 L i ≤ 1073741824) = true then (if (i : Int) > 0 then (if 0 ≤ (wrap64 ((i : Int) - 1)) then (if (wrap64 ((i : Int) - 1)) < (L.length : Int) then (if A0 L i ≤ A0 L (wrap64 ((i : Int) - 1)) then (some false) else (if A1 L i ≥ A1 L (wrap64 ((i : Int) - 1)) then (some false) else (bbr_mayList.l0 (m + 2) L L (L.length : Int) (wrap64 ((i : Int) + 1))))) else (none)) else (none)) else (bbr_mayList.l0 (m + 2) L L (L.length : Int) (wrap64 ((i : Int) + 1)))) else (some false)) else (some false)) := by
        intro m
        simp only [bbr_mayList.l0]
        rw [if_pos (by omega), if_pos (by omega), if_pos (by omega), inside_eq, Option.bind_some]
        by_cases g : 0 ≤ A0 L i ∧ A0 L i ≤ 1099511627776
        · rw [decide_eq_true g, if_pos rfl, if_pos rfl, inside_eq, Option.bind_some]
        · rw [decide_eq_false g, if_neg (by decide), if_neg (by decide)]
      have bad : goodB L i = false → (∀ m, bbr_mayList.l0 (m + 2 + 1) L L (L.length : Int) (i : Int) = some false) → Ev (fun k => bbr_mayList.l0 k L L (L.length : Int) (i : Int)) (allG L (d + 1) i && decide (L.length ≤ 10)) := fun hg he => by
        rw [allG, hg]
        exact evEnd 3 (fun k hk => by obtain ⟨m, rfl⟩ : ∃ m, k = m + 2 + 1 := ⟨k - 3, by omega⟩; exact he m)
      have good : goodB L i = true → (∀ m, bbr_mayList.l0 (m + 2 + 1) L L (L.length : Int) (i : Int) = bbr_mayList.l0 (m + 2) L L (L.length : Int) ((i + 1 : Nat) : Int)) → Ev (fun k => bbr_mayList.l0 k L L (L.length : Int) (i : Int)) (allG L (d + 1) i && decide (L.length ≤ 10)) := fun hg he => by
        rw [allG, hg]
        exact evStep 2 (fun k hk => by obtain ⟨m, rfl⟩ : ∃ m, k = m + 2 := ⟨k - 2, by omega⟩; exact he m) (ih (i + 1) (by omega))
      by_cases g0 : 0 ≤ A0 L i ∧ A0 L i ≤ 1099511627776
      · by_cases g1 : 0 ≤ A1 L i ∧ A1 L i ≤ 1073741824
        · by_cases h0 : i = 0
          · refine good (by unfold goodB; simp [g0, g1, h0]; subst h0; exact ⟨g0, g1⟩) (fun m => ?_)
            rw [open_, decide_eq_true g0, decide_eq_true g1, if_pos rfl, if_pos rfl, if_neg (by omega), hw]
          · have hw1 : wrap64 ((i : Int) - 1) = (i : Int) - 1 := wrap_id (by omega) (by omega)
            by_cases g2 : A0 L i ≤ A0 L ((i : Int) - 1)
            · refine bad (by unfold goodB; rw [decide_eq_true g0, decide_eq_true g1, decide_eq_false h0, decide_eq_false (by omega : ¬ A0 L ((i : Int) - 1) < A0 L i)]; rfl) (fun m => ?_)
              rw [open_, decide_eq_true g0, decide_eq_true g1, if_pos rfl, if_pos rfl, if_pos (by omega), hw1, if_pos (by omega), if_pos (by omega), if_pos g2]
            · by_cases g3 : A1 L i ≥ A1 L ((i : Int) - 1)
              · refine bad (by unfold goodB; rw [decide_eq_true g0, decide_eq_true g1, decide_eq_false h0, decide_eq_true (by omega : A0 L ((i : Int) - 1) < A0 L i), decide_eq_false (by omega : ¬ A1 L i < A1 L ((i : Int) - 1))]; rfl) (fun m => ?_)
                rw [open_, decide_eq_true g0, decide_eq_true g1, if_pos rfl, if_pos rfl, if_pos (by omega), hw1, if_pos (by omega), if_pos (by omega), if_neg g2, if_pos g3]
              · refine good (by unfold goodB; rw [decide_eq_true g0, decide_eq_true g1, decide_eq_false h0, decide_eq_true (by omega : A0 L ((i : Int) - 1) < A0 L i), decide_eq_true (by omega : A1 L i < A1 L ((i : Int) - 1))]; rfl) (fun m => ?_)
                rw [open_, decide_eq_true g0, decide_eq_true g1, if_pos rfl, if_pos rfl, if_pos (by omega), hw1, if_pos (by omega), if_pos (by omega), if_neg g2, if_neg g3, hw]
        · refine bad (by unfold goodB; rw [decide_eq_true g0, decide_eq_false g1]; rfl) (fun m => ?_)
          rw [open_, decide_eq_true g0, decide_eq_false g1, if_pos rfl, if_neg (by decide)]
      · refine bad (by unfold goodB; rw [decide_eq_false g0]; rfl) (fun m => ?_)
        rw [open_, decide_eq_false g0, if_neg (by decide)]
  refine evSame 0 (fun k _ => ?_) (h L.length 0 (by omega))
  rfl

theorem inside_l0 (a : Int) (l : List Int) (h : ∀ x ∈ l, 0 ≤ x ∧ x ≤ a) (hs : l.length ≤ 1000) : ∀ (d i : Nat), i + d = l.length → ∀ k, d + 1 ≤ k → bbr_inside.l0 k a l (l.length : Int) (i : Int) = some true := by
  intro d
  induction d with
  | zero =>
    intro i hi k hk
    obtain ⟨m, rfl⟩ : ∃ m, k = m + 1 := ⟨k - 1, by omega⟩
    simp only [bbr_inside.l0]
    rw [if_neg (by omega)]
  | succ d ih =>
    intro i hi k hk
    obtain ⟨m, rfl⟩ : ∃ m, k = m + 1 := ⟨k - 1, by omega⟩
    have e : rd l (i : Int) = l[i]'(by omega) := by simp [rd, List.getD, show i < l.length by omega]
    have hx := h (l[i]'(by omega)) (List.getElem_mem _)
    rw [← e] at hx
    simp only [bbr_inside.l0]
    rw [if_pos (by omega), if_pos (by omega), if_pos (by omega), if_neg (by omega), if_neg (by omega), wrap_id (x := (i : Int) + 1) (by omega) (by omega)]
    exact ih (i + 1) (by omega) m (by omega)
theorem inside_ok (a : Int) (l : List Int) (h : ∀ x ∈ l, 0 ≤ x ∧ x ≤ a) (hs : l.length ≤ 1000) (k : Nat) (hk : l.length + 1 ≤ k) : bbr_inside.f k a l = some true := inside_l0 a l h hs l.length 0 (by omega) k hk
/-- May a state be? -/
def okS (l : List S36) (ph rt ra fr fn cy ca un rd : Int) : Prop := (0 ≤ ph ∧ ph ≤ 3) ∧ (0 ≤ cy ∧ cy ≤ 7) ∧ mayV l = true ∧ (0 ≤ rt ∧ rt ≤ 1073741824) ∧ (0 ≤ ra ∧ ra ≤ 1099511627776) ∧ (0 ≤ fr ∧ fr ≤ 1099511627776) ∧ (0 ≤ fn ∧ fn ≤ 1099511627776) ∧ (0 ≤ ca ∧ ca ≤ 1099511627776) ∧ (0 ≤ un ∧ un ≤ 1099511627776) ∧ (0 ≤ rd ∧ rd ≤ 1099511627776)
instance (l : List S36) (ph rt ra fr fn cy ca un rd : Int) : Decidable (okS l ph rt ra fr fn cy ca un rd) := by unfold okS; infer_instance
theorem check_ok (l : List S36) (ph : Int) (hr : Bool) (rt ra : Int) (fu : Bool) (fr fn cy ca un rd : Int) (h : okS l ph rt ra fr fn cy ca un rd) : Ev (fun k => bbr_Check.f k ph l hr rt ra fu fr fn cy ca un rd) 0 := by
  obtain ⟨h0, h1, h2, h3, h4, h5, h6, h7, h8, h9⟩ := h
  have hl : l.length ≤ 10 := by
    unfold mayV at h2
    simp at h2
    omega
  obtain ⟨K, e⟩ := mayList_ev l (by omega)
  rw [h2] at e
  refine evEnd (K + 10) (fun k hk => ?_)
  unfold bbr_Check.f
  rw [inside_ok 3 [ph] (by simp; omega) (by simp) k (by simp; omega), Option.bind_some, if_pos rfl, inside_ok 7 [cy] (by simp; omega) (by simp) k (by simp; omega), Option.bind_some, if_pos rfl,
    show bbr_mayList.f k l = _ from e k (by omega), Option.bind_some, if_pos rfl, inside_ok 1073741824 [rt] (by simp; omega) (by simp) k (by simp; omega), Option.bind_some, if_pos rfl,
    inside_ok 1099511627776 [ra, fr, fn, ca, un, rd] (by simp; omega) (by simp) k (by simp; omega), Option.bind_some, if_pos rfl]
end Go.Proofs.Ytodlibmnmjopbaa.Hand
