/- The filter of bbr and the page's: plain laws. -/
import Derived.Test.YtodlibmnmjopbaaPAx
import Derived.Test.YtodlibmnmjopbaaUtil
namespace Go.Proofs.Ytodlibmnmjopbaa.Pure
open Go.RowKit Go.Proofs.Ytodlibmnmjopbaa.PA Go.Proofs.YtodlibmnmjopbaaW.PrintWords Go.Proofs.YtodlibmnmjopbaaW.PrintLast Go.Proofs.YtodlibmnmjopbaaW.PrintMore Go.Proofs.Ytodlibmnmjopbaa.Util Go.Proofs.Ytodlibmnmjopbaa.Hand
set_option linter.unusedVariables false
set_option linter.unusedSimpArgs false

def to36 (x : S58) : S36 := ⟨x.f0, x.f1⟩
abbrev A0 (L : List S36) (i : Int) : Int := (rd_T36 L i).f0
abbrev A1 (L : List S36) (i : Int) : Int := (rd_T36 L i).f1
theorem rd_map (l : List S58) (i : Int) : rd_T36 (l.map to36) i = to36 (rd_T58 l i) := by
  unfold rd_T36 rd_T58
  simp only [List.getD_eq_getElem?_getD, List.getElem?_map]
  cases l[i.toNat]? <;> rfl
theorem map0 (l : List S58) (i : Int) : (rd_T58 l i).f0 = A0 (l.map to36) i := by unfold A0; rw [rd_map]; rfl
theorem map1 (l : List S58) (i : Int) : (rd_T58 l i).f1 = A1 (l.map to36) i := by unfold A1; rw [rd_map]; rfl
/-- May the pair at i be? -/
def goodB (L : List S36) (i : Nat) : Bool :=
  decide (0 ≤ A0 L i ∧ A0 L i ≤ 1099511627776) && decide (0 ≤ A1 L i ∧ A1 L i ≤ 1073741824) && (decide (i = 0) || (decide (A0 L ((i : Int) - 1) < A0 L i) && decide (A1 L i < A1 L ((i : Int) - 1))))
def allG (L : List S36) : Nat → Nat → Bool
  | 0, _ => true
  | d + 1, i => goodB L i && allG L d (i + 1)
def mayV (L : List S36) : Bool := allG L L.length 0 && decide (L.length ≤ 10)
theorem inside_eq (k : Nat) (a x : Int) : bbr_inside.f (k + 2) a [x] = some (decide (0 ≤ x ∧ x ≤ a)) := by
  unfold bbr_inside.f
  simp only [bbr_inside.l0, List.length_singleton]
  rw [if_pos (by decide), if_pos (by decide), if_pos (by decide)]
  have e : rd [x] 0 = x := rfl
  rw [e]
  by_cases h0 : x < 0
  · rw [if_pos h0, decide_eq_false (by omega)]
  · rw [if_neg h0]
    by_cases h1 : x > a
    · rw [if_pos h1, decide_eq_false (by omega)]
    · rw [if_neg h1, decide_eq_true (by omega), if_neg (by rw [wrap_id (by decide) (by decide)]; decide)]
theorem mayList_ev (L : List S36) (hs : L.length ≤ 10000000000000) : Ev (fun k => bbr_mayList.f k L) (mayV L) := by
  have h : ∀ (d i : Nat), i + d = L.length → Ev (fun k => bbr_mayList.l0 k L L (L.length : Int) (i : Int)) (allG L d i && decide (L.length ≤ 10)) := by
    intro d
    induction d with
    | zero =>
      intro i hi
      refine evEnd 1 (fun k hk => ?_)
      obtain ⟨m, rfl⟩ : ∃ m, k = m + 1 := ⟨k - 1, by omega⟩
      simp only [bbr_mayList.l0, allG, Bool.true_and]
      rw [if_neg (by omega)]
      congr 2
      exact propext (by omega)
    | succ d ih =>
      intro i hi
      have hw : wrap64 ((i : Int) + 1) = ((i + 1 : Nat) : Int) := by rw [wrap_id (by omega) (by omega)]; rfl
      have open_ : ∀ m, bbr_mayList.l0 (m + 2 + 1) L L (L.length : Int) (i : Int) = (if decide (0 ≤ A0 L i ∧ A0 L i ≤ 1099511627776) = true then (if decide (0 ≤ A1 L i ∧ A1 L i ≤ 1073741824) = true then (if (i : Int) > 0 then (if 0 ≤ (wrap64 ((i : Int) - 1)) then (if (wrap64 ((i : Int) - 1)) < (L.length : Int) then (if A0 L i ≤ A0 L (wrap64 ((i : Int) - 1)) then (some false) else (if A1 L i ≥ A1 L (wrap64 ((i : Int) - 1)) then (some false) else (bbr_mayList.l0 (m + 2) L L (L.length : Int) (wrap64 ((i : Int) + 1))))) else (none)) else (none)) else (bbr_mayList.l0 (m + 2) L L (L.length : Int) (wrap64 ((i : Int) + 1)))) else (some false)) else (some false)) := by
        intro m
        simp only [bbr_mayList.l0]
        rw [if_pos (by omega), if_pos (by omega), if_pos (by omega), inside_eq, Option.bind_some]
        by_cases g : 0 ≤ A0 L i ∧ A0 L i ≤ 1099511627776
        · rw [decide_eq_true g, if_pos rfl, if_pos rfl, inside_eq, Option.bind_some]
        · rw [decide_eq_false g, if_neg (by decide), if_neg (by decide)]
      have bad : goodB L i = false → (∀ m, bbr_mayList.l0 (m + 2 + 1) L L (L.length : Int) (i : Int) = some false) → Ev (fun k => bbr_mayList.l0 k L L (L.length : Int) (i : Int)) (allG L (d + 1) i && decide (L.length ≤ 10)) := fun hg he => by
        rw [allG, hg]
        exact evEnd 3 (fun k hk => by obtain ⟨m, rfl⟩ : ∃ m, k = m + 2 + 1 := ⟨k - 3, by omega⟩; exact he m)
      have good : goodB L i = true → (∀ m, bbr_mayList.l0 (m + 2 + 1) L L (L.length : Int) (i : Int) = bbr_mayList.l0 (m + 2) L L (L.length : Int) ((i + 1 : Nat) : Int)) → Ev (fun k => bbr_mayList.l0 k L L (L.length : Int) (i : Int)) (allG L (d + 1) i && decide (L.length ≤ 10)) := fun hg he => by
        rw [allG, hg]
        exact evStep 2 (fun k hk => by obtain ⟨m, rfl⟩ : ∃ m, k = m + 2 := ⟨k - 2, by omega⟩; exact he m) (ih (i + 1) (by omega))
      by_cases g0 : 0 ≤ A0 L i ∧ A0 L i ≤ 1099511627776
      · by_cases g1 : 0 ≤ A1 L i ∧ A1 L i ≤ 1073741824
        · by_cases h0 : i = 0
          · refine good (by unfold goodB; simp [g0, g1, h0]; subst h0; exact ⟨g0, g1⟩) (fun m => ?_)
            rw [open_, decide_eq_true g0, decide_eq_true g1, if_pos rfl, if_pos rfl, if_neg (by omega), hw]
          · have hw1 : wrap64 ((i : Int) - 1) = (i : Int) - 1 := wrap_id (by omega) (by omega)
            by_cases g2 : A0 L i ≤ A0 L ((i : Int) - 1)
            · refine bad (by unfold goodB; rw [decide_eq_true g0, decide_eq_true g1, decide_eq_false h0, decide_eq_false (by omega : ¬ A0 L ((i : Int) - 1) < A0 L i)]; rfl) (fun m => ?_)
              rw [open_, decide_eq_true g0, decide_eq_true g1, if_pos rfl, if_pos rfl, if_pos (by omega), hw1, if_pos (by omega), if_pos (by omega), if_pos g2]
            · by_cases g3 : A1 L i ≥ A1 L ((i : Int) - 1)
              · refine bad (by unfold goodB; rw [decide_eq_true g0, decide_eq_true g1, decide_eq_false h0, decide_eq_true (by omega : A0 L ((i : Int) - 1) < A0 L i), decide_eq_false (by omega : ¬ A1 L i < A1 L ((i : Int) - 1))]; rfl) (fun m => ?_)
                rw [open_, decide_eq_true g0, decide_eq_true g1, if_pos rfl, if_pos rfl, if_pos (by omega), hw1, if_pos (by omega), if_pos (by omega), if_neg g2, if_pos g3]
              · refine good (by unfold goodB; rw [decide_eq_true g0, decide_eq_true g1, decide_eq_false h0, decide_eq_true (by omega : A0 L ((i : Int) - 1) < A0 L i), decide_eq_true (by omega : A1 L i < A1 L ((i : Int) - 1))]; rfl) (fun m => ?_)
                rw [open_, decide_eq_true g0, decide_eq_true g1, if_pos rfl, if_pos rfl, if_pos (by omega), hw1, if_pos (by omega), if_pos (by omega), if_neg g2, if_neg g3, hw]
        · refine bad (by unfold goodB; rw [decide_eq_true g0, decide_eq_false g1]; rfl) (fun m => ?_)
          rw [open_, decide_eq_true g0, decide_eq_false g1, if_pos rfl, if_neg (by decide)]
      · refine bad (by unfold goodB; rw [decide_eq_false g0]; rfl) (fun m => ?_)
        rw [open_, decide_eq_false g0, if_neg (by decide)]
  refine evSame 0 (fun k _ => ?_) (h L.length 0 (by omega))
  rfl
theorem within_eq (x a : Int) : stopcockref23_within.f x a = some (decide (0 ≤ x ∧ x ≤ a)) := by
  unfold stopcockref23_within.f
  by_cases h : x ≥ 0
  · rw [if_pos h]; congr 1; simp; omega
  · rw [if_neg h, decide_eq_false (by omega)]
theorem list_ev (l : List S58) (hs : l.length ≤ 10000000000000) : Ev (fun k => stopcockref23_list.f k l) (mayV (l.map to36)) := by
  have h : ∀ (d i : Nat), i + d = l.length → Ev (fun k => stopcockref23_list.l0 k l (i : Int)) (allG (l.map to36) d i) := by
    intro d
    induction d with
    | zero =>
      intro i hi
      refine evEnd 1 (fun k hk => ?_)
      obtain ⟨m, rfl⟩ : ∃ m, k = m + 1 := ⟨k - 1, by omega⟩
      simp only [stopcockref23_list.l0, allG]
      rw [if_neg (by omega)]
    | succ d ih =>
      intro i hi
      have hw : wrap64 ((i : Int) + 1) = ((i + 1 : Nat) : Int) := by rw [wrap_id (by omega) (by omega)]; rfl
      generalize hL : l.map to36 = L at ih ⊢
      have e0 : ∀ j, (rd_T58 l j).f0 = A0 L j := fun j => by rw [← hL]; exact map0 l j
      have e1 : ∀ j, (rd_T58 l j).f1 = A1 L j := fun j => by rw [← hL]; exact map1 l j
      have open_ : ∀ m, stopcockref23_list.l0 (m + 1) l (i : Int) = (if decide (0 ≤ A0 L i ∧ A0 L i ≤ 1099511627776) = true then (if decide (0 ≤ A1 L i ∧ A1 L i ≤ 1073741824) = true then (if (i : Int) > 0 then (if 0 ≤ (wrap64 ((i : Int) - 1)) then (if (wrap64 ((i : Int) - 1)) < (l.length : Int) then (if A0 L i ≤ A0 L (wrap64 ((i : Int) - 1)) then (some false) else (if A1 L i ≥ A1 L (wrap64 ((i : Int) - 1)) then (some false) else (stopcockref23_list.l0 m l (wrap64 ((i : Int) + 1))))) else (none)) else (none)) else (stopcockref23_list.l0 m l (wrap64 ((i : Int) + 1)))) else (some false)) else (some false)) := by
        intro m
        simp only [stopcockref23_list.l0]
        rw [if_pos (by omega), if_pos (by omega), within_eq, Option.bind_some, within_eq, Option.bind_some, e0, e1, e0, e1]
      have bad : goodB L i = false → (∀ m, stopcockref23_list.l0 (m + 1) l (i : Int) = some false) → Ev (fun k => stopcockref23_list.l0 k l (i : Int)) (allG L (d + 1) i) := fun hg he => by
        rw [allG, hg]
        exact evEnd 1 (fun k hk => by obtain ⟨m, rfl⟩ : ∃ m, k = m + 1 := ⟨k - 1, by omega⟩; exact he m)
      have good : goodB L i = true → (∀ m, stopcockref23_list.l0 (m + 1) l (i : Int) = stopcockref23_list.l0 m l ((i + 1 : Nat) : Int)) → Ev (fun k => stopcockref23_list.l0 k l (i : Int)) (allG L (d + 1) i) := fun hg he => by
        rw [allG, hg]
        exact evStep 0 (fun k hk => he k) (ih (i + 1) (by omega))
      by_cases g0 : 0 ≤ A0 L i ∧ A0 L i ≤ 1099511627776
      · by_cases g1 : 0 ≤ A1 L i ∧ A1 L i ≤ 1073741824
        · by_cases h0 : i = 0
          · refine good (by unfold goodB; simp [g0, g1, h0]; subst h0; exact ⟨g0, g1⟩) (fun m => ?_)
            rw [open_, decide_eq_true g0, decide_eq_true g1, if_pos rfl, if_pos rfl, if_neg (by omega), hw]
          · have hw1 : wrap64 ((i : Int) - 1) = (i : Int) - 1 := wrap_id (by omega) (by omega)
            by_cases g2 : A0 L i ≤ A0 L ((i : Int) - 1)
            · refine bad (by unfold goodB; rw [decide_eq_true g0, decide_eq_true g1, decide_eq_false h0, decide_eq_false (by omega : ¬ A0 L ((i : Int) - 1) < A0 L i)]; rfl) (fun m => ?_)
              rw [open_, decide_eq_true g0, decide_eq_true g1, if_pos rfl, if_pos rfl, if_pos (by omega), hw1, if_pos (by omega), if_pos (by omega), if_pos g2]
            · by_cases g3 : A1 L i ≥ A1 L ((i : Int) - 1)
              · refine bad (by unfold goodB; rw [decide_eq_true g0, decide_eq_true g1, decide_eq_false h0, decide_eq_true (by omega : A0 L ((i : Int) - 1) < A0 L i), decide_eq_false (by omega : ¬ A1 L i < A1 L ((i : Int) - 1))]; rfl) (fun m => ?_)
                rw [open_, decide_eq_true g0, decide_eq_true g1, if_pos rfl, if_pos rfl, if_pos (by omega), hw1, if_pos (by omega), if_pos (by omega), if_neg g2, if_pos g3]
              · refine good (by unfold goodB; rw [decide_eq_true g0, decide_eq_true g1, decide_eq_false h0, decide_eq_true (by omega : A0 L ((i : Int) - 1) < A0 L i), decide_eq_true (by omega : A1 L i < A1 L ((i : Int) - 1))]; rfl) (fun m => ?_)
                rw [open_, decide_eq_true g0, decide_eq_true g1, if_pos rfl, if_pos rfl, if_pos (by omega), hw1, if_pos (by omega), if_pos (by omega), if_neg g2, if_neg g3, hw]
        · refine bad (by unfold goodB; rw [decide_eq_true g0, decide_eq_false g1]; rfl) (fun m => ?_)
          rw [open_, decide_eq_true g0, decide_eq_false g1, if_pos rfl, if_neg (by decide)]
      · refine bad (by unfold goodB; rw [decide_eq_false g0]; rfl) (fun m => ?_)
        rw [open_, decide_eq_false g0, if_neg (by decide)]
  unfold mayV
  rw [List.length_map]
  by_cases h10 : l.length > 10
  · refine evEnd 0 (fun k _ => ?_)
    unfold stopcockref23_list.f
    rw [if_pos (by omega), decide_eq_false (by omega), Bool.and_false]
  · rw [decide_eq_true (by omega), Bool.and_true]
    refine evSame 0 (fun k _ => ?_) (h l.length 0 (by omega))
    unfold stopcockref23_list.f
    rw [if_neg (by omega)]
    rfl
theorem pairs_ev (l : List S58) (hs : l.length ≤ 8796093022000) : Ev (fun k => stopcocklaw23_pairs.f k l) (l.map to36) := by
  have h : ∀ (d i : Nat), i + d = l.length → Ev (fun k => stopcocklaw23_pairs.l0 k l ((l.take i).map to36) (i : Int)) (l.map to36) := by
    intro d
    induction d with
    | zero =>
      intro i hi
      obtain rfl : i = l.length := by omega
      refine evEnd 1 (fun k hk => ?_)
      obtain ⟨m, rfl⟩ : ∃ m, k = m + 1 := ⟨k - 1, by omega⟩
      simp only [stopcocklaw23_pairs.l0]
      rw [if_neg (by omega), List.take_of_length_le (Nat.le_refl _)]
    | succ d ih =>
      intro i hi
      refine evStep 0 (fun k _ => ?_) (ih (i + 1) (by omega))
      simp only [stopcocklaw23_pairs.l0]
      have hr : rd_T58 l (i : Int) = l[i]'(by omega) := by simp [rd_T58, List.getD, show i < l.length by omega]
      rw [if_pos (by omega), if_pos (by omega), if_pos (by simp; omega), hr, wrap_id (by omega) (by omega), List.take_succ_eq_append_getElem (by omega), List.map_append]
      rfl
  exact h l.length 0 (by omega)
theorem samePairs_ev (l : List S58) (hs : l.length ≤ 10000000000000) : Ev (fun k => stopcocklaw23_samePairs.f k (l.map to36) l) true := by
  have h : ∀ (d i : Nat), i + d = l.length → Ev (fun k => stopcocklaw23_samePairs.l0 k (l.map to36) l (i : Int)) true := by
    intro d
    induction d with
    | zero =>
      intro i hi
      refine evEnd 1 (fun k hk => ?_)
      obtain ⟨m, rfl⟩ : ∃ m, k = m + 1 := ⟨k - 1, by omega⟩
      simp only [stopcocklaw23_samePairs.l0]
      rw [if_neg (by simp; omega)]
    | succ d ih =>
      intro i hi
      refine evStep 0 (fun k _ => ?_) (ih (i + 1) (by omega))
      simp only [stopcocklaw23_samePairs.l0]
      rw [if_pos (by simp; omega), if_pos (by omega), if_pos (by omega), rd_map, if_neg (by simp [to36]), wrap_id (by omega) (by omega)]
      rfl
  refine evSame 0 (fun k _ => ?_) (h l.length 0 (by omega))
  unfold stopcocklaw23_samePairs.f
  rw [if_pos (by simp)]
  rfl
theorem alive_ev : Ev (fun k => stopcocklaw23_alive.f k) true := Ev.of stopcocklaw23_alive.mono (k := 60) (by decide +kernel)
end Go.Proofs.Ytodlibmnmjopbaa.Pure
