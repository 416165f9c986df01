/- The filter behind a pair, the program's and the page's: plain laws. -/
import Derived.Test.YtodlibmnmjopbaaPlain
namespace Go.Proofs.Ytodlibmnmjopbaa.Pure
open Go.RowKit Go.Proofs.Ytodlibmnmjopbaa.PA Go.Proofs.YtodlibmnmjopbaaW.PrintWords Go.Proofs.YtodlibmnmjopbaaW.PrintLast Go.Proofs.YtodlibmnmjopbaaW.PrintMore Go.Proofs.Ytodlibmnmjopbaa.Util Go.Proofs.Ytodlibmnmjopbaa.Hand
set_option linter.unusedVariables false
set_option linter.unusedSimpArgs false

theorem allG_all (L : List S36) : ∀ (d i : Nat), allG L d i = true → ∀ j, i ≤ j → j < i + d → goodB L j = true
  | 0, i, _, j, h1, h2 => by omega
  | d + 1, i, h, j, h1, h2 => by
    rw [allG, Bool.and_eq_true] at h
    rcases (by omega : j = i ∨ i + 1 ≤ j) with rfl | h3
    · exact h.1
    · exact allG_all L d (i + 1) h.2 j h3 (by omega)
/-- A list that may be. -/
structure Valid (L : List S36) : Prop where
  len : L.length ≤ 10
  bd : ∀ i : Nat, i < L.length → (0 ≤ A0 L i ∧ A0 L i ≤ 1099511627776) ∧ (0 ≤ A1 L i ∧ A1 L i ≤ 1073741824)
  next : ∀ i : Nat, i + 1 < L.length → A0 L i < A0 L (i + 1 : Nat) ∧ A1 L (i + 1 : Nat) < A1 L i
theorem valid_of {L : List S36} (h : mayV L = true) : Valid L := by
  unfold mayV at h
  rw [Bool.and_eq_true] at h
  have hg := fun j (hj : j < L.length) => allG_all L L.length 0 h.1 j (Nat.zero_le _) (by omega)
  refine ⟨of_decide_eq_true h.2, fun i hi => ?_, fun i hi => ?_⟩
  · have := hg i hi
    unfold goodB at this
    simp only [Bool.and_eq_true, decide_eq_true_eq] at this
    exact ⟨this.1.1, this.1.2⟩
  · have := hg (i + 1) hi
    unfold goodB at this
    simp only [Bool.and_eq_true, Bool.or_eq_true, decide_eq_true_eq] at this
    rcases this.2 with h0 | ⟨h1, h2⟩
    · omega
    · have e : (((i + 1 : Nat) : Int) - 1) = (i : Int) := by omega
      rw [e] at h1 h2
      exact ⟨h1, h2⟩
theorem Valid.mono {L : List S36} (h : Valid L) (i : Nat) : ∀ d : Nat, i + d + 1 < L.length → A0 L i < A0 L (i + d + 1 : Nat) ∧ A1 L (i + d + 1 : Nat) < A1 L i
  | 0, hd => h.next i hd
  | d + 1, hd => by
    have h1 := h.mono i d (by omega)
    have h2 := h.next (i + d + 1) hd
    have e : i + (d + 1) + 1 = i + d + 1 + 1 := by omega
    rw [e]
    omega
theorem Valid.lt {L : List S36} (h : Valid L) {i j : Nat} (hij : i < j) (hj : j < L.length) : A0 L i < A0 L j ∧ A1 L j < A1 L i := by
  have := h.mono i (j - i - 1) (by omega)
  rwa [show i + (j - i - 1) + 1 = j by omega] at this
theorem may_of {L : List S36} (h : Valid L) : mayV L = true := by
  unfold mayV
  rw [decide_eq_true h.len, Bool.and_true]
  have : ∀ (d i : Nat), i + d = L.length → allG L d i = true := by
    intro d
    induction d with
    | zero => intro i _; rfl
    | succ d ih =>
      intro i hi
      rw [allG, ih (i + 1) (by omega), Bool.and_true]
      have hb := h.bd i (by omega)
      unfold goodB
      rw [decide_eq_true hb.1, decide_eq_true hb.2]
      rcases Nat.eq_zero_or_pos i with h0 | h0
      · simp [h0]
      · have hn := h.next (i - 1) (by omega)
        have e : ((i - 1 : Nat) : Int) = (i : Int) - 1 := by omega
        rw [show i - 1 + 1 = i by omega, e] at hn
        rw [decide_eq_true hn.1, decide_eq_true hn.2]; simp
  exact this L.length 0 (by omega)
def lastV (L : List S36) : Int := if L.length = 0 then 0 else A0 L ((L.length : Int) - 1)
theorem last_eq (L : List S36) (hs : L.length ≤ 10000000000000) : bbr_last.f L = some (lastV L) := by
  unfold bbr_last.f lastV
  by_cases h : L.length = 0
  · rw [if_pos (by omega), if_pos h]
  · rw [if_neg (by omega), if_neg h, wrap_id (by omega) (by omega), if_pos (by omega), if_pos (by omega)]
def putV (L : List S36) (a b : Int) : List S36 := L.filter (keep a (bump L a b)) ++ [⟨a, bump L a b⟩]
def filtV (L : List S36) (a b : Int) : List S36 × Int :=
  if mayV L = true then (if 0 ≤ a ∧ a ≤ 1099511627776 then (if 0 ≤ b ∧ b ≤ 1073741824 then (if a < lastV L then ([], 4) else (putV L a b, 0)) else ([], 4)) else ([], 4)) else ([], 171)
theorem filt_ev (L : List S36) (a b : Int) (hs : L.length ≤ 10000000000000) : Ev (fun k => bbr_Filter.f k L a b) (filtV L a b) := by
  obtain ⟨K, e⟩ := mayList_ev L hs
  refine evEnd (K + 2) (fun k hk => ?_)
  obtain ⟨m, rfl⟩ : ∃ m, k = m + 2 := ⟨k - 2, by omega⟩
  unfold bbr_Filter.f filtV
  rw [show bbr_mayList.f (m + 2) L = _ from e (m + 2) (by omega), Option.bind_some]
  by_cases h : mayV L = true
  · rw [if_pos h, if_pos h, inside_eq, Option.bind_some]
    by_cases ha : 0 ≤ a ∧ a ≤ 1099511627776
    · rw [decide_eq_true ha, if_pos rfl, if_pos ha, inside_eq, Option.bind_some]
      by_cases hb : 0 ≤ b ∧ b ≤ 1073741824
      · rw [decide_eq_true hb, if_pos rfl, if_pos hb, last_eq L hs, Option.bind_some]
        by_cases hl : a < lastV L
        · rw [if_pos hl, if_pos hl]
        · rw [if_neg hl, if_neg hl]
          unfold bbr_put.f Hand.putF
          rw [if_pos (by have := (valid_of h).len; omega), Option.bind_some]
          rfl
      · rw [decide_eq_false hb, if_neg (by decide), if_neg hb]
    · rw [decide_eq_false ha, if_neg (by decide), if_neg ha]
  · rw [if_neg h, if_neg h]
/-- What the page keeps. -/
def rk (a b : Int) (q : S36) : Bool := decide (b < q.f1) && decide (wrap64 (a - q.f0) < 10) && !(decide (q.f0 = a))
def kp (L : List S36) (a b : Int) : Nat → Nat → Int → Int
  | 0, _, x => x
  | d + 1, i, x => kp L a b d (i + 1) (if A0 L i = a ∧ A1 L i > b then A1 L i else x)
theorem kp_last (L : List S36) (a b : Int) : ∀ (d i : Nat) (x : Int), i + d + 1 = L.length → (∀ j : Nat, j + 1 < L.length → A0 L j ≠ a) → kp L a b (d + 1) i x = if A0 L ((L.length : Int) - 1) = a ∧ A1 L ((L.length : Int) - 1) > b then A1 L ((L.length : Int) - 1) else x
  | 0, i, x, h, _ => by
    have e : (i : Int) = (L.length : Int) - 1 := by omega
    rw [kp, kp, e]
  | d + 1, i, x, h, hn => by
    rw [kp, if_neg (fun e => hn i (by omega) e.1)]
    exact kp_last L a b d (i + 1) x (by omega) hn
theorem kp_bump {L : List S36} (h : Valid L) (a b : Int) (hl : ¬ a < lastV L) : kp L a b L.length 0 b = bump L a b := by
  unfold lastV at hl
  rcases Nat.eq_zero_or_pos L.length with h0 | h0
  · rw [h0]; unfold bump; rw [if_neg (by omega)]; rfl
  · rw [if_neg (by omega)] at hl
    have e : ((L.length - 1 : Nat) : Int) = (L.length : Int) - 1 := by omega
    have hk := kp_last L a b (L.length - 1) 0 b (by omega) (fun j hj => by
      have := (h.lt (i := j) (j := L.length - 1) (by omega) (by omega)).1
      rw [e] at this
      omega)
    rw [show L.length - 1 + 1 = L.length by omega] at hk
    rw [hk]
    unfold bump mx
    by_cases h1 : A0 L ((L.length : Int) - 1) = a
    · rw [if_pos (⟨h0, h1⟩ : 0 < L.length ∧ (rd_T36 L ((L.length : Int) - 1)).f0 = a)]
      by_cases h2 : A1 L ((L.length : Int) - 1) > b
      · rw [if_pos ⟨h1, h2⟩, if_pos h2]
      · rw [if_neg (fun e => h2 e.2), if_neg h2]
    · rw [if_neg (fun e => h1 e.1), if_neg (fun e => h1 e.2)]
theorem rd_get36 (L : List S36) (i : Nat) (h : i < L.length) : rd_T36 L (i : Int) = L[i] := by simp [rd_T36, List.getD, h]
theorem keep_rk {L : List S36} (h : Valid L) (a b : Int) (hl : ¬ a < lastV L) : L.filter (keep a (bump L a b)) = L.filter (rk a b) := by
  refine List.filter_congr (fun q hq => ?_)
  obtain ⟨i, hi, rfl⟩ := List.getElem_of_mem hq
  have e0 : L[i].f0 = A0 L i := by unfold A0; rw [rd_get36 L i hi]
  have e1 : L[i].f1 = A1 L i := by unfold A1; rw [rd_get36 L i hi]
  unfold lastV at hl
  rw [if_neg (by omega)] at hl
  have en : ((L.length - 1 : Nat) : Int) = (L.length : Int) - 1 := by omega
  have hb : bump L a b = if A0 L ((L.length : Int) - 1) = a then (if b < A1 L ((L.length : Int) - 1) then A1 L ((L.length : Int) - 1) else b) else b := by
    unfold bump mx
    by_cases h1 : A0 L ((L.length : Int) - 1) = a
    · rw [if_pos (⟨by omega, h1⟩ : 0 < L.length ∧ (rd_T36 L ((L.length : Int) - 1)).f0 = a), if_pos h1]
    · rw [if_neg (fun e => h1 e.2), if_neg h1]
  have hlast : i = L.length - 1 ∨ (A0 L i < A0 L ((L.length : Int) - 1) ∧ A1 L ((L.length : Int) - 1) < A1 L i) := by
    rcases (by omega : i = L.length - 1 ∨ i < L.length - 1) with h1 | h1
    · exact .inl h1
    · have := h.lt h1 (by omega); rw [en] at this; exact .inr this
  unfold keep del rk
  rw [e0, e1, hb]
  generalize wrap64 (a - A0 L i) = z
  rw [Bool.eq_iff_iff]
  simp only [Bool.not_eq_true', Bool.or_eq_false_iff, decide_eq_false_iff_not, Bool.and_eq_true, decide_eq_true_eq]
  rcases hlast with h1 | h1
  · have ei : (i : Int) = (L.length : Int) - 1 := by omega
    rw [ei]
    by_cases h2 : A0 L ((L.length : Int) - 1) = a
    · rw [if_pos h2]
      split <;> constructor <;> intro h3 <;> first | omega | (exact absurd h2 h3.2)
    · rw [if_neg h2]
      constructor
      · intro h3; exact ⟨⟨by omega, by omega⟩, h2⟩
      · intro h3; omega
  · by_cases h2 : A0 L ((L.length : Int) - 1) = a
    · rw [if_pos h2]
      split
      · constructor
        · intro h3; exact ⟨⟨by omega, by omega⟩, by omega⟩
        · intro h3; omega
      · constructor
        · intro h3; exact ⟨⟨by omega, by omega⟩, by omega⟩
        · intro h3; omega
    · rw [if_neg h2]
      constructor
      · intro h3; exact ⟨⟨by omega, by omega⟩, by omega⟩
      · intro h3; omega
theorem rd_get58 (l : List S58) (i : Nat) (h : i < l.length) : rd_T58 l (i : Int) = l[i] := by simp [rd_T58, List.getD, h]
def rk58 (a b : Int) (q : S58) : Bool := rk a b (to36 q)
theorem rfilter1_ev (l : List S58) (a b : Int) (out : List S58) (ho : out.length ≤ 1000000) (hs : l.length ≤ 1000000) : ∀ (d i : Nat) (x : Int), i + d = l.length → Ev (fun k => stopcockref23_filter.l1 k l a b out x (i : Int)) (out ++ [⟨a, kp (l.map to36) a b d i x⟩]) := by
  intro d
  induction d with
  | zero =>
    intro i x hi
    refine evEnd 1 (fun k hk => ?_)
    obtain ⟨m, rfl⟩ : ∃ m, k = m + 1 := ⟨k - 1, by omega⟩
    simp only [stopcockref23_filter.l1]
    rw [if_neg (by omega), if_pos (by omega)]
    rfl
  | succ d ih =>
    intro i x hi
    refine evStep 0 (fun k _ => ?_) (ih (i + 1) (if A0 (l.map to36) i = a ∧ A1 (l.map to36) i > b then A1 (l.map to36) i else x) (by omega))
    simp only [stopcockref23_filter.l1]
    rw [if_pos (by omega), if_pos (by omega), map0, map1, wrap_id (by omega) (by omega)]
    by_cases h1 : A0 (l.map to36) i = a
    · rw [if_pos h1]
      by_cases h2 : A1 (l.map to36) i > b
      · rw [if_pos h2, if_pos ⟨h1, h2⟩]; rfl
      · rw [if_neg h2, if_neg (fun e => h2 e.2)]; rfl
    · rw [if_neg h1, if_neg (fun e => h1 e.1)]; rfl
theorem rfilter_ev (l : List S58) (a b : Int) (hs : l.length ≤ 1000000) : Ev (fun k => stopcockref23_filter.f k l a b) (l.filter (rk58 a b) ++ [⟨a, kp (l.map to36) a b l.length 0 b⟩]) := by
  have h : ∀ (d i : Nat), i + d = l.length → Ev (fun k => stopcockref23_filter.l0 k l a b ((l.take i).filter (rk58 a b)) (i : Int)) (l.filter (rk58 a b) ++ [⟨a, kp (l.map to36) a b l.length 0 b⟩]) := by
    intro d
    induction d with
    | zero =>
      intro i hi
      obtain rfl : i = l.length := by omega
      rw [List.take_of_length_le (Nat.le_refl _)]
      refine evStep 0 (fun k _ => ?_) (rfilter1_ev l a b (l.filter (rk58 a b)) (Nat.le_trans (List.length_filter_le _ _) hs) hs l.length 0 b (by omega))
      simp only [stopcockref23_filter.l0]
      rw [if_neg (by omega)]
      rfl
    | succ d ih =>
      intro i hi
      refine evStep 0 (fun k _ => ?_) (ih (i + 1) (by omega))
      have hfl : ((l.take i).filter (rk58 a b)).length ≤ 1000000 := Nat.le_trans (List.length_filter_le _ _) (by simp; omega)
      have e := rd_get58 l i (by omega)
      simp only [stopcockref23_filter.l0]
      rw [if_pos (by omega), if_pos (by omega), e, wrap_id (x := (i : Int) + 1) (by omega) (by omega), List.take_succ_eq_append_getElem (by omega), List.filter_append]
      by_cases h1 : l[i].f1 > b
      · rw [if_pos h1]
        by_cases h2 : wrap64 (a - l[i].f0) < 10
        · rw [if_pos h2]
          by_cases h3 : l[i].f0 = a
          · rw [if_pos h3, List.filter_cons_of_neg (by simp [rk58, rk, to36, h3]), List.filter_nil, List.append_nil]; rfl
          · rw [if_neg h3, if_pos (by omega), List.filter_cons_of_pos (by simp [rk58, rk, to36, h3, h1, h2]), List.filter_nil]; rfl
        · rw [if_neg h2, List.filter_cons_of_neg (by simp [rk58, rk, to36, h2]), List.filter_nil, List.append_nil]; rfl
      · rw [if_neg h1, List.filter_cons_of_neg (by simp [rk58, rk, to36, h1]), List.filter_nil, List.append_nil]; rfl
  exact h l.length 0 (by omega)
theorem rFilter_ev (l : List S58) (a b : Int) (hs : l.length ≤ 10000000000000) : ∃ R : List S58 × Int, Ev (fun k => stopcockref23_Filter.f k l a b) R ∧ (R.1.map to36, R.2) = filtV (l.map to36) a b := by
  obtain ⟨K, e⟩ := list_ev l hs
  by_cases h : mayV (l.map to36) = true
  · have hv := valid_of h
    have hl10 : l.length ≤ 10 := by have := hv.len; simpa using this
    obtain ⟨K2, e2⟩ := rfilter_ev l a b (by omega)
    by_cases ha : 0 ≤ a ∧ a ≤ 1099511627776
    · by_cases hb : 0 ≤ b ∧ b ≤ 1073741824
      · have hlv : lastV (l.map to36) = if l.length = 0 then 0 else A0 (l.map to36) ((l.length : Int) - 1) := by unfold lastV; rw [List.length_map]
        by_cases hl : a < lastV (l.map to36)
        · refine ⟨([], 4), evEnd K (fun k hk => ?_), by unfold filtV; rw [if_pos h, if_pos ha, if_pos hb, if_pos hl]; rfl⟩
          unfold stopcockref23_Filter.f
          rw [show stopcockref23_list.f k l = _ from e k (by omega), Option.bind_some, h, if_pos rfl, within_eq, Option.bind_some, decide_eq_true ha, if_pos rfl, within_eq, Option.bind_some, decide_eq_true hb, if_pos rfl]
          rw [hlv] at hl
          by_cases h0 : l.length = 0
          · rw [if_pos h0] at hl; omega
          · rw [if_neg h0] at hl
            rw [if_pos (by omega), wrap_id (by omega) (by omega), if_pos (by omega), if_pos (by omega), map0, if_pos hl]
        · refine ⟨(l.filter (rk58 a b) ++ [⟨a, kp (l.map to36) a b l.length 0 b⟩], 0), evEnd (K + K2) (fun k hk => ?_), ?_⟩
          · unfold stopcockref23_Filter.f
            rw [show stopcockref23_list.f k l = _ from e k (by omega), Option.bind_some, h, if_pos rfl, within_eq, Option.bind_some, decide_eq_true ha, if_pos rfl, within_eq, Option.bind_some, decide_eq_true hb, if_pos rfl]
            have hl' := hl
            rw [hlv] at hl'
            rw [show stopcockref23_filter.f k l a b = _ from e2 k (by omega)]
            by_cases h0 : l.length = 0
            · rw [if_neg (by omega), Option.bind_some]
            · rw [if_neg h0] at hl'
              rw [if_pos (by omega), wrap_id (by omega) (by omega), if_pos (by omega), if_pos (by omega), map0, if_neg hl', Option.bind_some]
          · have hk := kp_bump hv a b hl
            rw [List.length_map] at hk
            unfold filtV
            rw [if_pos h, if_pos ha, if_pos hb, if_neg hl]
            unfold putV
            rw [keep_rk hv a b hl, List.filter_map, hk, List.map_append]
            rfl
      · refine ⟨([], 4), evEnd K (fun k hk => ?_), by unfold filtV; rw [if_pos h, if_pos ha, if_neg hb]; rfl⟩
        unfold stopcockref23_Filter.f
        rw [show stopcockref23_list.f k l = _ from e k (by omega), Option.bind_some, h, if_pos rfl, within_eq, Option.bind_some, decide_eq_true ha, if_pos rfl, within_eq, Option.bind_some, decide_eq_false hb, if_neg (by decide)]
    · refine ⟨([], 4), evEnd K (fun k hk => ?_), by unfold filtV; rw [if_pos h, if_neg ha]; rfl⟩
      unfold stopcockref23_Filter.f
      rw [show stopcockref23_list.f k l = _ from e k (by omega), Option.bind_some, h, if_pos rfl, within_eq, Option.bind_some, decide_eq_false ha, if_neg (by decide)]
  · refine ⟨([], 171), evEnd K (fun k hk => ?_), by unfold filtV; rw [if_neg h]; rfl⟩
    unfold stopcockref23_Filter.f
    rw [show stopcockref23_list.f k l = _ from e k (by omega), Option.bind_some, if_neg h]
theorem filtV_len (L : List S36) (a b : Int) : (filtV L a b).1.length ≤ 11 := by
  unfold filtV
  split
  · rename_i h
    have := (valid_of h).len
    split
    · split
      · split
        · simp
        · unfold putV
          have h2 := List.length_filter_le (keep a (bump L a b)) L
          simp; omega
      · simp
    · simp
  · simp
end Go.Proofs.Ytodlibmnmjopbaa.Pure
