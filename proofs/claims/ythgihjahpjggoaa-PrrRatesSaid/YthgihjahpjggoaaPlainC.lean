/- As PlainB, for the texts of the namespace PC. -/
import Derived.Test.YthgihjahpjggoaaPCx9
import Derived.Test.YthgihjahpjggoaaUtil
namespace Go.Proofs.Ythgihjahpjggoaa.PureC
open Go.RowKit Go.Proofs.Ythgihjahpjggoaa.PC Go.Proofs.YthgihjahpjggoaaW.PrintWords Go.Proofs.YthgihjahpjggoaaW.PrintLast Go.Proofs.YthgihjahpjggoaaW.PrintMore Go.Proofs.Ythgihjahpjggoaa.Util
set_option linter.unusedVariables false
set_option linter.unusedSimpArgs false

def inB (b : S59) : Prop := ∀ n ∈ b.f2, b.f0 ≤ n ∧ n ≤ b.f1
instance (b : S59) : Decidable (inB b) := by unfold inB; infer_instance
theorem all_l1 (x7 : List S59) (x8 x9 lo hi : Int) (xs ys : List Int) (hl : xs.length ≤ 1000) : ∀ (d j : Nat), j + d = xs.length → ∀ k,
    prr_all.l1 (d + 1 + k) x7 x8 x9 xs (xs.length : Int) (j : Int) lo hi ys = if ∀ n ∈ xs.drop j, lo ≤ n ∧ n ≤ hi then prr_all.l0 k x7 x8 (wrap64 (x9 + 1)) else some false := by
  intro d
  induction d with
  | zero =>
    intro j hj k
    rw [show 0 + 1 + k = k + 1 by omega]
    simp only [prr_all.l1]
    rw [if_neg (by omega), List.drop_of_length_le (by omega)]
    simp
  | succ d ih =>
    intro j hj k
    rw [show d + 1 + 1 + k = (d + 1 + k) + 1 by omega]
    simp only [prr_all.l1]
    have hj' : j < xs.length := by omega
    have hrd : rd xs (j : Int) = xs[j] := by unfold rd; rw [Int.toNat_natCast, getD_eq xs j 0 hj']
    rw [if_pos (by omega), if_pos (by omega), if_pos (by omega), hrd, List.drop_eq_getElem_cons hj', show wrap64 ((j : Int) + 1) = ((j + 1 : Nat) : Int) by rw [wrap_id (by omega) (by omega)]; omega, ih (j + 1) (by omega) k]
    by_cases h1 : xs[j] < lo
    · rw [if_pos h1, if_neg (fun hh => by have := (hh xs[j] List.mem_cons_self).1; omega)]
    · rw [if_neg h1]
      by_cases h2 : xs[j] > hi
      · rw [if_pos h2, if_neg (fun hh => by have := (hh xs[j] List.mem_cons_self).2; omega)]
      · rw [if_neg h2]
        by_cases h3 : ∀ n ∈ xs.drop (j + 1), lo ≤ n ∧ n ≤ hi
        · rw [if_pos h3, if_pos]
          intro n hn
          rcases List.mem_cons.1 hn with rfl | hn
          · omega
          · exact h3 n hn
        · rw [if_neg h3, if_neg (fun hh => h3 (fun n hn => hh n (List.mem_cons_of_mem _ hn)))]
def cost : List S59 → Nat
  | [] => 1
  | b :: t => b.f2.length + 2 + cost t
theorem all_l0 (l : List S59) (hl : l.length ≤ 1000) (hl2 : ∀ b ∈ l, b.f2.length ≤ 1000) : ∀ (t : List S59) (i : Nat), l.drop i = t → ∀ k,
    prr_all.l0 (cost t + k) l (l.length : Int) (i : Int) = some (decide (∀ b ∈ t, inB b)) := by
  intro t
  induction t with
  | nil =>
    intro i hi k
    have hi' : l.length ≤ i := List.drop_eq_nil_iff.1 hi
    rw [show cost [] + k = k + 1 by simp only [cost]; omega]
    simp only [prr_all.l0]
    rw [if_neg (by omega)]
    simp
  | cons b t ih =>
    intro i hi k
    have hi' : i < l.length := by
      rcases Nat.lt_or_ge i l.length with h | h
      · exact h
      · rw [List.drop_of_length_le h] at hi; cases hi
    have hb : l[i] = b ∧ l.drop (i + 1) = t := by
      rw [List.drop_eq_getElem_cons hi'] at hi
      exact List.cons.inj hi
    rw [show cost (b :: t) + k = (b.f2.length + 1 + (cost t + k)) + 1 by simp only [cost]; omega]
    simp only [prr_all.l0]
    have hrd : rd_T59 l (i : Int) = b := by unfold rd_T59; rw [Int.toNat_natCast, List.getD_eq_getElem?_getD, List.getElem?_eq_getElem hi']; exact hb.1
    have hbm : b.f2.length ≤ 1000 := hl2 b (by rw [← hb.1]; exact List.getElem_mem hi')
    rw [if_pos (by omega), if_pos (by omega), if_pos (by omega), hrd]
    have := all_l1 l (l.length : Int) (i : Int) b.f0 b.f1 b.f2 b.f2 hbm b.f2.length 0 (by omega) (cost t + k)
    rw [show ((0 : Nat) : Int) = 0 by rfl] at this
    rw [this, show wrap64 ((i : Int) + 1) = ((i + 1 : Nat) : Int) by rw [wrap_id (by omega) (by omega)]; omega, ih (i + 1) hb.2 k]
    rw [List.drop_zero]
    by_cases h : inB b
    · rw [if_pos (show ∀ n, n ∈ b.f2 → b.f0 ≤ n ∧ n ≤ b.f1 from h)]
      simp [h]
    · rw [if_neg (show ¬ ∀ n, n ∈ b.f2 → b.f0 ≤ n ∧ n ≤ b.f1 from h)]
      simp [h]
theorem all_eq (l : List S59) (hl : l.length ≤ 1000) (hl2 : ∀ b ∈ l, b.f2.length ≤ 1000) (k : Nat) (hk : cost l ≤ k) : prr_all.f k l = some (decide (∀ b ∈ l, inB b)) := by
  unfold prr_all.f
  have := all_l0 l hl hl2 l 0 (by simp) (k - cost l)
  rw [show cost l + (k - cost l) = k by omega] at this
  exact this

def okS (th fl de ou : Int) : Prop := 1 ≤ th ∧ th ≤ 1073741824 ∧ 1 ≤ fl ∧ fl ≤ 1073741824 ∧ 0 ≤ de ∧ de ≤ 2147483648 ∧ 0 ≤ ou ∧ ou ≤ 2147483648
instance (th fl de ou : Int) : Decidable (okS th fl de ou) := by unfold okS; infer_instance
theorem mayS_eq (th fl de ou : Int) (k : Nat) (hk : 20 ≤ k) : prr_State_may.f k th fl de ou = some (decide (okS th fl de ou)) := by
  unfold prr_State_may.f
  rw [all_eq _ (by simp) (by simp) k (by simp [cost]; omega)]
  simp only [Option.bind_some, Option.some.injEq]
  refine decide_eq_decide.2 ?_
  simp only [List.mem_cons, List.not_mem_nil, or_false, forall_eq_or_imp, forall_eq, inB]
  unfold okS
  omega
def okA (n pipe mss : Int) : Prop := 0 ≤ n ∧ n ≤ 1073741824 ∧ 0 ≤ pipe ∧ pipe ≤ 1073741824 ∧ 1 ≤ mss ∧ mss ≤ 65535
instance (n pipe mss : Int) : Decidable (okA n pipe mss) := by unfold okA; infer_instance

theorem up_mod (x b : Int) (hb : 1 ≤ b) : (x + b - 1) / b = if x % b > 0 then x / b + 1 else x / b := by
  rw [up_div x b hb]
  have h1 := Int.mul_ediv_add_emod x b
  have h2 := Int.emod_nonneg x (by omega : b ≠ 0)
  have hc : b * (x / b) = x / b * b := Int.mul_comm _ _
  by_cases h : x % b > 0
  · rw [if_pos h, if_pos (by omega)]
  · rw [if_neg h, if_neg (by omega)]
def ackF (th fl de ou n pipe mss : Int) : Int × Int × Int × Int × Int × Int :=
  if okS th fl de ou then
    if okA n pipe mss then (th, fl, mn (de + n) 2147483648, ou, mx 0 (if pipe > th then (mn (de + n) 2147483648 * th + fl - 1) / fl - ou else mn (th - pipe) (mx n (mn (de + n) 2147483648 - ou) + mss)), 0)
    else (0, 0, 0, 0, 0, 4)
  else (0, 0, 0, 0, 0, 171)
theorem mn_bd {a b lo hi : Int} (h1 : lo ≤ a) (h2 : lo ≤ b) (h3 : a ≤ hi ∨ b ≤ hi) : lo ≤ mn a b ∧ mn a b ≤ hi := by unfold mn; split <;> omega
theorem mx_bd {a b lo hi : Int} (h1 : a ≤ hi) (h2 : b ≤ hi) (h3 : lo ≤ a ∨ lo ≤ b) : lo ≤ mx a b ∧ mx a b ≤ hi := by unfold mx; split <;> omega
theorem mx_swap (a b : Int) : mx a b = mx b a := by unfold mx; split <;> split <;> omega
theorem ack_facts {th fl de ou n pipe mss : Int} (hs : okS th fl de ou) (ha : okA n pipe mss) : 0 ≤ mn (de + n) 2147483648 ∧ mn (de + n) 2147483648 ≤ 2147483648 ∧ 0 ≤ mn (de + n) 2147483648 * th ∧ mn (de + n) 2147483648 * th ≤ 2305843009213693952 ∧
    0 ≤ mn (de + n) 2147483648 * th / fl ∧ mn (de + n) 2147483648 * th / fl ≤ mn (de + n) 2147483648 * th ∧ 0 ≤ (mn (de + n) 2147483648 * th + fl - 1) / fl ∧ (mn (de + n) 2147483648 * th + fl - 1) / fl ≤ mn (de + n) 2147483648 * th + fl - 1 := by
  obtain ⟨g1, g2, g3, g4, g5, g6, g7, g8⟩ := hs
  obtain ⟨k1, k2, k3, k4, k5, k6⟩ := ha
  have hD := mn_bd (a := de + n) (b := 2147483648) (lo := 0) (hi := 2147483648) (by omega) (by omega) (by omega)
  generalize mn (de + n) 2147483648 = D at *
  have h1 : 0 ≤ D * th := Int.mul_nonneg (by omega) (by omega)
  have h2 : D * th ≤ 2147483648 * 1073741824 := Int.mul_le_mul (by omega) (by omega) (by omega) (by omega)
  refine ⟨by omega, by omega, h1, by omega, Int.ediv_nonneg h1 (by omega), Int.ediv_le_self _ h1, Int.ediv_nonneg (by omega) (by omega), Int.ediv_le_self _ (by omega)⟩
theorem ack_eq (th fl de ou n pipe mss : Int) (k : Nat) (hk : 20 ≤ k) : prr_Ack.f k th fl de ou n pipe mss = some (ackF th fl de ou n pipe mss) := by
  unfold prr_Ack.f ackF
  rw [mayS_eq th fl de ou k hk, all_eq _ (by simp) (by simp) k (by simp [cost]; omega)]
  simp only [Option.bind_some]
  have e : (∀ b ∈ ([(⟨0, 1073741824, (([n, pipe] : List Int))⟩ : S59), (⟨1, 65535, (([mss] : List Int))⟩ : S59)] : List (S59)), inB b) ↔ okA n pipe mss := by
    simp only [List.mem_cons, List.not_mem_nil, or_false, forall_eq_or_imp, forall_eq, inB]
    unfold okA
    omega
  by_cases hs : okS th fl de ou
  · rw [if_pos (by simpa using hs), if_pos hs]
    by_cases ha : okA n pipe mss
    · rw [if_pos (by rw [decide_eq_true_eq]; exact e.2 ha), if_pos ha]
      obtain ⟨f1, f2, f3, f4, f5, f6, f7, f8⟩ := ack_facts hs ha
      obtain ⟨g1, g2, g3, g4, g5, g6, g7, g8⟩ := hs
      obtain ⟨k1, k2, k3, k4, k5, k6⟩ := ha
      rw [wrap_id (x := de + n) (by omega) (by omega)]
      have hup := up_mod (mn (de + n) 2147483648 * th) fl g3
      generalize mn (de + n) 2147483648 = D at *
      by_cases c : pipe > th
      · rw [if_pos c, if_pos c, if_neg (by omega), wrap_id (x := D * th) (by omega) (by omega), tmod_pos f3, tdiv_pos f3, wrap_id (x := D * th / fl) (by omega) (by omega), wrap_id (x := D * th / fl - ou) (by omega) (by omega)]
        rw [hup]
        by_cases c2 : D * th % fl > 0
        · rw [if_pos c2, if_pos c2, wrap_id (x := D * th / fl - ou + 1) (by omega) (by omega), show D * th / fl - ou + 1 = D * th / fl + 1 - ou by omega]
        · rw [if_neg c2, if_neg c2]
      · rw [if_neg c, if_neg c]
        have hm := mx_bd (a := n) (b := D - ou) (lo := 0) (hi := 2147483648) (by omega) (by omega) (by omega)
        rw [wrap_id (x := D - ou) (by omega) (by omega), wrap_id (x := th - pipe) (by omega) (by omega), wrap_id (x := mx n (D - ou) + mss) (by omega) (by omega)]
    · rw [if_neg (by rw [decide_eq_true_eq]; exact fun h => ha (e.1 h)), if_neg ha]
  · rw [if_neg (by simpa using hs), if_neg hs]
def spentF (th fl de ou n : Int) : Int × Int × Int × Int × Int :=
  if okS th fl de ou then (if 0 ≤ n ∧ n ≤ 1073741824 then (th, fl, de, mn (ou + n) 2147483648, 0) else (0, 0, 0, 0, 4)) else (0, 0, 0, 0, 171)
theorem spent_eq (th fl de ou n : Int) (k : Nat) (hk : 20 ≤ k) : prr_Spent.f k th fl de ou n = some (spentF th fl de ou n) := by
  unfold prr_Spent.f spentF
  rw [mayS_eq th fl de ou k hk, all_eq _ (by simp) (by simp) k (by simp [cost]; omega)]
  simp only [Option.bind_some]
  by_cases hs : okS th fl de ou
  · rw [if_pos (by simpa using hs), if_pos hs]
    by_cases c : 0 ≤ n ∧ n ≤ 1073741824
    · rw [if_pos (by simp [inB]; omega), if_pos c]
      obtain ⟨g1, g2, g3, g4, g5, g6, g7, g8⟩ := hs
      rw [wrap_id (by omega) (by omega)]
    · rw [if_neg (by simp [inB]; omega), if_neg c]
  · rw [if_neg (by simpa using hs), if_neg hs]
def startF (f t : Int) : Int × Int × Int × Int × Int := if 1 ≤ f ∧ f ≤ 1073741824 ∧ 1 ≤ t ∧ t ≤ 1073741824 then (t, f, 0, 0, 0) else (0, 0, 0, 0, 4)
theorem start_eq (f t : Int) (k : Nat) (hk : 20 ≤ k) : prr_Start.f k f t = some (startF f t) := by
  unfold prr_Start.f startF
  rw [all_eq _ (by simp) (by simp) k (by simp [cost]; omega)]
  simp only [Option.bind_some]
  by_cases c : 1 ≤ f ∧ f ≤ 1073741824 ∧ 1 ≤ t ∧ t ≤ 1073741824
  · rw [if_pos (by simp [inB]; omega), if_pos c]
  · rw [if_neg (by simp [inB]; omega), if_neg c]
theorem alive_eq (k : Nat) (hk : 20 ≤ k) : stopcocklaw19_alive.f k = some true := by
  unfold stopcocklaw19_alive.f
  simp only [start_eq _ _ k hk, ack_eq _ _ _ _ _ _ _ k hk, spent_eq _ _ _ _ _ k hk, Option.bind_some, stopcocklaw19_num.f]
  decide +kernel
end Go.Proofs.Ythgihjahpjggoaa.PureC
