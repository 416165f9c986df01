/- Chapter 15: what the ring holds behind Write and Ack (plain). -/
import Derived.Test.YtiphiacidokhiaaDoorHandS
namespace Go.Proofs.YtiphiacidokhiaaDoor.Hand
set_option linter.unusedVariables false
open Go.RowKit Go.Proofs.YtiphiacidokhiaaDoorW.PrintWords Go.Proofs.YtiphiacidokhiaaDoorW.PrintLast Go.Proofs.YtiphiacidokhiaaDoorW.PrintMore
theorem lay_get (C : Array Value) (p : Nat) (xs : List Int) (h : p + xs.length ≤ C.size) (i : Nat) : (lay C p xs)[i]? = if p ≤ i ∧ i < p + xs.length then some (.int .u8 (xs.getD (i - p) 0)) else C[i]? := by
  unfold lay nums
  rw [List.getElem?_toArray, List.append_assoc]
  by_cases h1 : i < p
  · rw [if_neg (by omega), List.getElem?_append_left (by simp; omega), List.getElem?_take_of_lt h1]; simp
  · rw [List.getElem?_append_right (by simp; omega)]
    have e : (C.toList.take p).length = p := by simp; omega
    rw [e]
    by_cases h2 : i < p + xs.length
    · rw [if_pos ⟨by omega, h2⟩, List.getElem?_append_left (by simp; omega), List.getElem?_map, List.getElem?_eq_getElem (by omega), List.getD_eq_getElem?_getD, List.getElem?_eq_getElem (by omega)]; rfl
    · rw [if_neg (by omega), List.getElem?_append_right (by simp; omega), List.getElem?_drop]
      simp only [List.length_map]
      rw [show p + xs.length + (i - p - xs.length) = i by omega]; simp
theorem mod_near (a sz : Nat) (h : a < 2 * sz) : a % sz = if a < sz then a else a - sz := by
  split
  · rename_i h1; exact Nat.mod_eq_of_lt h1
  · rename_i h1; rw [Nat.mod_eq_sub_mod (by omega), Nat.mod_eq_of_lt (by omega)]
theorem ring_write (C : Array Value) (sz fr n k p k1 : Nat) (xs D : List Int) (hC : C.size = sz) (hf : fr < sz) (hxl : xs.length = n) (hDl : D.length = k) (hk : n + k ≤ sz) (hp : p = (fr + n) % sz) (hk1 : k1 = min k (sz - p))
    (hx : ∀ i, i < n → C[(fr + i) % sz]? = some (.int .u8 (xs.getD i 0))) :
    ∀ i, i < n + k → (lay (lay C p (D.take k1)) 0 (D.drop k1))[(fr + i) % sz]? = some (.int .u8 ((xs ++ D).getD i 0)) := by
  intro i hi
  have hps : p < sz := by rw [hp]; exact Nat.mod_lt _ (by omega)
  have e1 : (D.take k1).length = k1 := by simp; omega
  have e2 : (D.drop k1).length = k - k1 := by simp; omega
  rw [lay_get _ _ _ (by rw [size_lay _ _ _ (by omega), e2]; omega), lay_get _ _ _ (by omega), e1, e2]
  rw [mod_near _ _ (by omega)] at hp ⊢
  by_cases hin : i < n
  · have hxi := hx i hin
    rw [mod_near _ _ (by omega)] at hxi
    rw [if_neg (by split at hp <;> split <;> omega), if_neg (by split at hp <;> split <;> omega), hxi]
    rw [List.getD_eq_getElem?_getD, List.getD_eq_getElem?_getD, List.getElem?_append_left (by omega)]
  · have e0 : (xs ++ D).getD i 0 = D.getD (i - n) 0 := by
      rw [List.getD_eq_getElem?_getD, List.getD_eq_getElem?_getD, List.getElem?_append_right (by omega), hxl]
    rw [e0]
    by_cases hik : i - n < k1
    · rw [if_neg (by split at hp <;> split <;> omega), if_pos (by split at hp <;> split <;> omega)]
      have e3 : (if fr + i < sz then fr + i else fr + i - sz) - p = i - n := by split at hp <;> split <;> omega
      rw [e3]; simp [List.getD_eq_getElem?_getD, List.getElem?_take_of_lt hik]
    · rw [if_pos (by split at hp <;> split <;> omega)]
      have e3 : (if fr + i < sz then fr + i else fr + i - sz) - 0 = i - n - k1 := by split at hp <;> split <;> omega
      rw [e3]; simp [List.getD_eq_getElem?_getD, List.getElem?_drop]
      rw [show k1 + (i - n - k1) = i - n by omega]
theorem ring_ack (C : Array Value) (sz fr n o : Nat) (xs : List Int) (hf : fr < sz) (hon : o ≤ n) (hn : n ≤ sz) (hxl : xs.length = n)
    (hx : ∀ i, i < n → C[(fr + i) % sz]? = some (.int .u8 (xs.getD i 0))) :
    ∀ i, i < n - o → C[((fr + o) % sz + i) % sz]? = some (.int .u8 ((xs.drop o).getD i 0)) := by
  intro i hi
  have e : ((fr + o) % sz + i) % sz = (fr + (o + i)) % sz := by rw [Nat.mod_add_mod]; congr 1; omega
  rw [e, hx _ (by omega)]
  simp [List.getD_eq_getElem?_getD, List.getElem?_drop]
end Go.Proofs.YtiphiacidokhiaaDoor.Hand
