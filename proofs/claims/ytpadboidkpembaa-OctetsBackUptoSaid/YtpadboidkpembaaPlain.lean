/- Decimal digits and their reading: both programs, as plain functions. -/
import Derived.Test.YtpadboidkpembaaPAx14
import Derived.Test.YtpadboidkpembaaPAx13
import Derived.Test.YtpadboidkpembaaUtil
namespace Go.Proofs.Ytpadboidkpembaa.Pure
open Go.RowKit Go.Proofs.Ytpadboidkpembaa.PA Go.Proofs.YtpadboidkpembaaW.PrintWords Go.Proofs.YtpadboidkpembaaW.PrintLast Go.Proofs.YtpadboidkpembaaW.PrintMore Go.Proofs.Ytpadboidkpembaa.Util Go.Proofs.Ytpadboidkpembaa.Hand
set_option linter.unusedVariables false
set_option linter.unusedSimpArgs false

theorem wrap_u64 (n : Int) : IntKind.u64.wrap n = n % 18446744073709551616 := by simp only [IntKind.wrap, IntKind.bits, IntKind.signed]; rfl
def oct (l : List Int) : Prop := ∀ x ∈ l, 0 ≤ x ∧ x ≤ 255
theorem oct_wf {l : List Int} (h : ∀ x ∈ l, (Lit.int .u8 x).wf = true) : oct l := fun x hx => by
  have := h x hx
  simp [Lit.wf, IntKind.min, IntKind.max, IntKind.bits, IntKind.signed] at this
  omega
theorem evOne {α : Type} {g : Nat → Option α} {r s : α} (h : Ev g r) (k : Ev g s) : r = s := by
  obtain ⟨K, h⟩ := h
  obtain ⟨L, k⟩ := k
  have := (h (max K L) (by omega)).symm.trans (k (max K L) (by omega))
  exact Option.some.inj this

/-! ### texts of octets -/
theorem str_bytes (l : List Int) (h : oct l) : bytesOf (strOfNums l) = l := by
  unfold bytesOf strOfNums
  simp only [List.map_map]
  conv => rhs; rw [← List.map_id l]
  apply List.map_congr_left
  intro x hx
  have := h x hx
  simp [Function.comp]
  omega
theorem str_append (a b : List Int) : strOfNums (a ++ b) = strOfNums a ++ strOfNums b := by
  unfold strOfNums
  apply ByteArray.ext
  simp
theorem str_size (l : List Int) : (strOfNums l).size = l.length := by unfold strOfNums; simp [ByteArray.size]
theorem bytes_str (s : ByteArray) : strOfNums (bytesOf s) = s := by
  unfold strOfNums bytesOf
  apply ByteArray.ext
  apply Array.ext'
  simp only [List.map_map]
  conv => rhs; rw [← List.map_id s.data.toList]
  apply List.map_congr_left
  intro x _
  simp [Function.comp]
theorem bt_get (s : ByteArray) (i : Nat) (h : i < s.size) : bt s (i : Int) = (bytesOf s)[i]'(by rw [bytesOf_length]; exact h) := by
  unfold bt
  simp only [Int.toNat_natCast]
  rw [dif_pos h]
  simp [bytesOf]
  rfl
theorem toList_inj {a b : ByteArray} (h : a.toList = b.toList) : a = b := by
  rw [ByteArray.toList_eq, ByteArray.toList_eq] at h
  exact ByteArray.ext (Array.ext' h)

/-! ### digits -/
theorem dl_oct (n : Nat) : ∀ x ∈ dl n, 48 ≤ x ∧ x ≤ 57 := by
  induction n using dl.induct with
  | case1 n h => rw [dl_small n h]; simp; omega
  | case2 n h ih =>
    rw [dl_big n (by omega)]
    intro x hx
    rcases List.mem_cons.1 hx with rfl | hx
    · omega
    · exact ih x hx
theorem digs_oct (a : Int) : oct (digs a) := by
  unfold digs
  have h := dl_oct a.natAbs
  split
  · intro x hx
    rcases List.mem_cons.1 hx with rfl | hx
    · omega
    · have := h x (by simpa using hx); omega
  · intro x hx
    have := h x (by simpa using hx); omega
def inI (a : Int) : Prop := -9223372036854775808 ≤ a ∧ a ≤ 9223372036854775807
theorem decimal_eq (a : Int) (h : inI a) : octets_Decimal.f a = some (strOfNums (digs a)) := by
  unfold octets_Decimal.f decimalF
  unfold inI at h
  rw [if_pos h]

/-! ### the page's digits -/
theorem rdec_loop (a : Int) : ∀ (n : Nat) (m : Nat) (t : List Int), m < 10 ^ (n + 1) → m ≤ 18446744073709551615 → t.length + n ≤ 1000 →
    Ev (fun k => stopcockref01_Decimal.l0 k a (m : Int) (strOfNums t)) (if a < 0 then strOfNums (45 :: ((dl m).reverse ++ t)) else strOfNums ((dl m).reverse ++ t)) := by
  intro n
  induction n with
  | zero =>
    intro m t h hm ht
    refine evEnd 1 (fun k hk => ?_)
    obtain ⟨j, rfl⟩ : ∃ j, k = j + 1 := ⟨k - 1, by omega⟩
    simp only [stopcockref01_Decimal.l0, Option.bind_some]
    have e1 : (IntKind.u64.wrap (48 + Int.tmod (m : Int) 10)) % 256 = 48 + (m : Int) := by rw [wrap_u64, tmod_pos (by omega)]; omega
    have e2 : IntKind.u64.wrap (Int.tdiv (m : Int) 10) = 0 := by rw [wrap_u64, tdiv_pos (by omega)]; omega
    rw [e1, e2, str_size, str_size, if_pos (by simp; omega), if_pos rfl, ← str_append, str_size, dl_small m (by omega)]
    by_cases hn : a < 0
    · rw [if_pos hn, if_pos hn, if_pos (by simp; omega)]
      rw [show (⟨#[45]⟩ : ByteArray) = strOfNums [45] from rfl, ← str_append]
      rfl
    · rw [if_neg hn, if_neg hn]
      rfl
  | succ n ih =>
    intro m t h hm ht
    by_cases hs : m < 10
    · refine evEnd 1 (fun k hk => ?_)
      obtain ⟨j, rfl⟩ : ∃ j, k = j + 1 := ⟨k - 1, by omega⟩
      simp only [stopcockref01_Decimal.l0, Option.bind_some]
      have e1 : (IntKind.u64.wrap (48 + Int.tmod (m : Int) 10)) % 256 = 48 + (m : Int) := by rw [wrap_u64, tmod_pos (by omega)]; omega
      have e2 : IntKind.u64.wrap (Int.tdiv (m : Int) 10) = 0 := by rw [wrap_u64, tdiv_pos (by omega)]; omega
      rw [e1, e2, str_size, str_size, if_pos (by simp; omega), if_pos rfl, ← str_append, str_size, dl_small m (by omega)]
      by_cases hn : a < 0
      · rw [if_pos hn, if_pos hn, if_pos (by simp; omega)]
        rw [show (⟨#[45]⟩ : ByteArray) = strOfNums [45] from rfl, ← str_append]
        rfl
      · rw [if_neg hn, if_neg hn]
        rfl
    · have h10 := ih (m / 10) ((48 + ((m % 10 : Nat) : Int)) :: t) (by rw [Nat.pow_succ] at h; omega) (by omega) (by simp; omega)
      rw [dl_big m (by omega)]
      simp only [List.reverse_cons, List.append_assoc, List.cons_append, List.nil_append]
      refine evStep 0 (fun k _ => ?_) h10
      simp only [stopcockref01_Decimal.l0, Option.bind_some]
      have e1 : (IntKind.u64.wrap (48 + Int.tmod (m : Int) 10)) % 256 = 48 + ((m % 10 : Nat) : Int) := by rw [wrap_u64, tmod_pos (by omega)]; omega
      have e2 : IntKind.u64.wrap (Int.tdiv (m : Int) 10) = ((m / 10 : Nat) : Int) := by rw [wrap_u64, tdiv_pos (by omega)]; omega
      rw [e1, e2, str_size, str_size, if_pos (by simp; omega), if_neg (by omega), ← str_append]
      rfl
theorem rdec_ev (a : Int) (h : inI a) : Ev (fun k => stopcockref01_Decimal.f k a) (strOfNums (digs a)) := by
  unfold inI at h
  have h1 := rdec_loop a 19 a.natAbs [] (by omega) (by omega) (by simp)
  have h2 : Ev (fun k => stopcockref01_Decimal.j0 k a (a.natAbs : Int) (⟨#[]⟩ : ByteArray)) (strOfNums (digs a)) := by
    refine evStep 0 (fun k _ => ?_) (r := strOfNums (digs a)) (f := fun k => stopcockref01_Decimal.l0 k a (a.natAbs : Int) (strOfNums [])) ?_
    · rfl
    · unfold digs
      simpa [apply_ite strOfNums] using h1
  refine evSame 0 (fun k _ => ?_) h2
  unfold stopcockref01_Decimal.f
  by_cases hn : a < 0
  · rw [if_pos hn]
    have e : IntKind.u64.wrap (IntKind.u64.wrap (wrap64 (-(wrap64 (a + 1)))) + 1) = (a.natAbs : Int) := by
      rw [wrap_id (x := a + 1) (by omega) (by omega), wrap_id (by omega) (by omega), wrap_u64, wrap_u64]
      omega
    rw [e]
  · rw [if_neg hn]
    have e : IntKind.u64.wrap a = (a.natAbs : Int) := by rw [wrap_u64]; omega
    rw [e]
end Go.Proofs.Ytpadboidkpembaa.Pure
