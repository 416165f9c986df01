/- The printed hashes of toeplitz, as plain functions of numbers: what bits of the key stand at a place, what a hash adds up. -/
import Derived.Test.YtgfghinjjidcoaaPAx1
import Derived.Test.YtgfghinjjidcoaaPAx8
import Derived.Test.YtgfghinjjidcoaaUtil
import Derived.Laws.BitsLemmas
namespace Go.Proofs.Ytgfghinjjidcoaa.Pure
open Go.RowKit Go.Proofs.Ytgfghinjjidcoaa.PA Go.Proofs.YtgfghinjjidcoaaW.PrintWords Go.Proofs.YtgfghinjjidcoaaW.PrintLast Go.Proofs.YtgfghinjjidcoaaW.PrintMore Go.Proofs.Ytgfghinjjidcoaa.Util
set_option linter.unusedVariables false
set_option linter.unusedSimpArgs false

/-- Octets. -/
def oct (l : List Int) : Prop := ∀ x ∈ l, 0 ≤ x ∧ x ≤ 255
theorem oct_wf {l : List Int} (h : ∀ x ∈ l, (Lit.int .u8 x).wf = true) : oct l := fun x hx => by
  have := h x hx
  simp [Lit.wf, IntKind.min, IntKind.max, IntKind.bits, IntKind.signed] at this
  omega
theorem rd_oct {l : List Int} (h : oct l) (i : Int) : 0 ≤ rd l i ∧ rd l i ≤ 255 := by
  unfold rd
  rw [List.getD_eq_getElem?_getD]
  cases e : l[i.toNat]? with
  | none => simp
  | some x => exact h x (List.mem_of_getElem? e)
theorem rd_out {l : List Int} (i : Nat) (h : l.length ≤ i) : rd l (i : Int) = 0 := by
  unfold rd
  rw [List.getD_eq_getElem?_getD, List.getElem?_eq_none (by omega)]
  rfl
/-- The bit at a place, the highest first. -/
def kb (l : List Int) (i : Nat) : Nat := (rd l (i / 8 : Nat)).toNat / 2 ^ (7 - i % 8) % 2
theorem kb_lt (l : List Int) (i : Nat) : kb l i < 2 := Nat.mod_lt _ (by decide)
/-- n bits from a place on, as a number. -/
def wn (l : List Int) (a : Nat) : Nat → Nat
  | 0 => 0
  | n + 1 => 2 * wn l a n + kb l (a + n)
theorem wn_lt (l : List Int) (a : Nat) : ∀ n, wn l a n < 2 ^ n
  | 0 => by simp [wn]
  | n + 1 => by
    have := wn_lt l a n
    have h2 := kb_lt l (a + n)
    rw [wn, Nat.pow_succ]
    omega
theorem wn_split (l : List Int) (a m : Nat) : ∀ n, wn l a (m + n) = wn l a m * 2 ^ n + wn l (a + m) n
  | 0 => by simp [wn]
  | n + 1 => by
    rw [← Nat.add_assoc, wn, wn_split l a m n, wn, Nat.pow_succ, Nat.add_assoc]
    rw [Nat.mul_add, ← Nat.mul_assoc, Nat.mul_comm 2 (wn l a m), Nat.mul_assoc (wn l a m) 2, Nat.mul_comm 2 (2 ^ n)]
    omega
theorem kb_at (l : List Int) (k j : Nat) (h : j < 8) : kb l (8 * k + j) = (rd l (k : Nat)).toNat / 2 ^ (7 - j) % 2 := by
  unfold kb
  rw [show (8 * k + j) / 8 = k by omega, show (8 * k + j) % 8 = j by omega]
theorem byte_all : ∀ z : Fin 256, 2 * (2 * (2 * (2 * (2 * (2 * (2 * (2 * 0 + z.val / 2 ^ (7 - 0) % 2) + z.val / 2 ^ (7 - 1) % 2) + z.val / 2 ^ (7 - 2) % 2) + z.val / 2 ^ (7 - 3) % 2) + z.val / 2 ^ (7 - 4) % 2) + z.val / 2 ^ (7 - 5) % 2) + z.val / 2 ^ (7 - 6) % 2) + z.val / 2 ^ (7 - 7) % 2 = z.val := by decide +kernel
theorem wn_byte {l : List Int} (h : oct l) (k : Nat) : wn l (8 * k) 8 = (rd l (k : Nat)).toNat := by
  have hb := rd_oct h (k : Nat)
  simp only [wn]
  rw [kb_at l k 7 (by decide), kb_at l k 6 (by decide), kb_at l k 5 (by decide), kb_at l k 4 (by decide), kb_at l k 3 (by decide), kb_at l k 2 (by decide), kb_at l k 1 (by decide), kb_at l k 0 (by decide)]
  generalize hz : (rd l (k : Nat)).toNat = z
  exact byte_all ⟨z, by omega⟩
/-- What the hash has added up behind the first bits of the input. -/
def hf (key inp : List Int) : Nat → Nat
  | 0 => 0
  | i + 1 => if kb inp i = 0 then hf key inp i else hf key inp i ^^^ wn key i 32
theorem hf_lt (key inp : List Int) : ∀ n, hf key inp n < 2 ^ 32
  | 0 => by simp [hf]
  | n + 1 => by
    rw [hf]
    split
    · exact hf_lt key inp n
    · exact Nat.xor_lt_two_pow (hf_lt key inp n) (wn_lt key n 32)

theorem wrap_u64 (n : Int) : IntKind.u64.wrap n = n % 18446744073709551616 := by simp only [IntKind.wrap, IntKind.bits, IntKind.signed]; rfl
theorem xor32 (a b : Nat) (ha : a < 2 ^ 32) (hb : b < 2 ^ 32) : bits .xor .u32 (a : Int) (b : Int) = ((a ^^^ b : Nat) : Int) := by
  have ha' : a % 2 ^ IntKind.u32.bits = a := Nat.mod_eq_of_lt (show a < 2 ^ 32 from ha)
  have hb' : b % 2 ^ IntKind.u32.bits = b := Nat.mod_eq_of_lt hb
  have hx : a ^^^ b < 2 ^ 32 := Nat.xor_lt_two_pow ha hb
  simp only [bits, BitVec.ofInt_natCast, BitVec.toNat_xor, BitVec.toNat_ofNat, ha', hb']
  rw [IntKind.wrap_u32]
  exact Int.emod_eq_of_lt (Int.natCast_nonneg _) (Int.ofNat_lt.2 hx)
theorem or64 (x y : Int) (h0 : 0 ≤ x) (h1 : x < 72057594037927936) (h2 : 0 ≤ y) (h3 : y ≤ 255) : bits .or .u64 (x * 256) y = x * 256 + y :=
  bits_join .u64 64 (by decide) (fun n a b => by rw [wrap_u64]; omega) 8 (x * 256) y (by omega) (by omega) (by omega) h2 (by omega) (by omega)
theorem or32b (x y : Int) (h0 : 0 ≤ x) (h1 : x < 2147483648) (h2 : 0 ≤ y) (h3 : y ≤ 1) : bits .or .u32 (x * 2) y = x * 2 + y :=
  bits_join .u32 32 (by decide) (fun n a b => by rw [IntKind.wrap_u32]; omega) 1 (x * 2) y (by omega) (by omega) (by omega) h2 (by omega) (by omega)
theorem and32b (x : Int) (h0 : 0 ≤ x) (h1 : x < 4294967296) : bits .and .u32 x 1 = x % 2 := bits_mask .u32 32 (by decide) (fun n a b => by rw [IntKind.wrap_u32]; omega) 1 (by decide) x h0 h1
theorem test_all : ∀ (c : Fin 256) (j : Fin 8), (bits .and .u8 (shl .u8 (c.val : Int) (j.val : Int)) 128 = 0) ↔ (c.val / 2 ^ (7 - j.val) % 2 = 0) := by decide +kernel
theorem test_bit (c : Int) (h0 : 0 ≤ c) (h1 : c ≤ 255) (j : Nat) (hj : j < 8) : (bits .and .u8 (shl .u8 c (j : Int)) 128 = 0) ↔ (c.toNat / 2 ^ (7 - j) % 2 = 0) := by
  have := test_all ⟨c.toNat, by omega⟩ ⟨j, hj⟩
  rw [show c = ((c.toNat : Nat) : Int) by omega]
  exact this
theorem shr_all : ∀ (c : Fin 256) (j : Fin 8), shr .u8 (c.val : Int) (j.val : Int) = ((c.val / 2 ^ j.val : Nat) : Int) := by decide +kernel
/-- The window of the key behind so many octets, and the 32 bits of it that a bit of the input adds. -/
theorem win_cut (l : List Int) (a j : Nat) (hj : j < 8) : shl .u64 (wn l a 64 : Int) (j : Int) / 4294967296 % 4294967296 = (wn l (a + j) 32 : Int) := by
  have h1 : wn l a 64 = wn l a j * 2 ^ (64 - j) + wn l (a + j) (64 - j) := by rw [← wn_split, show j + (64 - j) = 64 by omega]
  have h2 : wn l (a + j) (64 - j) = wn l (a + j) 32 * 2 ^ (32 - j) + wn l (a + j + 32) (32 - j) := by rw [← wn_split, show 32 + (32 - j) = 64 - j by omega]
  have h3 := wn_lt l (a + j) 32
  have h4 := wn_lt l (a + j + 32) (32 - j)
  have h5 := wn_lt l a j
  rw [h1, h2]
  unfold shl
  rw [show min ((j : Int).toNat) IntKind.u64.bits = j by simp [IntKind.bits]; omega, wrap_u64]
  generalize wn l (a + j) 32 = p at *
  generalize wn l (a + j + 32) (32 - j) = q at *
  generalize wn l a j = s at *
  have hc : j = 0 ∨ j = 1 ∨ j = 2 ∨ j = 3 ∨ j = 4 ∨ j = 5 ∨ j = 6 ∨ j = 7 := by omega
  rcases hc with rfl | rfl | rfl | rfl | rfl | rfl | rfl | rfl <;> simp only [Nat.reduceSub, Nat.reducePow, Nat.sub_zero, Int.reducePow] at * <;> omega
theorem win_next {l : List Int} (h : oct l) (i : Nat) : (wn l (8 * (i + 1)) 64 : Int) = ((wn l (8 * i) 64 : Int) * 256) % 18446744073709551616 + rd l ((i + 8 : Nat) : Int) := by
  have h1 : wn l (8 * i) 64 = wn l (8 * i) 8 * 2 ^ 56 + wn l (8 * i + 8) 56 := wn_split l (8 * i) 8 56
  have h2 : wn l (8 * (i + 1)) 64 = wn l (8 * i + 8) 56 * 2 ^ 8 + wn l (8 * (i + 8)) 8 := by
    have := wn_split l (8 * (i + 1)) 56 8
    rw [show 8 * (i + 1) + 56 = 8 * (i + 8) by omega] at this
    rw [this, show 8 * (i + 1) = 8 * i + 8 by omega]
  rw [h2, wn_byte h, h1]
  have h3 := wn_lt l (8 * i + 8) 56
  have hb := rd_oct h ((i + 8 : Nat) : Int)
  generalize wn l (8 * i + 8) 56 = p at *
  generalize wn l (8 * i) 8 = q at *
  generalize rd l ((i + 8 : Nat) : Int) = z at *
  omega
end Go.Proofs.Ytgfghinjjidcoaa.Pure
