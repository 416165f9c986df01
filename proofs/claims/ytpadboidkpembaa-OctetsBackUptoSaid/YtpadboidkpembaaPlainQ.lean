/- Numbers as octets, octets as hexadecimal digits: both programs, as plain functions. -/
import Derived.Test.YtpadboidkpembaaPlainP
namespace Go.Proofs.Ytpadboidkpembaa.Pure
open Go.RowKit Go.Proofs.Ytpadboidkpembaa.PA Go.Proofs.YtpadboidkpembaaW.PrintWords Go.Proofs.YtpadboidkpembaaW.PrintLast Go.Proofs.YtpadboidkpembaaW.PrintMore Go.Proofs.Ytpadboidkpembaa.Util Go.Proofs.Ytpadboidkpembaa.Hand
set_option linter.unusedVariables false
set_option linter.unusedSimpArgs false

/-! ### numbers as octets -/
theorem oct1 (n : Int) : Ev (fun k => stopcockref01_Octets.f k n 1) [n % 256] := by
  refine evEnd 2 (fun k hk => ?_)
  obtain ⟨m, rfl⟩ : ∃ m, k = m + 2 := ⟨k - 2, by omega⟩
  simp [stopcockref01_Octets.f, stopcockref01_Octets.l0, wrap64, List.replicate]
theorem lows1 (n : Int) : (lows n 1).reverse = [n % 256] := by
  simp [lows]
theorem oct2 (n : Int) : Ev (fun k => stopcockref01_Octets.f k n 2) [n / 256 % 256, n % 256] := by
  refine evEnd 3 (fun k hk => ?_)
  obtain ⟨m, rfl⟩ : ∃ m, k = m + 3 := ⟨k - 3, by omega⟩
  simp [stopcockref01_Octets.f, stopcockref01_Octets.l0, wrap64, List.replicate]
theorem lows2 (n : Int) : (lows n 2).reverse = [n / 256 % 256, n % 256] := by
  simp only [lows, List.nil_append, List.cons_append, List.reverse_cons, List.reverse_nil]
  simp only [List.cons.injEq, and_true]
  refine ⟨?_, ?_⟩ <;> omega
theorem oct3 (n : Int) : Ev (fun k => stopcockref01_Octets.f k n 3) [n / 256 / 256 % 256, n / 256 % 256, n % 256] := by
  refine evEnd 4 (fun k hk => ?_)
  obtain ⟨m, rfl⟩ : ∃ m, k = m + 4 := ⟨k - 4, by omega⟩
  simp [stopcockref01_Octets.f, stopcockref01_Octets.l0, wrap64, List.replicate]
theorem lows3 (n : Int) : (lows n 3).reverse = [n / 256 / 256 % 256, n / 256 % 256, n % 256] := by
  simp only [lows, List.nil_append, List.cons_append, List.reverse_cons, List.reverse_nil]
  simp only [List.cons.injEq, and_true]
  refine ⟨?_, ?_, ?_⟩ <;> omega
theorem oct4 (n : Int) : Ev (fun k => stopcockref01_Octets.f k n 4) [n / 256 / 256 / 256 % 256, n / 256 / 256 % 256, n / 256 % 256, n % 256] := by
  refine evEnd 5 (fun k hk => ?_)
  obtain ⟨m, rfl⟩ : ∃ m, k = m + 5 := ⟨k - 5, by omega⟩
  simp [stopcockref01_Octets.f, stopcockref01_Octets.l0, wrap64, List.replicate]
theorem lows4 (n : Int) : (lows n 4).reverse = [n / 256 / 256 / 256 % 256, n / 256 / 256 % 256, n / 256 % 256, n % 256] := by
  simp only [lows, List.nil_append, List.cons_append, List.reverse_cons, List.reverse_nil]
  simp only [List.cons.injEq, and_true]
  refine ⟨?_, ?_, ?_, ?_⟩ <;> omega
theorem oct5 (n : Int) : Ev (fun k => stopcockref01_Octets.f k n 5) [n / 256 / 256 / 256 / 256 % 256, n / 256 / 256 / 256 % 256, n / 256 / 256 % 256, n / 256 % 256, n % 256] := by
  refine evEnd 6 (fun k hk => ?_)
  obtain ⟨m, rfl⟩ : ∃ m, k = m + 6 := ⟨k - 6, by omega⟩
  simp [stopcockref01_Octets.f, stopcockref01_Octets.l0, wrap64, List.replicate]
theorem lows5 (n : Int) : (lows n 5).reverse = [n / 256 / 256 / 256 / 256 % 256, n / 256 / 256 / 256 % 256, n / 256 / 256 % 256, n / 256 % 256, n % 256] := by
  simp only [lows, List.nil_append, List.cons_append, List.reverse_cons, List.reverse_nil]
  simp only [List.cons.injEq, and_true]
  refine ⟨?_, ?_, ?_, ?_, ?_⟩ <;> omega
theorem oct6 (n : Int) : Ev (fun k => stopcockref01_Octets.f k n 6) [n / 256 / 256 / 256 / 256 / 256 % 256, n / 256 / 256 / 256 / 256 % 256, n / 256 / 256 / 256 % 256, n / 256 / 256 % 256, n / 256 % 256, n % 256] := by
  refine evEnd 7 (fun k hk => ?_)
  obtain ⟨m, rfl⟩ : ∃ m, k = m + 7 := ⟨k - 7, by omega⟩
  simp [stopcockref01_Octets.f, stopcockref01_Octets.l0, wrap64, List.replicate]
theorem lows6 (n : Int) : (lows n 6).reverse = [n / 256 / 256 / 256 / 256 / 256 % 256, n / 256 / 256 / 256 / 256 % 256, n / 256 / 256 / 256 % 256, n / 256 / 256 % 256, n / 256 % 256, n % 256] := by
  simp only [lows, List.nil_append, List.cons_append, List.reverse_cons, List.reverse_nil]
  simp only [List.cons.injEq, and_true]
  refine ⟨?_, ?_, ?_, ?_, ?_, ?_⟩ <;> omega
theorem oct7 (n : Int) : Ev (fun k => stopcockref01_Octets.f k n 7) [n / 256 / 256 / 256 / 256 / 256 / 256 % 256, n / 256 / 256 / 256 / 256 / 256 % 256, n / 256 / 256 / 256 / 256 % 256, n / 256 / 256 / 256 % 256, n / 256 / 256 % 256, n / 256 % 256, n % 256] := by
  refine evEnd 8 (fun k hk => ?_)
  obtain ⟨m, rfl⟩ : ∃ m, k = m + 8 := ⟨k - 8, by omega⟩
  simp [stopcockref01_Octets.f, stopcockref01_Octets.l0, wrap64, List.replicate]
theorem lows7 (n : Int) : (lows n 7).reverse = [n / 256 / 256 / 256 / 256 / 256 / 256 % 256, n / 256 / 256 / 256 / 256 / 256 % 256, n / 256 / 256 / 256 / 256 % 256, n / 256 / 256 / 256 % 256, n / 256 / 256 % 256, n / 256 % 256, n % 256] := by
  simp only [lows, List.nil_append, List.cons_append, List.reverse_cons, List.reverse_nil]
  simp only [List.cons.injEq, and_true]
  refine ⟨?_, ?_, ?_, ?_, ?_, ?_, ?_⟩ <;> omega
theorem oct8 (n : Int) : Ev (fun k => stopcockref01_Octets.f k n 8) [n / 256 / 256 / 256 / 256 / 256 / 256 / 256 % 256, n / 256 / 256 / 256 / 256 / 256 / 256 % 256, n / 256 / 256 / 256 / 256 / 256 % 256, n / 256 / 256 / 256 / 256 % 256, n / 256 / 256 / 256 % 256, n / 256 / 256 % 256, n / 256 % 256, n % 256] := by
  refine evEnd 9 (fun k hk => ?_)
  obtain ⟨m, rfl⟩ : ∃ m, k = m + 9 := ⟨k - 9, by omega⟩
  simp [stopcockref01_Octets.f, stopcockref01_Octets.l0, wrap64, List.replicate]
theorem lows8 (n : Int) : (lows n 8).reverse = [n / 256 / 256 / 256 / 256 / 256 / 256 / 256 % 256, n / 256 / 256 / 256 / 256 / 256 / 256 % 256, n / 256 / 256 / 256 / 256 / 256 % 256, n / 256 / 256 / 256 / 256 % 256, n / 256 / 256 / 256 % 256, n / 256 / 256 % 256, n / 256 % 256, n % 256] := by
  simp only [lows, List.nil_append, List.cons_append, List.reverse_cons, List.reverse_nil]
  simp only [List.cons.injEq, and_true]
  refine ⟨?_, ?_, ?_, ?_, ?_, ?_, ?_, ?_⟩ <;> omega
theorem rput_ev (n s : Int) (h0 : 0 ≤ n) (h1 : n < 18446744073709551616) : ∃ r, octets_Put.f n s = some r ∧ Ev (fun k => stopcockref01_Put.f k n s) r := by
  unfold octets_Put.f putF
  rw [if_pos ⟨h0, h1⟩]
  by_cases hs : 1 ≤ s ∧ s ≤ 8
  · rw [if_pos hs]
    have : s = 1 ∨ s = 2 ∨ s = 3 ∨ s = 4 ∨ s = 5 ∨ s = 6 ∨ s = 7 ∨ s = 8 := by omega
    rcases this with rfl | rfl | rfl | rfl | rfl | rfl | rfl | rfl
    · have e : shr .u64 n (wrap64 (8 * 1)) = n / 256 ^ (1 : Nat) := congrArg (n / ·) (by decide +kernel)
      by_cases hz : n / 256 ^ (1 : Nat) = 0
      · refine ⟨_, if_pos hz, ?_⟩
        obtain ⟨K, ev⟩ := oct1 n
        refine ⟨K, fun k hk => ?_⟩
        show stopcockref01_Put.f k n 1 = _
        unfold stopcockref01_Put.f
        rw [if_neg (by omega), if_neg (by omega), if_pos (by omega), if_pos (by unfold wrap64; omega), if_neg (by rw [e]; omega), show stopcockref01_Octets.f k n 1 = _ from ev k hk, Option.bind_some, ← lows1 n]
        rfl
      · refine ⟨_, if_neg hz, evEnd 0 (fun k _ => ?_)⟩
        show stopcockref01_Put.f k n _ = _
        unfold stopcockref01_Put.f
        rw [if_neg (by omega), if_neg (by omega), if_pos (by omega), if_pos (by unfold wrap64; omega), if_pos (by rw [e]; omega)]
    · have e : shr .u64 n (wrap64 (8 * 2)) = n / 256 ^ (2 : Nat) := congrArg (n / ·) (by decide +kernel)
      by_cases hz : n / 256 ^ (2 : Nat) = 0
      · refine ⟨_, if_pos hz, ?_⟩
        obtain ⟨K, ev⟩ := oct2 n
        refine ⟨K, fun k hk => ?_⟩
        show stopcockref01_Put.f k n 2 = _
        unfold stopcockref01_Put.f
        rw [if_neg (by omega), if_neg (by omega), if_pos (by omega), if_pos (by unfold wrap64; omega), if_neg (by rw [e]; omega), show stopcockref01_Octets.f k n 2 = _ from ev k hk, Option.bind_some, ← lows2 n]
        rfl
      · refine ⟨_, if_neg hz, evEnd 0 (fun k _ => ?_)⟩
        show stopcockref01_Put.f k n _ = _
        unfold stopcockref01_Put.f
        rw [if_neg (by omega), if_neg (by omega), if_pos (by omega), if_pos (by unfold wrap64; omega), if_pos (by rw [e]; omega)]
    · have e : shr .u64 n (wrap64 (8 * 3)) = n / 256 ^ (3 : Nat) := congrArg (n / ·) (by decide +kernel)
      by_cases hz : n / 256 ^ (3 : Nat) = 0
      · refine ⟨_, if_pos hz, ?_⟩
        obtain ⟨K, ev⟩ := oct3 n
        refine ⟨K, fun k hk => ?_⟩
        show stopcockref01_Put.f k n 3 = _
        unfold stopcockref01_Put.f
        rw [if_neg (by omega), if_neg (by omega), if_pos (by omega), if_pos (by unfold wrap64; omega), if_neg (by rw [e]; omega), show stopcockref01_Octets.f k n 3 = _ from ev k hk, Option.bind_some, ← lows3 n]
        rfl
      · refine ⟨_, if_neg hz, evEnd 0 (fun k _ => ?_)⟩
        show stopcockref01_Put.f k n _ = _
        unfold stopcockref01_Put.f
        rw [if_neg (by omega), if_neg (by omega), if_pos (by omega), if_pos (by unfold wrap64; omega), if_pos (by rw [e]; omega)]
    · have e : shr .u64 n (wrap64 (8 * 4)) = n / 256 ^ (4 : Nat) := congrArg (n / ·) (by decide +kernel)
      by_cases hz : n / 256 ^ (4 : Nat) = 0
      · refine ⟨_, if_pos hz, ?_⟩
        obtain ⟨K, ev⟩ := oct4 n
        refine ⟨K, fun k hk => ?_⟩
        show stopcockref01_Put.f k n 4 = _
        unfold stopcockref01_Put.f
        rw [if_neg (by omega), if_neg (by omega), if_pos (by omega), if_pos (by unfold wrap64; omega), if_neg (by rw [e]; omega), show stopcockref01_Octets.f k n 4 = _ from ev k hk, Option.bind_some, ← lows4 n]
        rfl
      · refine ⟨_, if_neg hz, evEnd 0 (fun k _ => ?_)⟩
        show stopcockref01_Put.f k n _ = _
        unfold stopcockref01_Put.f
        rw [if_neg (by omega), if_neg (by omega), if_pos (by omega), if_pos (by unfold wrap64; omega), if_pos (by rw [e]; omega)]
    · have e : shr .u64 n (wrap64 (8 * 5)) = n / 256 ^ (5 : Nat) := congrArg (n / ·) (by decide +kernel)
      by_cases hz : n / 256 ^ (5 : Nat) = 0
      · refine ⟨_, if_pos hz, ?_⟩
        obtain ⟨K, ev⟩ := oct5 n
        refine ⟨K, fun k hk => ?_⟩
        show stopcockref01_Put.f k n 5 = _
        unfold stopcockref01_Put.f
        rw [if_neg (by omega), if_neg (by omega), if_pos (by omega), if_pos (by unfold wrap64; omega), if_neg (by rw [e]; omega), show stopcockref01_Octets.f k n 5 = _ from ev k hk, Option.bind_some, ← lows5 n]
        rfl
      · refine ⟨_, if_neg hz, evEnd 0 (fun k _ => ?_)⟩
        show stopcockref01_Put.f k n _ = _
        unfold stopcockref01_Put.f
        rw [if_neg (by omega), if_neg (by omega), if_pos (by omega), if_pos (by unfold wrap64; omega), if_pos (by rw [e]; omega)]
    · have e : shr .u64 n (wrap64 (8 * 6)) = n / 256 ^ (6 : Nat) := congrArg (n / ·) (by decide +kernel)
      by_cases hz : n / 256 ^ (6 : Nat) = 0
      · refine ⟨_, if_pos hz, ?_⟩
        obtain ⟨K, ev⟩ := oct6 n
        refine ⟨K, fun k hk => ?_⟩
        show stopcockref01_Put.f k n 6 = _
        unfold stopcockref01_Put.f
        rw [if_neg (by omega), if_neg (by omega), if_pos (by omega), if_pos (by unfold wrap64; omega), if_neg (by rw [e]; omega), show stopcockref01_Octets.f k n 6 = _ from ev k hk, Option.bind_some, ← lows6 n]
        rfl
      · refine ⟨_, if_neg hz, evEnd 0 (fun k _ => ?_)⟩
        show stopcockref01_Put.f k n _ = _
        unfold stopcockref01_Put.f
        rw [if_neg (by omega), if_neg (by omega), if_pos (by omega), if_pos (by unfold wrap64; omega), if_pos (by rw [e]; omega)]
    · have e : shr .u64 n (wrap64 (8 * 7)) = n / 256 ^ (7 : Nat) := congrArg (n / ·) (by decide +kernel)
      by_cases hz : n / 256 ^ (7 : Nat) = 0
      · refine ⟨_, if_pos hz, ?_⟩
        obtain ⟨K, ev⟩ := oct7 n
        refine ⟨K, fun k hk => ?_⟩
        show stopcockref01_Put.f k n 7 = _
        unfold stopcockref01_Put.f
        rw [if_neg (by omega), if_neg (by omega), if_pos (by omega), if_pos (by unfold wrap64; omega), if_neg (by rw [e]; omega), show stopcockref01_Octets.f k n 7 = _ from ev k hk, Option.bind_some, ← lows7 n]
        rfl
      · refine ⟨_, if_neg hz, evEnd 0 (fun k _ => ?_)⟩
        show stopcockref01_Put.f k n _ = _
        unfold stopcockref01_Put.f
        rw [if_neg (by omega), if_neg (by omega), if_pos (by omega), if_pos (by unfold wrap64; omega), if_pos (by rw [e]; omega)]
    · have hz : n / 256 ^ (8 : Nat) = 0 := by omega
      refine ⟨_, if_pos hz, ?_⟩
      obtain ⟨K, ev⟩ := oct8 n
      refine ⟨K, fun k hk => ?_⟩
      show stopcockref01_Put.f k n 8 = _
      unfold stopcockref01_Put.f
      rw [if_neg (by omega), if_neg (by omega), if_neg (by omega), show stopcockref01_Octets.f k n 8 = _ from ev k hk, Option.bind_some, ← lows8 n]
      rfl
  · rw [if_neg hs]
    refine ⟨_, rfl, evEnd 0 (fun k _ => ?_)⟩
    show stopcockref01_Put.f k n _ = _
    unfold stopcockref01_Put.f
    by_cases h2 : s < 1
    · rw [if_pos h2]
    · rw [if_neg h2, if_pos (by omega)]

/-! ### octets as a number -/
def stepN (n c : Int) : Int := (n * 256 + c) % 18446744073709551616
def getV (l : List Int) : Int × Int := if l.length < 1 ∨ 8 < l.length then (0, 3) else (l.foldl stepN 0, 0)
theorem dropI (l : List Int) (i : Nat) (h : i < l.length) : l.drop i = rd l (i : Int) :: l.drop (i + 1) := by
  rw [List.drop_eq_getElem_cons h]
  simp [rd, List.getD, h]
theorem rdO {l : List Int} (h : oct l) (i : Nat) (hi : i < l.length) : 0 ≤ rd l (i : Int) ∧ rd l (i : Int) ≤ 255 := by
  have e : rd l (i : Int) = l[i] := by simp [rd, List.getD, hi]
  rw [e]
  exact h _ (List.getElem_mem _)
theorem get0_ev (l : List Int) (h : oct l) (hs : l.length ≤ 8) : ∀ (d i : Nat) (n : Int), i + d = l.length → Ev (fun k => octets_Get.l0 k n l (l.length : Int) (i : Int)) ((l.drop i).foldl stepN n, 0) := by
  intro d
  induction d with
  | zero =>
    intro i n hi
    rw [List.drop_eq_nil_of_le (by omega), List.foldl_nil]
    refine evEnd 1 (fun k hk => ?_)
    obtain ⟨j, rfl⟩ : ∃ j, k = j + 1 := ⟨k - 1, by omega⟩
    simp only [octets_Get.l0]
    rw [if_neg (by omega)]
  | succ d ih =>
    intro i n hi
    rw [dropI l i (by omega), List.foldl_cons]
    refine evStep 0 (fun k _ => ?_) (ih (i + 1) _ (by omega))
    have hb := rdO h i (by omega)
    simp only [octets_Get.l0]
    rw [if_pos (by omega), if_pos (by omega), if_pos (by omega), wrap_id (x := (i : Int) + 1) (by omega) (by omega)]
    have e : IntKind.u64.wrap (IntKind.u64.wrap (n * 256) + IntKind.u64.wrap (rd l (i : Int))) = stepN n (rd l (i : Int)) := by
      unfold stepN
      rw [wrap_u64, wrap_u64, wrap_u64]
      omega
    rw [e]
    rfl
theorem get_ev (l : List Int) (h : oct l) : Ev (fun k => octets_Get.f k l) (getV l) := by
  unfold getV octets_Get.f
  have bad : Ev (fun k => octets_Get.j0 k l true) (0, 3) := by
    refine evEnd 1 (fun k hk => ?_)
    obtain ⟨j, rfl⟩ : ∃ j, k = j + 1 := ⟨k - 1, by omega⟩
    simp only [octets_Get.j0]
    rw [if_pos trivial]
  by_cases c1 : (l.length : Int) < 1
  · rw [if_pos (by omega)]
    simp only [if_pos c1]
    exact bad
  · simp only [if_neg c1]
    by_cases c2 : (l.length : Int) > 8
    · rw [if_pos (by omega), decide_eq_true c2]
      exact bad
    · rw [if_neg (by omega), decide_eq_false c2]
      refine evStep 0 (fun k _ => ?_) (get0_ev l h (by omega) l.length 0 0 (by omega))
      simp only [octets_Get.j0]
      rw [if_neg (by simp)]
      rfl
theorem or64 (x y : Int) (h0 : 0 ≤ x) (h1 : x < 72057594037927936) (h2 : 0 ≤ y) (h3 : y ≤ 255) : bits .or .u64 (x * 256) y = x * 256 + y :=
  bits_join .u64 64 (by decide) (fun n a b => by rw [wrap_u64]; omega) 8 (x * 256) y (by omega) (by omega) (by omega) h2 (by omega) (by omega)
theorem num_ev (l : List Int) (h : oct l) (hs : l.length ≤ 8) : ∀ (d i : Nat) (n : Int), i + d = l.length → 0 ≤ n → Ev (fun k => stopcockref01_Number.l0 k l n (i : Int)) ((l.drop i).foldl stepN n) := by
  intro d
  induction d with
  | zero =>
    intro i n hi _
    rw [List.drop_eq_nil_of_le (by omega), List.foldl_nil]
    refine evEnd 1 (fun k hk => ?_)
    obtain ⟨j, rfl⟩ : ∃ j, k = j + 1 := ⟨k - 1, by omega⟩
    simp only [stopcockref01_Number.l0]
    rw [if_neg (by omega)]
  | succ d ih =>
    intro i n hi h0
    rw [dropI l i (by omega), List.foldl_cons]
    have hb := rdO h i (by omega)
    refine evStep 0 (fun k _ => ?_) (ih (i + 1) _ (by omega) (by unfold stepN; omega))
    simp only [stopcockref01_Number.l0]
    rw [if_pos (by omega), if_pos (by omega), wrap_id (x := (i : Int) + 1) (by omega) (by omega)]
    have e : Go.bits .or .u64 (IntKind.u64.wrap (n * 256)) (IntKind.u64.wrap (rd l (i : Int))) = stepN n (rd l (i : Int)) := by
      unfold stepN
      rw [wrap_u64, wrap_u64, Int.emod_eq_of_lt hb.1 (by omega)]
      have e1 : n * 256 % 18446744073709551616 = n % 72057594037927936 * 256 := by omega
      rw [e1, or64 _ _ (by omega) (by omega) hb.1 hb.2]
      omega
    rw [e]
    rfl
theorem rget_ev (l : List Int) (h : oct l) : Ev (fun k => stopcockref01_Get.f k l) (getV l) := by
  unfold getV stopcockref01_Get.f
  by_cases c1 : (l.length : Int) < 1
  · rw [if_pos (by omega)]
    simp only [if_pos c1]
    exact Ev.now _
  · simp only [if_neg c1]
    by_cases c2 : (l.length : Int) > 8
    · rw [if_pos (by omega)]
      simp only [if_pos c2]
      exact Ev.now _
    · rw [if_neg (by omega)]
      simp only [if_neg c2]
      obtain ⟨K, e⟩ := num_ev l h (by omega) l.length 0 0 (by omega) (by omega)
      refine ⟨K, fun k hk => ?_⟩
      have e2 := e k hk
      show (stopcockref01_Number.l0 k l 0 0).bind _ = _
      rw [show stopcockref01_Number.l0 k l 0 0 = _ from e2]
      rfl
theorem back1 (n : Int) (h0 : 0 ≤ n) (h : n / 256 ^ (1 : Nat) = 0) : (lows n 1).reverse.foldl stepN 0 = n := by
  rw [lows1]
  simp only [List.foldl_cons, List.foldl_nil, stepN]
  omega
theorem back2 (n : Int) (h0 : 0 ≤ n) (h : n / 256 ^ (2 : Nat) = 0) : (lows n 2).reverse.foldl stepN 0 = n := by
  rw [lows2]
  simp only [List.foldl_cons, List.foldl_nil, stepN]
  omega
theorem back3 (n : Int) (h0 : 0 ≤ n) (h : n / 256 ^ (3 : Nat) = 0) : (lows n 3).reverse.foldl stepN 0 = n := by
  rw [lows3]
  simp only [List.foldl_cons, List.foldl_nil, stepN]
  omega
theorem back4 (n : Int) (h0 : 0 ≤ n) (h : n / 256 ^ (4 : Nat) = 0) : (lows n 4).reverse.foldl stepN 0 = n := by
  rw [lows4]
  simp only [List.foldl_cons, List.foldl_nil, stepN]
  omega
theorem back5 (n : Int) (h0 : 0 ≤ n) (h : n / 256 ^ (5 : Nat) = 0) : (lows n 5).reverse.foldl stepN 0 = n := by
  rw [lows5]
  simp only [List.foldl_cons, List.foldl_nil, stepN]
  omega
theorem back6 (n : Int) (h0 : 0 ≤ n) (h : n / 256 ^ (6 : Nat) = 0) : (lows n 6).reverse.foldl stepN 0 = n := by
  rw [lows6]
  simp only [List.foldl_cons, List.foldl_nil, stepN]
  omega
theorem back7 (n : Int) (h0 : 0 ≤ n) (h : n / 256 ^ (7 : Nat) = 0) : (lows n 7).reverse.foldl stepN 0 = n := by
  rw [lows7]
  simp only [List.foldl_cons, List.foldl_nil, stepN]
  omega
theorem back8 (n : Int) (h0 : 0 ≤ n) (h : n / 256 ^ (8 : Nat) = 0) : (lows n 8).reverse.foldl stepN 0 = n := by
  rw [lows8]
  simp only [List.foldl_cons, List.foldl_nil, stepN]
  omega
theorem lows_oct (n : Int) : ∀ k, oct (lows n k).reverse := by
  intro k
  induction k with
  | zero => intro x hx; simp [lows] at hx
  | succ k ih =>
    intro x hx
    rw [lows, List.reverse_append] at hx
    rcases List.mem_append.1 hx with h | h
    · simp at h
      omega
    · exact ih x h
theorem back_ev (n s : Int) (h0 : 0 ≤ n) (h1 : n < 18446744073709551616) : ∃ r, octets_Put.f n s = some r ∧ ((r.2 = 0 ∧ oct r.1 ∧ (r.1.length : Int) = s ∧ getV r.1 = (n, 0)) ∨ (r.2 = 4 ∧ r.1 = [])) := by
  unfold octets_Put.f putF
  rw [if_pos ⟨h0, h1⟩]
  by_cases hs : 1 ≤ s ∧ s ≤ 8
  · rw [if_pos hs]
    by_cases hz : n / 256 ^ s.toNat = 0
    · refine ⟨_, if_pos hz, .inl ⟨rfl, lows_oct _ _, by simp [lows_len]; omega, ?_⟩⟩
      have hl : ((lows n s.toNat).reverse).length = s.toNat := by rw [List.length_reverse, lows_len]
      unfold getV
      rw [if_neg (by simp only [hl]; omega)]
      have : s = 1 ∨ s = 2 ∨ s = 3 ∨ s = 4 ∨ s = 5 ∨ s = 6 ∨ s = 7 ∨ s = 8 := by omega
      rcases this with rfl | rfl | rfl | rfl | rfl | rfl | rfl | rfl
      · exact Prod.ext (back1 n h0 hz) rfl
      · exact Prod.ext (back2 n h0 hz) rfl
      · exact Prod.ext (back3 n h0 hz) rfl
      · exact Prod.ext (back4 n h0 hz) rfl
      · exact Prod.ext (back5 n h0 hz) rfl
      · exact Prod.ext (back6 n h0 hz) rfl
      · exact Prod.ext (back7 n h0 hz) rfl
      · exact Prod.ext (back8 n h0 hz) rfl
    · exact ⟨_, if_neg hz, .inr ⟨rfl, rfl⟩⟩
  · rw [if_neg hs]
    exact ⟨_, rfl, .inr ⟨rfl, rfl⟩⟩
end Go.Proofs.Ytpadboidkpembaa.Pure
