/- The other printed functions of toeplitz: tuples, tables, copies and comparisons, as plain functions. -/
import Derived.Test.YtgfghinjjidcoaaPlainH
import Derived.Test.YtgfghinjjidcoaaPAx15
namespace Go.Proofs.Ytgfghinjjidcoaa.Pure
open Go.RowKit Go.Proofs.Ytgfghinjjidcoaa.PA Go.Proofs.YtgfghinjjidcoaaW.PrintWords Go.Proofs.YtgfghinjjidcoaaW.PrintLast Go.Proofs.YtgfghinjjidcoaaW.PrintMore Go.Proofs.Ytgfghinjjidcoaa.Util
set_option linter.unusedVariables false
set_option linter.unusedSimpArgs false

theorem same_ev (l : List Int) (hs : l.length ≤ 140737488351232) : Ev (fun k => stopcockplain_SameBytes.f k l l) true := by
  have h : ∀ (d i : Nat), i + d = l.length → Ev (fun k => stopcockplain_SameBytes.l0 k l l (i : Int)) true := by
    intro d
    induction d with
    | zero =>
      intro i h
      refine evEnd 1 (fun k hk => ?_)
      obtain ⟨m, rfl⟩ : ∃ m, k = m + 1 := ⟨k - 1, by omega⟩
      simp only [stopcockplain_SameBytes.l0]
      rw [if_neg (by omega)]
    | succ d ih =>
      intro i h
      refine evStep 0 (fun k _ => ?_) (ih (i + 1) (by omega))
      simp only [stopcockplain_SameBytes.l0]
      rw [if_pos (by omega), if_pos (by omega), if_pos (by omega), if_pos trivial, wrap_id (by omega) (by omega)]
      rfl
  refine evSame 0 (fun k _ => ?_) (h l.length 0 (by omega))
  unfold stopcockplain_SameBytes.f
  rw [if_pos rfl]
  rfl
theorem sameI_ev (l : List Int) (hs : l.length ≤ 140737488351232) : Ev (fun k => stopcockplain_SameInts.f k l l) true := by
  have h : ∀ (d i : Nat), i + d = l.length → Ev (fun k => stopcockplain_SameInts.l0 k l l (i : Int)) true := by
    intro d
    induction d with
    | zero =>
      intro i h
      refine evEnd 1 (fun k hk => ?_)
      obtain ⟨m, rfl⟩ : ∃ m, k = m + 1 := ⟨k - 1, by omega⟩
      simp only [stopcockplain_SameInts.l0]
      rw [if_neg (by omega)]
    | succ d ih =>
      intro i h
      refine evStep 0 (fun k _ => ?_) (ih (i + 1) (by omega))
      simp only [stopcockplain_SameInts.l0]
      rw [if_pos (by omega), if_pos (by omega), if_pos (by omega), if_pos trivial, wrap_id (by omega) (by omega)]
      rfl
  refine evSame 0 (fun k _ => ?_) (h l.length 0 (by omega))
  unfold stopcockplain_SameInts.f
  rw [if_pos rfl]
  rfl
theorem spoil_ev (l : List Int) (hs : l.length ≤ 140737488351232) : ∃ l', Ev (fun k => stopcockplain_Spoil.f k l) l' := by
  have h : ∀ (d i : Nat) (l : List Int), i + d = l.length → l.length ≤ 140737488351232 → ∃ l', Ev (fun k => stopcockplain_Spoil.l0 k l (i : Int)) l' := by
    intro d
    induction d with
    | zero =>
      intro i l h hs
      refine ⟨l, evEnd 1 (fun k hk => ?_)⟩
      obtain ⟨m, rfl⟩ : ∃ m, k = m + 1 := ⟨k - 1, by omega⟩
      simp only [stopcockplain_Spoil.l0]
      rw [if_neg (by omega)]
    | succ d ih =>
      intro i l h hs
      obtain ⟨l', hl⟩ := ih (i + 1) (l.set (i : Int).toNat (Go.bits .xor .u8 (rd l (i : Int)) 85)) (by rw [List.length_set]; omega) (by rw [List.length_set]; omega)
      refine ⟨l', evStep 0 (fun k _ => ?_) hl⟩
      simp only [stopcockplain_Spoil.l0]
      rw [if_pos (by omega), if_pos (by omega), wrap_id (by omega) (by omega)]
      rfl
  exact h l.length 0 l (by omega) hs
theorem copy_eq (l : List Int) (hs : l.length ≤ 140737488351232) : stopcockplain_CopyBytes.f l = some l := by
  unfold stopcockplain_CopyBytes.f
  rw [if_pos (by simp; omega)]
  rfl
theorem copyI_eq (l : List Int) (hs : l.length ≤ 17592186043904) : stopcockplain_CopyInts.f l = some l := by
  unfold stopcockplain_CopyInts.f
  rw [if_pos (by simp; omega)]
  rfl
theorem oct4 (n : Int) : Ev (fun k => stopcockref01_Octets.f k n 4) [n / 256 / 256 / 256 % 256, n / 256 / 256 % 256, n / 256 % 256, n % 256] := by
  refine evEnd 5 (fun k hk => ?_)
  obtain ⟨m, rfl⟩ : ∃ m, k = m + 5 := ⟨k - 5, by omega⟩
  simp [stopcockref01_Octets.f, stopcockref01_Octets.l0, wrap64, List.replicate]
theorem oct2 (n : Int) : Ev (fun k => stopcockref01_Octets.f k n 2) [n / 256 % 256, n % 256] := by
  refine evEnd 3 (fun k hk => ?_)
  obtain ⟨m, rfl⟩ : ∃ m, k = m + 3 := ⟨k - 3, by omega⟩
  simp [stopcockref01_Octets.f, stopcockref01_Octets.l0, wrap64, List.replicate]
theorem tup_eq (a0 a1 p q : Int) (h0 : 0 ≤ a0) (h1 : a0 ≤ 4294967295) (h2 : 0 ≤ a1) (h3 : a1 ≤ 4294967295) (h4 : 0 ≤ p) (h5 : p ≤ 65535) (h6 : 0 ≤ q) (h7 : q ≤ 65535) :
    toeplitz_Tuple.f a0 a1 p q = some (Hand.four a0 ++ Hand.four a1 ++ Hand.four (p * 65536 + q)) := by
  unfold toeplitz_Tuple.f Hand.tuple
  rw [if_pos (by omega)]
theorem rtup_ev (a0 a1 p q : Int) (h0 : 0 ≤ a0) (h1 : a0 ≤ 4294967295) (h2 : 0 ≤ a1) (h3 : a1 ≤ 4294967295) (h4 : 0 ≤ p) (h5 : p ≤ 65535) (h6 : 0 ≤ q) (h7 : q ≤ 65535) :
    Ev (fun k => stopcockref07_Tuple.f k a0 a1 p q) (Hand.four a0 ++ Hand.four a1 ++ Hand.four (p * 65536 + q)) := by
  obtain ⟨K1, e1⟩ := oct4 a0
  obtain ⟨K2, e2⟩ := oct4 a1
  obtain ⟨K3, e3⟩ := oct2 p
  obtain ⟨K4, e4⟩ := oct2 q
  refine evEnd (K1 + K2 + K3 + K4) (fun k hk => ?_)
  unfold stopcockref07_Tuple.f
  rw [wrap_u64, wrap_u64, wrap_u64, wrap_u64, Int.emod_eq_of_lt (by omega) (by omega), Int.emod_eq_of_lt (by omega) (by omega), Int.emod_eq_of_lt (by omega) (by omega), Int.emod_eq_of_lt (by omega) (by omega)]
  rw [show stopcockref01_Octets.f k a0 4 = _ from e1 k (by omega), show stopcockref01_Octets.f k a1 4 = _ from e2 k (by omega), show stopcockref01_Octets.f k p 2 = _ from e3 k (by omega), show stopcockref01_Octets.f k q 2 = _ from e4 k (by omega)]
  simp [Hand.four]
  omega
theorem check_ev (l : List Int) (hs : l.length ≤ 140737488351232) : ∃ c, toeplitz_checkTable.f l = some c ∧ Ev (fun k => stopcockref07_CheckTable.f k l) c ∧ (c = 0 → l.length = 128 ∧ ∀ j : Nat, j < 128 → 0 ≤ rd l (j : Int) ∧ rd l (j : Int) < 16) := by
  unfold toeplitz_checkTable.f Hand.checkT
  by_cases hl : (l.length : Int) ≠ 128
  · rw [if_pos hl]
    refine ⟨3, rfl, evEnd 0 (fun k _ => ?_), fun h => absurd h (by decide)⟩
    unfold stopcockref07_CheckTable.f
    rw [if_neg hl]
  · rw [if_neg hl]
    have hl1 : l.length = 128 := by omega
    have hrd : ∀ j (h : j < l.length), rd l (j : Int) = l[j] := fun j h => by simp [rd, List.getD, h]
    have hstep : ∀ (c : Int) (d i : Nat), i + d = 128 → (c = 4 → ∃ j : Nat, i ≤ j ∧ j < 128 ∧ (rd l (j : Int) < 0 ∨ rd l (j : Int) ≥ 16)) → (c = 0 → ∀ j : Nat, i ≤ j → j < 128 → ¬ (rd l (j : Int) < 0 ∨ rd l (j : Int) ≥ 16)) → (c = 0 ∨ c = 4) →
        Ev (fun k => stopcockref07_CheckTable.l0 k l (i : Int)) c := by
      intro c d
      induction d with
      | zero =>
        intro i h h4 h0 hc
        rcases hc with rfl | rfl
        · refine evEnd 1 (fun k hk => ?_)
          obtain ⟨m, rfl⟩ : ∃ m, k = m + 1 := ⟨k - 1, by omega⟩
          simp only [stopcockref07_CheckTable.l0]
          rw [if_neg (by omega)]
        · obtain ⟨j, h1, h2, _⟩ := h4 rfl
          omega
      | succ d ih =>
        intro i h h4 h0 hc
        by_cases hb : rd l (i : Int) < 0 ∨ rd l (i : Int) ≥ 16
        · have : c = 4 := by rcases hc with rfl | rfl; exact absurd hb (h0 rfl i (by omega) (by omega)); rfl
          subst this
          refine evEnd 1 (fun k hk => ?_)
          obtain ⟨m, rfl⟩ : ∃ m, k = m + 1 := ⟨k - 1, by omega⟩
          simp only [stopcockref07_CheckTable.l0]
          rw [if_pos (by omega), if_pos (by omega)]
          by_cases hn : rd l (i : Int) < 0
          · rw [if_pos hn]
          · rw [if_neg hn, if_pos (hb.resolve_left hn)]
        · refine evStep 0 (fun k _ => ?_) (ih (i + 1) (by omega) (fun e => ?_) (fun e j h1 h2 => h0 e j (by omega) h2) hc)
          · simp only [stopcockref07_CheckTable.l0]
            rw [if_pos (by omega), if_pos (by omega), if_neg (by omega), if_neg (by omega), wrap_id (by omega) (by omega)]
            rfl
          · obtain ⟨j, h1, h2, h3⟩ := h4 e
            refine ⟨j, ?_, h2, h3⟩
            by_cases e : j = i
            · subst e; exact absurd h3 hb
            · omega
    by_cases ho : Hand.outT l = true
    · rw [if_pos ho]
      refine ⟨4, rfl, evSame 0 (fun k _ => ?_) (hstep 4 128 0 rfl (fun _ => ?_) (fun h => absurd h (by decide)) (.inr rfl)), fun h => absurd h (by decide)⟩
      · unfold stopcockref07_CheckTable.f
        rw [if_pos (by omega)]
        rfl
      · unfold Hand.outT at ho
        obtain ⟨x, hx, hd⟩ := List.any_eq_true.1 ho
        obtain ⟨j, hj, rfl⟩ := List.getElem_of_mem hx
        have := of_decide_eq_true hd
        exact ⟨j, by omega, by omega, by rw [hrd j hj]; exact this⟩
    · rw [if_neg ho]
      have hg : ∀ j : Nat, j < 128 → ¬ (rd l (j : Int) < 0 ∨ rd l (j : Int) ≥ 16) := fun j hj hb => ho (by
        unfold Hand.outT
        rw [List.any_eq_true]
        rw [hrd j (by omega)] at hb
        exact ⟨_, List.getElem_mem _, decide_eq_true hb⟩)
      refine ⟨0, rfl, evSame 0 (fun k _ => ?_) (hstep 0 128 0 rfl (fun h => absurd h (by decide)) (fun _ j _ h2 => hg j h2) (.inl rfl)), fun _ => ⟨hl1, fun j hj => by have := hg j hj; omega⟩⟩
      unfold stopcockref07_CheckTable.f
      rw [if_pos (by omega)]
      rfl
theorem and127 (x : Int) (h0 : 0 ≤ x) (h1 : x < 4294967296) : bits .and .u32 x 127 = x % 128 := bits_mask .u32 32 (by decide) (fun n a b => by rw [IntKind.wrap_u32]; omega) 7 (by decide) x h0 h1
theorem alive_ev : Ev (fun k => stopcocklaw07_alive.f k) true := Ev.of stopcocklaw07_alive.mono (k := 200) (by decide +kernel)
end Go.Proofs.Ytgfghinjjidcoaa.Pure
