/- Hexadecimal digits: both programs, as plain functions; copies and comparisons. -/
import Derived.Test.YtpadboidkpembaaPlainQ
namespace Go.Proofs.Ytpadboidkpembaa.Pure
open Go.RowKit Go.Proofs.Ytpadboidkpembaa.PA Go.Proofs.YtpadboidkpembaaW.PrintWords Go.Proofs.YtpadboidkpembaaW.PrintLast Go.Proofs.YtpadboidkpembaaW.PrintMore Go.Proofs.Ytpadboidkpembaa.Util Go.Proofs.Ytpadboidkpembaa.Hand
set_option linter.unusedVariables false
set_option linter.unusedSimpArgs false

theorem bt_bd (s : ByteArray) (i : Int) : 0 ≤ bt s i ∧ bt s i ≤ 255 := by
  unfold bt
  split
  · have := (s[i.toNat]).toNat_lt; omega
  · omega
theorem val_all : ∀ z : Fin 256, stopcockref01_value.f 3 (z.val : Int) = some ((nv (z.val : Int)).getD (-1)) := by decide +kernel
theorem val_ev (c : Int) (h0 : 0 ≤ c) (h1 : c ≤ 255) (k : Nat) (hk : 3 ≤ k) : stopcockref01_value.f k c = some ((nv c).getD (-1)) := by
  have h := val_all ⟨c.toNat, by omega⟩
  have e : ((⟨c.toNat, by omega⟩ : Fin 256).val : Int) = c := by simp; omega
  rw [e] at h
  exact at_rounds (g := fun k => stopcockref01_value.f k c) (fun k => stopcockref01_value.mono c k) hk h
theorem nv_all : ∀ z : Fin 256, ∀ v, nv (z.val : Int) = some v → 0 ≤ v ∧ v ≤ 15 := by
  intro z v
  have h : ∀ z : Fin 256, 0 ≤ (nv (z.val : Int)).getD 0 ∧ (nv (z.val : Int)).getD 0 ≤ 15 := by decide +kernel
  have h2 := h z
  intro e
  rw [e] at h2
  exact h2
theorem nv_bd (c : Int) (h0 : 0 ≤ c) (h1 : c ≤ 255) (v : Int) (h : nv c = some v) : 0 ≤ v ∧ v ≤ 15 := by
  have h2 := nv_all ⟨c.toNat, by omega⟩ v
  have e : ((⟨c.toNat, by omega⟩ : Fin 256).val : Int) = c := by simp; omega
  rw [e] at h2
  exact h2 h
theorem nvD_bd (c : Int) (h0 : 0 ≤ c) (h1 : c ≤ 255) : 0 ≤ nvD c ∧ nvD c ≤ 15 := by
  unfold nvD
  cases h : nv c with
  | none => simp
  | some v => exact nv_bd c h0 h1 v h
def uv (s : ByteArray) : List Int × Int × Int := match badAt s with | some i => ([], 11, (i : Int)) | none => if s.size % 2 = 1 then ([], 3, (s.size : Int)) else (pairs (dig s), 0, (s.size : Int))
theorem unhex_eq (s : ByteArray) (hs : s.size ≤ 140737488351232) : octets_Unhex.f s = some (uv s) := by
  unfold octets_Unhex.f unhex uv
  rw [if_pos hs]
  cases badAt s <;> rfl
theorem dig_len (s : ByteArray) : (dig s).length = s.size := by unfold dig; rw [List.length_map, bytesOf_length]
theorem dig_drop (s : ByteArray) (i : Nat) (h : i < s.size) : (dig s).drop i = nvD (bt s (i : Int)) :: (dig s).drop (i + 1) := by
  unfold dig
  rw [← List.map_drop, drop_cons s i h, List.map_cons, List.map_drop]
theorem ul1_ev (s : ByteArray) (hs : s.size ≤ 140737488351232) (hg : ∀ j : Nat, j < s.size → ∃ v, nv (bt s (j : Int)) = some v) (m : Nat) (hm : s.size = 2 * m) : ∀ (d j : Nat) (l : List Int), j + d = m → l.length = j →
    Ev (fun k => stopcockref01_Unhex.l1 k s l ((2 * j : Nat) : Int)) (l ++ pairs ((dig s).drop (2 * j)), 0, (s.size : Int)) := by
  intro d
  induction d with
  | zero =>
    intro j l hj hl
    rw [List.drop_eq_nil_of_le (by rw [dig_len]; omega), pairs, List.append_nil]
    · refine evEnd 1 (fun k hk => ?_)
      obtain ⟨i, rfl⟩ : ∃ i, k = i + 1 := ⟨k - 1, by omega⟩
      simp only [stopcockref01_Unhex.l1]
      rw [if_neg (by omega)]
    · intro a b r e; cases e
  | succ d ih =>
    intro j l hj hl
    rw [dig_drop s (2 * j) (by omega), dig_drop s (2 * j + 1) (by omega), pairs]
    have b0 := bt_bd s ((2 * j : Nat) : Int)
    have b1 := bt_bd s ((2 * j + 1 : Nat) : Int)
    have h := ih (j + 1) (l ++ [(nvD (bt s ((2 * j : Nat) : Int)) * 16 % 256 + nvD (bt s ((2 * j + 1 : Nat) : Int))) % 256]) (by omega) (by simp; omega)
    rw [List.append_assoc, List.cons_append, List.nil_append, show 2 * (j + 1) = 2 * j + 1 + 1 from by omega] at h
    obtain ⟨v0, e0⟩ := hg (2 * j) (by omega)
    obtain ⟨v1, e1⟩ := hg (2 * j + 1) (by omega)
    have n0 := nvD_bd _ b0.1 b0.2
    have n1 := nvD_bd _ b1.1 b1.2
    refine evStep 3 (fun k hk => ?_) h
    simp only [stopcockref01_Unhex.l1]
    have ei : wrap64 (((2 * j : Nat) : Int) + 1) = ((2 * j + 1 : Nat) : Int) := by rw [wrap_id (by omega) (by omega)]; simp
    rw [if_pos (by omega), if_pos (by omega), val_ev _ b0.1 b0.2 k hk, Option.bind_some, ei, if_pos (by omega), if_pos (by omega), val_ev _ b1.1 b1.2 k hk, Option.bind_some, if_pos (by omega)]
    have e2 : (nv (bt s ((2 * j : Nat) : Int))).getD (-1) = nvD (bt s ((2 * j : Nat) : Int)) := by unfold nvD; rw [e0]; rfl
    have e3 : (nv (bt s ((2 * j + 1 : Nat) : Int))).getD (-1) = nvD (bt s ((2 * j + 1 : Nat) : Int)) := by unfold nvD; rw [e1]; rfl
    rw [e2, e3, wrap_id (x := nvD (bt s ((2 * j : Nat) : Int)) * 16) (by omega) (by omega), wrap_id (x := nvD (bt s ((2 * j : Nat) : Int)) * 16 + nvD (bt s ((2 * j + 1 : Nat) : Int))) (by omega) (by omega), wrap_id (x := ((2 * j : Nat) : Int) + 2) (by omega) (by omega)]
    have e4 : (nvD (bt s ((2 * j : Nat) : Int)) * 16 % 256 + nvD (bt s ((2 * j + 1 : Nat) : Int))) % 256 = (nvD (bt s ((2 * j : Nat) : Int)) * 16 + nvD (bt s ((2 * j + 1 : Nat) : Int))) % 256 := by omega
    have e5 : ((2 * j + 1 + 1 : Nat) : Int) = ((2 * j : Nat) : Int) + 2 := by omega
    rw [e4, e5]
theorem bad_none (s : ByteArray) (h : ∀ j : Nat, j < s.size → ∃ v, nv (bt s (j : Int)) = some v) : badAt s = none := by
  unfold badAt
  rw [List.findIdx?_eq_none_iff]
  intro x hx
  obtain ⟨j, hj, rfl⟩ := List.mem_iff_getElem.1 hx
  rw [bytesOf_length] at hj
  obtain ⟨v, e⟩ := h j hj
  rw [bt_get s j hj] at e
  rw [e]
  rfl
theorem bad_some (s : ByteArray) (i : Nat) (hi : i < s.size) (h : ∀ j : Nat, j < i → ∃ v, nv (bt s (j : Int)) = some v) (hb : nv (bt s (i : Int)) = none) : badAt s = some i := by
  unfold badAt
  rw [List.findIdx?_eq_some_iff_getElem]
  refine ⟨by rw [bytesOf_length]; exact hi, ?_, ?_⟩
  · rw [bt_get s i hi] at hb
    rw [hb]
    rfl
  · intro j hj
    obtain ⟨v, e⟩ := h j hj
    rw [bt_get s j (by omega)] at e
    rw [e]
    simp
theorem ul0_ev (s : ByteArray) (hs : s.size ≤ 140737488351232) : ∀ (d i : Nat), i + d = s.size → (∀ j : Nat, j < i → ∃ v, nv (bt s (j : Int)) = some v) → Ev (fun k => stopcockref01_Unhex.l0 k s (i : Int)) (uv s) := by
  intro d
  induction d with
  | zero =>
    intro i hi hg
    have hg' : ∀ j : Nat, j < s.size → ∃ v, nv (bt s (j : Int)) = some v := fun j hj => hg j (by omega)
    unfold uv
    rw [bad_none s hg']
    by_cases ho : s.size % 2 = 1
    · simp only [if_pos ho]
      refine evEnd 1 (fun k hk => ?_)
      obtain ⟨j, rfl⟩ : ∃ j, k = j + 1 := ⟨k - 1, by omega⟩
      simp only [stopcockref01_Unhex.l0]
      rw [if_neg (by omega), if_pos (by omega)]
    · simp only [if_neg ho]
      refine evStep 0 (fun k _ => ?_) (ul1_ev s hs hg' (s.size / 2) (by omega) (s.size / 2) 0 [] (by omega) rfl)
      simp only [stopcockref01_Unhex.l0]
      rw [if_neg (by omega), if_neg (by omega)]
      rfl
  | succ d ih =>
    intro i hi hg
    have b0 := bt_bd s (i : Int)
    cases hv : nv (bt s (i : Int)) with
    | none =>
      unfold uv
      rw [bad_some s i (by omega) hg hv]
      refine evEnd 4 (fun k hk => ?_)
      obtain ⟨j, rfl⟩ : ∃ j, k = j + 1 := ⟨k - 1, by omega⟩
      simp only [stopcockref01_Unhex.l0]
      rw [if_pos (by omega), if_pos (by omega), val_ev _ b0.1 b0.2 j (by omega), Option.bind_some, hv, if_pos (by simp)]
    | some v =>
      refine evStep 3 (fun k hk => ?_) (ih (i + 1) (by omega) (fun j hj => ?_))
      · have := nv_bd _ b0.1 b0.2 v hv
        simp only [stopcockref01_Unhex.l0]
        rw [if_pos (by omega), if_pos (by omega), val_ev _ b0.1 b0.2 k hk, Option.bind_some, hv, if_neg (by simp; omega), wrap_id (x := (i : Int) + 1) (by omega) (by omega)]
        rfl
      · by_cases hji : j = i
        · subst hji; exact ⟨v, hv⟩
        · exact hg j (by omega)
theorem runhex_ev (s : ByteArray) (hs : s.size ≤ 140737488351232) : Ev (fun k => stopcockref01_Unhex.f k s) (uv s) := ul0_ev s hs s.size 0 (by omega) (fun j hj => by omega)

/-! ### octets as hexadecimal digits -/
abbrev dg : ByteArray := ⟨#[48, 49, 50, 51, 52, 53, 54, 55, 56, 57, 97, 98, 99, 100, 101, 102]⟩
def hexL : List Int → List Int
  | [] => []
  | c :: r => bt dg (c / 16) :: bt dg (c % 16) :: hexL r
theorem and15_all : ∀ z : Fin 256, bits .and .u8 (z.val : Int) 15 = ((z.val % 16 : Nat) : Int) := by decide +kernel
theorem and15 (c : Int) (h0 : 0 ≤ c) (h1 : c ≤ 255) : bits .and .u8 c 15 = c % 16 := by
  have h := and15_all ⟨c.toNat, by omega⟩
  have e : ((⟨c.toNat, by omega⟩ : Fin 256).val : Int) = c := by simp; omega
  rw [e] at h
  rw [h]
  simp
  omega
theorem hexL_len : ∀ l, (hexL l).length = 2 * l.length
  | [] => rfl
  | c :: r => by simp [hexL, hexL_len r]; omega
theorem hexL_oct : ∀ l, oct (hexL l)
  | [] => fun x hx => by cases hx
  | c :: r => fun x hx => by
    rw [hexL] at hx
    rcases List.mem_cons.1 hx with rfl | hx
    · exact bt_bd _ _
    · rcases List.mem_cons.1 hx with rfl | hx
      · exact bt_bd _ _
      · exact hexL_oct r x hx
theorem hex0_ev (l : List Int) (h : oct l) (hs : l.length ≤ 1048576) : ∀ (d i : Nat) (t : List Int), i + d = l.length → t.length = 2 * i → Ev (fun k => octets_Hex.l0 k t l (l.length : Int) (i : Int)) (strOfNums (t ++ hexL (l.drop i))) := by
  intro d
  induction d with
  | zero =>
    intro i t hi ht
    rw [List.drop_eq_nil_of_le (by omega), hexL, List.append_nil]
    refine evEnd 1 (fun k hk => ?_)
    obtain ⟨j, rfl⟩ : ∃ j, k = j + 1 := ⟨k - 1, by omega⟩
    simp only [octets_Hex.l0]
    rw [if_neg (by omega)]
  | succ d ih =>
    intro i t hi ht
    have hb := rdO h i (by omega)
    rw [dropI l i (by omega), hexL]
    have h2 := ih (i + 1) (t ++ [bt dg (rd l (i : Int) / 16), bt dg (rd l (i : Int) % 16)]) (by omega) (by simp; omega)
    rw [List.append_assoc] at h2
    refine evStep 0 (fun k _ => ?_) h2
    simp only [octets_Hex.l0]
    rw [and15 _ hb.1 hb.2, if_pos (by omega), if_pos (by omega), if_pos (by omega), if_pos (by omega), if_pos (by omega), if_pos (by omega), if_pos (by omega), Option.bind_some, if_pos (by simp; omega), wrap_id (x := (i : Int) + 1) (by omega) (by omega)]
    rfl
theorem hex_ev (l : List Int) (h : oct l) (hs : l.length ≤ 1048576) : Ev (fun k => octets_Hex.f k l) (strOfNums (hexL l)) := hex0_ev l h hs l.length 0 [] (by omega) rfl
theorem rhex0_ev (l : List Int) (h : oct l) (hs : l.length ≤ 1048576) : ∀ (d i : Nat) (t : List Int), i + d = l.length → t.length = 2 * i → Ev (fun k => stopcockref01_Hex.l0 k l t (i : Int)) (strOfNums (t ++ hexL (l.drop i))) := by
  intro d
  induction d with
  | zero =>
    intro i t hi ht
    rw [List.drop_eq_nil_of_le (by omega), hexL, List.append_nil]
    refine evEnd 1 (fun k hk => ?_)
    obtain ⟨j, rfl⟩ : ∃ j, k = j + 1 := ⟨k - 1, by omega⟩
    simp only [stopcockref01_Hex.l0]
    rw [if_neg (by omega)]
  | succ d ih =>
    intro i t hi ht
    have hb := rdO h i (by omega)
    rw [dropI l i (by omega), hexL]
    have h2 := ih (i + 1) (t ++ [bt dg (rd l (i : Int) / 16), bt dg (rd l (i : Int) % 16)]) (by omega) (by simp; omega)
    rw [List.append_assoc] at h2
    refine evStep 0 (fun k _ => ?_) h2
    simp only [stopcockref01_Hex.l0]
    rw [and15 _ hb.1 hb.2, if_pos (by omega), if_pos (by omega), if_pos (by omega), if_pos (by omega), if_pos (by omega), if_pos (by omega), Option.bind_some, if_pos (by simp; omega), wrap_id (x := (i : Int) + 1) (by omega) (by omega)]
    rfl
theorem rhex_ev (l : List Int) (h : oct l) (hs : l.length ≤ 1048576) : Ev (fun k => stopcockref01_Hex.f k l) (strOfNums (hexL l)) := rhex0_ev l h hs l.length 0 [] (by omega) rfl
theorem dg_all : ∀ z : Fin 16, nv (bt dg (z.val : Int)) = some (z.val : Int) := by decide +kernel
theorem dg_nv (c : Int) (h0 : 0 ≤ c) (h1 : c ≤ 15) : nv (bt dg c) = some c := by
  have h := dg_all ⟨c.toNat, by omega⟩
  have e : ((⟨c.toNat, by omega⟩ : Fin 16).val : Int) = c := by simp; omega
  rw [e] at h
  exact h
theorem pairs_hex : ∀ l, oct l → pairs ((hexL l).map nvD) = l
  | [], _ => by simp [hexL, pairs]
  | c :: r, h => by
    have hb := h c List.mem_cons_self
    rw [hexL, List.map_cons, List.map_cons, pairs, pairs_hex r (fun x hx => h x (List.mem_cons_of_mem _ hx))]
    have e1 : nvD (bt dg (c / 16)) = c / 16 := by unfold nvD; rw [dg_nv _ (by omega) (by omega)]; rfl
    have e2 : nvD (bt dg (c % 16)) = c % 16 := by unfold nvD; rw [dg_nv _ (by omega) (by omega)]; rfl
    rw [e1, e2]
    congr 1
    omega
theorem hexL_good : ∀ l, oct l → ∀ x ∈ hexL l, ∃ v, nv x = some v
  | [], _ => fun x hx => by cases hx
  | c :: r, h => fun x hx => by
    have hb := h c List.mem_cons_self
    rw [hexL] at hx
    rcases List.mem_cons.1 hx with rfl | hx
    · exact ⟨_, dg_nv _ (by omega) (by omega)⟩
    · rcases List.mem_cons.1 hx with rfl | hx
      · exact ⟨_, dg_nv _ (by omega) (by omega)⟩
      · exact hexL_good r (fun x hx => h x (List.mem_cons_of_mem _ hx)) x hx
theorem unhex_hex (l : List Int) (h : oct l) : uv (strOfNums (hexL l)) = (l, 0, ((2 * l.length : Nat) : Int)) := by
  have hb := str_bytes _ (hexL_oct l)
  have hg : ∀ j : Nat, j < (strOfNums (hexL l)).size → ∃ v, nv (bt (strOfNums (hexL l)) (j : Int)) = some v := fun j hj => by
    rw [bt_get _ j hj]
    have hm : (bytesOf (strOfNums (hexL l)))[j]'(by rw [bytesOf_length]; exact hj) ∈ bytesOf (strOfNums (hexL l)) := List.getElem_mem _
    refine hexL_good l h _ ?_
    exact (congrArg (fun z => (bytesOf (strOfNums (hexL l)))[j]'(by rw [bytesOf_length]; exact hj) ∈ z) hb).mp hm
  unfold uv
  rw [bad_none _ hg]
  simp only [str_size, hexL_len]
  rw [if_neg (by omega)]
  unfold dig
  rw [hb, pairs_hex l h]

/-! ### copies and comparisons -/
theorem same_ev (l : List Int) (hs : l.length ≤ 140737488351232) : Ev (fun k => stopcockplain_SameBytes.f k l l) true := by
  have h : ∀ (d i : Nat), i + d = l.length → Ev (fun k => stopcockplain_SameBytes.l0 k l l (i : Int)) true := by
    intro d
    induction d with
    | zero =>
      intro i h
      refine evEnd 1 (fun k hk => ?_)
      obtain ⟨m, rfl⟩ : ∃ m, k = m + 1 := ⟨k - 1, by omega⟩
      simp only [stopcockplain_SameBytes.l0]
      rw [if_neg (by omega)]
    | succ d ih =>
      intro i h
      refine evStep 0 (fun k _ => ?_) (ih (i + 1) (by omega))
      simp only [stopcockplain_SameBytes.l0]
      rw [if_pos (by omega), if_pos (by omega), if_pos (by omega), if_pos trivial, wrap_id (by omega) (by omega)]
      rfl
  refine evSame 0 (fun k _ => ?_) (h l.length 0 (by omega))
  unfold stopcockplain_SameBytes.f
  rw [if_pos rfl]
  rfl
theorem spoil_ev (l : List Int) (hs : l.length ≤ 140737488351232) : ∃ l', Ev (fun k => stopcockplain_Spoil.f k l) l' := by
  have h : ∀ (d i : Nat) (l : List Int), i + d = l.length → l.length ≤ 140737488351232 → ∃ l', Ev (fun k => stopcockplain_Spoil.l0 k l (i : Int)) l' := by
    intro d
    induction d with
    | zero =>
      intro i l h hs
      refine ⟨l, evEnd 1 (fun k hk => ?_)⟩
      obtain ⟨m, rfl⟩ : ∃ m, k = m + 1 := ⟨k - 1, by omega⟩
      simp only [stopcockplain_Spoil.l0]
      rw [if_neg (by omega)]
    | succ d ih =>
      intro i l h hs
      obtain ⟨l', hl⟩ := ih (i + 1) (l.set (i : Int).toNat (Go.bits .xor .u8 (rd l (i : Int)) 85)) (by rw [List.length_set]; omega) (by rw [List.length_set]; omega)
      refine ⟨l', evStep 0 (fun k _ => ?_) hl⟩
      simp only [stopcockplain_Spoil.l0]
      rw [if_pos (by omega), if_pos (by omega), wrap_id (by omega) (by omega)]
      rfl
  exact h l.length 0 l (by omega) hs
theorem copy_eq (l : List Int) (hs : l.length ≤ 140737488351232) : stopcockplain_CopyBytes.f l = some l := by
  unfold stopcockplain_CopyBytes.f
  rw [if_pos (by simp; omega)]
  rfl
theorem pairs_len : ∀ (n : Nat) (l : List Int), l.length ≤ n → (pairs l).length ≤ n := by
  intro n
  induction n using Nat.strongRecOn with
  | ind n ih =>
    intro l h
    match l, h with
    | [], _ => simp [pairs]
    | [a], _ => simp [pairs]
    | a :: b :: r, h =>
      rw [pairs]
      simp at h ⊢
      have := ih (n - 2) (by omega) r (by omega)
      omega
theorem uv_len (s : ByteArray) : (uv s).1.length ≤ s.size := by
  unfold uv
  split
  · simp
  · split
    · simp
    · have := pairs_len s.size (dig s) (by rw [dig_len]; exact Nat.le_refl _)
      exact this
theorem alive_ev : Ev (fun k => stopcocklaw01_alive.f k) true := by
  have e1 : octets_Put.f 258 2 = some ([1, 2], 0) := by
    have : octets_Put.f 258 2 = some ((lows 258 2).reverse, 0) := rfl
    rw [this, lows2]
    rfl
  have e2 : octets_Put.f 256 1 = some ([], 4) := rfl
  have e3 : octets_Unhex.f (⟨#[48, 103]⟩ : ByteArray) = some ([], 11, 1) := by decide +kernel
  have hb : strOfNums (digs (-9223372036854775808)) = (⟨#[45, 57, 50, 50, 51, 51, 55, 50, 48, 51, 54, 56, 53, 52, 55, 55, 53, 56, 48, 56]⟩ : ByteArray) := by
    unfold digs
    rw [if_pos (by decide), show Int.natAbs (-9223372036854775808) = 9223372036854775808 from rfl]
    repeat rw [dl_big _ (by decide)]
    rw [dl_small _ (by decide)]
    decide +kernel
  have e4 := parse_ev (strOfNums (digs (-9223372036854775808)))
  rw [parse_digs _ (by unfold inI; omega), hb] at e4
  obtain ⟨K1, h1⟩ := e4
  obtain ⟨K2, h2⟩ := same_ev [1, 2] (by decide)
  refine evEnd (K1 + K2) (fun k hk => ?_)
  unfold stopcocklaw01_alive.f
  rw [e1, e2, e3]
  simp only [Option.bind_some]
  rw [show octets_ParseInt.f k _ = _ from h1 k (by omega)]
  simp only [Option.bind_some, stopcocklaw01_num.f]
  rw [show stopcockplain_SameBytes.f k [1, 2] [1, 2] = _ from h2 k (by omega)]
  decide +kernel
end Go.Proofs.Ytpadboidkpembaa.Pure
