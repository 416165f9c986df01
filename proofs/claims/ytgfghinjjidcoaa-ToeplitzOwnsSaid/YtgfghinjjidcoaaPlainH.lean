/- What both hashes compute: the sum of the key's windows at the input's bits. -/
import Derived.Test.YtgfghinjjidcoaaPlain
namespace Go.Proofs.Ytgfghinjjidcoaa.Pure
open Go.RowKit Go.Proofs.Ytgfghinjjidcoaa.PA Go.Proofs.YtgfghinjjidcoaaW.PrintWords Go.Proofs.YtgfghinjjidcoaaW.PrintLast Go.Proofs.YtgfghinjjidcoaaW.PrintMore Go.Proofs.Ytgfghinjjidcoaa.Util
set_option linter.unusedVariables false
set_option linter.unusedSimpArgs false

/-- A hash by definition: its error, if the key or the input is of no size that may be. -/
def hashV (key inp : List Int) : Int × Int := if key.length = 40 ∧ inp.length ≤ 36 then ((hf key inp (8 * inp.length) : Nat), 0) else (0, 3)

theorem l2_ev (key inp : List Int) (hk : key.length = 40) (ok : oct key) (oi : oct inp) (hi : inp.length ≤ 36) (i : Nat) (hlt : i < inp.length) (r : Int × Int)
    (h : Ev (fun k => toeplitz_Hash.l1 k key (wn key (8 * (i + 1)) 64 : Nat) (hf key inp (8 * (i + 1)) : Nat) inp (inp.length : Int) ((i + 1 : Nat) : Int)) r) :
    ∀ (d j : Nat), j + d = 8 → Ev (fun k => toeplitz_Hash.l2 k key (wn key (8 * i) 64 : Nat) (hf key inp (8 * i + j) : Nat) (i : Int) (rd inp (i : Int)) inp (inp.length : Int) (i : Int) (j : Int)) r := by
  intro d
  induction d with
  | zero =>
    intro j hj
    obtain rfl : j = 8 := by omega
    refine evStep 0 (fun k _ => ?_) h
    have hb := rd_oct ok ((i : Int) + 8)
    have hw := wn_lt key (8 * i) 64
    have hn := win_next ok i
    simp only [toeplitz_Hash.l2]
    rw [if_neg (by omega), wrap_id (x := (i : Int) + 8) (by omega) (by omega), wrap_id (x := (i : Int) + 1) (by omega) (by omega)]
    have e8 : 8 * (i + 1) = 8 * i + 8 := by omega
    have ei : ((i + 1 : Nat) : Int) = (i : Int) + 1 := by simp
    have ej : ((i + 8 : Nat) : Int) = (i : Int) + 8 := by simp
    rw [ei]
    by_cases hl : (i : Int) + 8 < (key.length : Int)
    · rw [if_pos hl, if_pos (by omega)]
      have ew : bits .or .u64 (IntKind.u64.wrap ((wn key (8 * i) 64 : Nat) * 256 : Int)) (IntKind.u64.wrap (rd key ((i : Int) + 8))) = (wn key (8 * (i + 1)) 64 : Nat) := by
        rw [wrap_u64, wrap_u64, Int.emod_eq_of_lt hb.1 (by omega)]
        have e1 : ((wn key (8 * i) 64 : Nat) * 256 : Int) % 18446744073709551616 = ((wn key (8 * i) 64 : Nat) : Int) % 72057594037927936 * 256 := by omega
        rw [e1, or64 _ _ (by omega) (by omega) hb.1 hb.2, hn, ej, ← e1]
      rw [ew, e8]
    · rw [if_neg hl]
      have ew : IntKind.u64.wrap ((wn key (8 * i) 64 : Nat) * 256 : Int) = (wn key (8 * (i + 1)) 64 : Nat) := by
        rw [wrap_u64, hn, rd_out (i + 8) (by omega)]
        omega
      rw [ew, e8]
  | succ d ih =>
    intro j hj
    refine evStep 0 (fun k _ => ?_) (ih (j + 1) (by omega))
    have hb := rd_oct oi (i : Int)
    have hkb : kb inp (8 * i + j) = (rd inp (i : Nat)).toNat / 2 ^ (7 - j) % 2 := kb_at inp i j (by omega)
    have ht := test_bit (rd inp (i : Int)) hb.1 hb.2 j (by omega)
    have ej : ((j + 1 : Nat) : Int) = (j : Int) + 1 := by simp
    simp only [toeplitz_Hash.l2]
    rw [if_pos (by omega), if_pos (by omega), wrap_id (x := (j : Int) + 1) (by omega) (by omega), ej]
    by_cases c : bits .and .u8 (shl .u8 (rd inp (i : Int)) (j : Int)) 128 = 0
    · rw [if_pos c]
      have : kb inp (8 * i + j) = 0 := by rw [hkb]; exact ht.1 c
      rw [← Nat.add_assoc, hf, if_pos this]
    · rw [if_neg c]
      have : ¬ kb inp (8 * i + j) = 0 := by rw [hkb]; exact fun e => c (ht.2 e)
      rw [← Nat.add_assoc, hf, if_neg this, win_cut key (8 * i) j (by omega), xor32 _ _ (hf_lt _ _ _) (wn_lt _ _ 32)]

theorem l1_ev (key inp : List Int) (hk : key.length = 40) (ok : oct key) (oi : oct inp) (hi : inp.length ≤ 36) :
    ∀ (d i : Nat), i + d = inp.length → Ev (fun k => toeplitz_Hash.l1 k key (wn key (8 * i) 64 : Nat) (hf key inp (8 * i) : Nat) inp (inp.length : Int) (i : Int)) ((hf key inp (8 * inp.length) : Nat), 0) := by
  intro d
  induction d with
  | zero =>
    intro i h
    obtain rfl : i = inp.length := by omega
    refine evEnd 1 (fun k hk => ?_)
    obtain ⟨m, rfl⟩ : ∃ m, k = m + 1 := ⟨k - 1, by omega⟩
    simp only [toeplitz_Hash.l1]
    rw [if_neg (by omega)]
  | succ d ih =>
    intro i h
    refine evStep 0 (fun k _ => ?_) (l2_ev key inp hk ok oi hi i (by omega) _ (ih (i + 1) (by omega)) 8 0 rfl)
    simp only [toeplitz_Hash.l1]
    rw [if_pos (by omega), if_pos (by omega), if_pos (by omega)]
    rfl
theorem l0_ev (key inp : List Int) (hk : key.length = 40) (ok : oct key) (oi : oct inp) (hi : inp.length ≤ 36) :
    ∀ (d i : Nat), i + d = 8 → Ev (fun k => toeplitz_Hash.l0 k key inp (wn key 0 (8 * i) : Nat) (key.take 8) ((key.take 8).length : Int) (i : Int)) ((hf key inp (8 * inp.length) : Nat), 0) := by
  have hl : (key.take 8).length = 8 := by rw [List.length_take]; omega
  intro d
  induction d with
  | zero =>
    intro i h
    obtain rfl : i = 8 := by omega
    refine evStep 0 (fun k _ => ?_) (l1_ev key inp hk ok oi hi inp.length 0 (by omega))
    simp only [toeplitz_Hash.l0]
    rw [if_neg (by rw [hl]; decide)]
    rfl
  | succ d ih =>
    intro i h
    refine evStep 0 (fun k _ => ?_) (ih (i + 1) (by omega))
    have hb := rd_oct ok (i : Int)
    have hr : rd (key.take 8) (i : Int) = rd key (i : Int) := by
      unfold rd
      simp only [List.getD_eq_getElem?_getD, Int.toNat_natCast]
      rw [List.getElem?_take, if_pos (by omega)]
    have hw := wn_lt key 0 (8 * i)
    have hp : 2 ^ (8 * i) ≤ 2 ^ 56 := Nat.pow_le_pow_right (by decide) (by omega)
    have hs : wn key 0 (8 * (i + 1)) = wn key 0 (8 * i) * 2 ^ 8 + wn key (8 * i) 8 := by
      have := wn_split key 0 (8 * i) 8
      rw [Nat.zero_add] at this
      exact this
    rw [wn_byte ok] at hs
    simp only [toeplitz_Hash.l0]
    rw [hl, if_pos (by omega), if_pos (by omega), if_pos (by omega), hr, wrap_id (x := (i : Int) + 1) (by omega) (by omega)]
    have ei : ((i + 1 : Nat) : Int) = (i : Int) + 1 := by simp
    have ew : bits .or .u64 (IntKind.u64.wrap ((wn key 0 (8 * i) : Nat) * 256 : Int)) (IntKind.u64.wrap (rd key (i : Int))) = (wn key 0 (8 * (i + 1)) : Nat) := by
      rw [wrap_u64, wrap_u64, Int.emod_eq_of_lt hb.1 (by omega), Int.emod_eq_of_lt (by omega) (by omega), or64 _ _ (by omega) (by omega) hb.1 hb.2, hs]
      omega
    rw [ew, ei]
theorem hash_ev (key inp : List Int) (ok : oct key) (oi : oct inp) : Ev (fun k => toeplitz_Hash.f k key inp) (hashV key inp) := by
  unfold hashV
  by_cases hk : key.length = 40
  · by_cases hi : inp.length ≤ 36
    · rw [if_pos ⟨hk, hi⟩]
      refine evStep 0 (f := fun k => toeplitz_Hash.l0 k key inp (wn key 0 (8 * 0) : Nat) (key.take 8) ((key.take 8).length : Int) ((0 : Nat) : Int)) (fun k _ => ?_) (l0_ev key inp hk ok oi hi 8 0 rfl)
      show toeplitz_Hash.f (k + 1) key inp = _
      unfold toeplitz_Hash.f
      rw [if_pos (by omega), decide_eq_false (by omega)]
      simp only [toeplitz_Hash.j0]
      rw [if_neg (by decide), if_pos (by omega)]
      rfl
    · rw [if_neg (by omega)]
      refine evEnd 1 (fun k hk' => ?_)
      obtain ⟨m, rfl⟩ : ∃ m, k = m + 1 := ⟨k - 1, by omega⟩
      unfold toeplitz_Hash.f
      rw [if_pos (by omega), decide_eq_true (by omega)]
      simp only [toeplitz_Hash.j0]
      first | rw [if_pos rfl] | rw [if_pos trivial]
  · rw [if_neg (by omega)]
    refine evEnd 1 (fun k hk' => ?_)
    obtain ⟨m, rfl⟩ : ∃ m, k = m + 1 := ⟨k - 1, by omega⟩
    unfold toeplitz_Hash.f
    rw [if_neg (by omega)]
    simp only [toeplitz_Hash.j0]
    first | rw [if_pos rfl] | rw [if_pos trivial]

theorem rbit (l : List Int) (ol : oct l) (a : Nat) (h : a < 8 * l.length) (hs : l.length ≤ 1000) : stopcockref07_bit.f l (a : Int) = some ((kb l a : Nat) : Int) := by
  have hb := rd_oct ol ((a / 8 : Nat) : Int)
  have e1 : Int.tdiv (a : Int) 8 = ((a / 8 : Nat) : Int) := by rw [tdiv_pos (by omega)]; omega
  have e2 : Int.tmod (a : Int) 8 = ((a % 8 : Nat) : Int) := by rw [tmod_pos (by omega)]; omega
  unfold stopcockref07_bit.f
  rw [e1, e2, wrap_id (x := ((a / 8 : Nat) : Int)) (by omega) (by omega), wrap_id (x := 7 - ((a % 8 : Nat) : Int)) (by omega) (by omega)]
  rw [if_pos (by omega), if_pos (by omega), if_pos (by omega)]
  have h7 : (7 : Int) - ((a % 8 : Nat) : Int) = ((7 - a % 8 : Nat) : Int) := by omega
  have hsh : shr .u8 (rd l ((a / 8 : Nat) : Int)) ((7 - a % 8 : Nat) : Int) = (((rd l ((a / 8 : Nat) : Int)).toNat / 2 ^ (7 - a % 8) : Nat) : Int) := by
    have := shr_all ⟨(rd l ((a / 8 : Nat) : Int)).toNat, by omega⟩ ⟨7 - a % 8, by omega⟩
    rw [← this]
    congr 1
    simp only
    omega
  have hle : (rd l ((a / 8 : Nat) : Int)).toNat / 2 ^ (7 - a % 8) ≤ (rd l ((a / 8 : Nat) : Int)).toNat := Nat.div_le_self _ _
  have hkb : kb l a = (rd l ((a / 8 : Nat) : Int)).toNat / 2 ^ (7 - a % 8) % 2 := rfl
  rw [h7, hsh, hkb]
  generalize (rd l ((a / 8 : Nat) : Int)).toNat / 2 ^ (7 - a % 8) = q at hle ⊢
  rw [Int.emod_eq_of_lt (by omega) (by omega), and32b _ (by omega) (by omega)]
  simp
theorem rl1_ev (key inp : List Int) (hk : key.length = 40) (ok : oct key) (h : Int) (a : Nat) (ha : a < 288) (r : Int × Int)
    (hn : Ev (fun k => stopcockref07_Hash.l0 k key inp (bits .xor .u32 h (wn key a 32 : Nat)) ((a + 1 : Nat) : Int)) r) :
    ∀ (d j : Nat), j + d = 32 → Ev (fun k => stopcockref07_Hash.l1 k key inp h (a : Int) (wn key a j : Nat) (j : Int)) r := by
  intro d
  induction d with
  | zero =>
    intro j hj
    obtain rfl : j = 32 := by omega
    refine evStep 0 (fun k _ => ?_) hn
    simp only [stopcockref07_Hash.l1]
    rw [if_neg (by omega), wrap_id (x := (a : Int) + 1) (by omega) (by omega)]
    rfl
  | succ d ih =>
    intro j hj
    refine evStep 0 (fun k _ => ?_) (ih (j + 1) (by omega))
    have hw := wn_lt key a j
    have hp : 2 ^ j ≤ 2 ^ 31 := Nat.pow_le_pow_right (by decide) (by omega)
    have hb := kb_lt key (a + j)
    simp only [stopcockref07_Hash.l1]
    rw [if_pos (by omega), wrap_id (x := (a : Int) + (j : Int)) (by omega) (by omega), wrap_id (x := (j : Int) + 1) (by omega) (by omega)]
    rw [show (a : Int) + (j : Int) = ((a + j : Nat) : Int) by simp, rbit key ok (a + j) (by omega) (by omega), Option.bind_some]
    rw [Int.emod_eq_of_lt (by omega) (by omega), or32b _ _ (by omega) (by omega) (by omega) (by omega)]
    have ew : (wn key a (j + 1) : Nat) = 2 * wn key a j + kb key (a + j) := rfl
    rw [ew]
    congr 1
    · omega
theorem rl0_ev (key inp : List Int) (hk : key.length = 40) (ok : oct key) (oi : oct inp) (hi : inp.length ≤ 36) :
    ∀ (d a : Nat), a + d = 8 * inp.length → Ev (fun k => stopcockref07_Hash.l0 k key inp (hf key inp a : Nat) (a : Int)) ((hf key inp (8 * inp.length) : Nat), 0) := by
  intro d
  induction d with
  | zero =>
    intro a h
    obtain rfl : a = 8 * inp.length := by omega
    refine evEnd 1 (fun k hk => ?_)
    obtain ⟨m, rfl⟩ : ∃ m, k = m + 1 := ⟨k - 1, by omega⟩
    simp only [stopcockref07_Hash.l0]
    rw [wrap_id (x := 8 * (inp.length : Int)) (by omega) (by omega), if_neg (by omega)]
  | succ d ih =>
    intro a h
    have ih' := ih (a + 1) (by omega)
    rw [hf] at ih'
    by_cases c : kb inp a = 0
    · rw [if_pos c] at ih'
      refine evStep 0 (fun k _ => ?_) ih'
      simp only [stopcockref07_Hash.l0]
      rw [wrap_id (x := 8 * (inp.length : Int)) (by omega) (by omega), if_pos (by omega), rbit inp oi a (by omega) (by omega)]
      simp only [Option.bind_some]
      rw [if_pos (by omega), wrap_id (x := (a : Int) + 1) (by omega) (by omega)]
      rfl
    · rw [if_neg c] at ih'
      rw [← xor32 _ _ (hf_lt _ _ _) (wn_lt _ _ 32)] at ih'
      refine evStep 0 (fun k _ => ?_) (rl1_ev key inp hk ok _ a (by omega) _ ih' 32 0 rfl)
      simp only [stopcockref07_Hash.l0]
      rw [wrap_id (x := 8 * (inp.length : Int)) (by omega) (by omega), if_pos (by omega), rbit inp oi a (by omega) (by omega)]
      simp only [Option.bind_some]
      rw [if_neg (by omega)]
      rfl
theorem rhash_ev (key inp : List Int) (ok : oct key) (oi : oct inp) : Ev (fun k => stopcockref07_Hash.f k key inp) (hashV key inp) := by
  unfold hashV
  by_cases hk : key.length = 40
  · by_cases hi : inp.length ≤ 36
    · rw [if_pos ⟨hk, hi⟩]
      refine evStep 0 (f := fun k => stopcockref07_Hash.l0 k key inp (hf key inp 0 : Nat) ((0 : Nat) : Int)) (fun k _ => ?_) (rl0_ev key inp hk ok oi hi (8 * inp.length) 0 (by omega))
      show stopcockref07_Hash.f (k + 1) key inp = _
      unfold stopcockref07_Hash.f
      rw [if_pos (by omega), decide_eq_false (by omega)]
      simp only [stopcockref07_Hash.j0]
      rw [if_neg (by decide)]
      rfl
    · rw [if_neg (by omega)]
      refine evEnd 1 (fun k hk' => ?_)
      obtain ⟨m, rfl⟩ : ∃ m, k = m + 1 := ⟨k - 1, by omega⟩
      unfold stopcockref07_Hash.f
      rw [if_pos (by omega), decide_eq_true (by omega)]
      simp only [stopcockref07_Hash.j0]
      first | rw [if_pos rfl] | rw [if_pos trivial]
  · rw [if_neg (by omega)]
    refine evEnd 1 (fun k hk' => ?_)
    obtain ⟨m, rfl⟩ : ∃ m, k = m + 1 := ⟨k - 1, by omega⟩
    unfold stopcockref07_Hash.f
    rw [if_neg (by omega)]
    simp only [stopcockref07_Hash.j0]
    first | rw [if_pos rfl] | rw [if_pos trivial]
end Go.Proofs.Ytgfghinjjidcoaa.Pure
