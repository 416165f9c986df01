/- Octets of numbers, read back and built: plain laws; the printed functions of ether, as such. -/
import Derived.Test.YthfhljdegbcpmaaPAx
import Derived.Test.YthfhljdegbcpmaaUtil
import Derived.Laws.BitsLemmas
namespace Go.Proofs.Ythfhljdegbcpmaa.Pure
open Go.RowKit Go.Proofs.Ythfhljdegbcpmaa.PA Go.Proofs.YthfhljdegbcpmaaW.PrintWords Go.Proofs.YthfhljdegbcpmaaW.PrintLast Go.Proofs.YthfhljdegbcpmaaW.PrintMore Go.Proofs.Ythfhljdegbcpmaa.Util Go.Proofs.Ythfhljdegbcpmaa.Hand
set_option linter.unusedVariables false
set_option linter.unusedSimpArgs false

theorem oct_wf {l : List Int} (h : ∀ x ∈ l, (Lit.int .u8 x).wf = true) : oct l := fun x hx => by
  have := h x hx
  simp [Lit.wf, IntKind.min, IntKind.max, IntKind.bits, IntKind.signed] at this
  omega
theorem wfu64 {x : Int} (h : (Lit.int .u64 x).wf = true) : 0 ≤ x ∧ x ≤ 18446744073709551615 := by
  simp [Lit.wf, IntKind.min, IntKind.max, IntKind.bits, IntKind.signed] at h
  omega
theorem wfu32 {x : Int} (h : (Lit.int .u32 x).wf = true) : 0 ≤ x ∧ x ≤ 4294967295 := by
  simp [Lit.wf, IntKind.min, IntKind.max, IntKind.bits, IntKind.signed] at h
  omega
theorem lows_cons (n : Int) : ∀ k, lows n (k + 1) = n % 256 :: lows (n / 256) k
  | 0 => by simp [lows]
  | k + 1 => by
    rw [lows, lows_cons n k, lows, List.cons_append, Int.pow_succ, Int.mul_comm, Int.ediv_ediv_of_nonneg (by decide)]
theorem hi_snoc (n : Int) (k : Nat) : hi n (k + 1) = hi (n / 256) k ++ [n % 256] := by
  unfold hi; rw [lows_cons, List.reverse_cons]
theorem hi_oct : ∀ (k : Nat) (n : Int), oct (hi n k)
  | 0, n => fun x hx => by simp [hi, lows] at hx
  | k + 1, n => fun x hx => by
    rw [hi_snoc, List.mem_append] at hx
    rcases hx with hx | hx
    · exact hi_oct k _ x hx
    · obtain rfl := List.mem_singleton.1 hx; omega
theorem big_hi : ∀ (k : Nat) (n : Int), 0 ≤ n → n < 256 ^ k → big (hi n k) = n
  | 0, n, h0, h1 => by
    have h : n < 1 := h1
    obtain rfl : n = 0 := by omega
    rfl
  | k + 1, n, h0, h1 => by
    rw [Int.pow_succ] at h1
    rw [hi_snoc, big_snoc, big_hi k (n / 256) (by omega) (Int.ediv_lt_of_lt_mul (by decide) h1)]
    omega
theorem hi_big (l : List Int) (h : oct l) : hi (big l) l.length = l := by
  obtain ⟨n, hn⟩ : ∃ n, l.length = n := ⟨_, rfl⟩
  induction n generalizing l with
  | zero => obtain rfl := List.eq_nil_of_length_eq_zero hn; rfl
  | succ n ih =>
    obtain ⟨l', x, rfl⟩ : ∃ l' x, l = l' ++ [x] := ⟨l.dropLast, l.getLast (by intro e; subst e; simp at hn), (List.dropLast_concat_getLast _).symm⟩
    have hl : l'.length = n := by simpa using hn
    have hx := h x (by simp)
    have ih' := ih l' (fun y hy => h y (by simp [hy])) hl
    rw [hl] at ih'
    rw [hn, hi_snoc, big_snoc, show (big l' * 256 + x) / 256 = big l' by omega, show (big l' * 256 + x) % 256 = x by omega, ih']
theorem octets_ev (n : Int) (s : Nat) (h1 : 1 ≤ s) (h8 : s ≤ 8) : Ev (fun k => stopcockref01_Octets.f k n (s : Int)) (hi n s) := by
  have h : ∀ (i : Nat) (n : Int) (t : List Int), i ≤ 8 → Ev (fun k => stopcockref01_Octets.l0 k n (List.replicate i 0 ++ t) ((i : Int) - 1)) (hi n i ++ t) := by
    intro i
    induction i with
    | zero =>
      intro n t _
      refine evEnd 1 (fun k hk => ?_)
      obtain ⟨m, rfl⟩ : ∃ m, k = m + 1 := ⟨k - 1, by omega⟩
      simp only [stopcockref01_Octets.l0]
      rw [if_neg (by omega)]
      rfl
    | succ i ih =>
      intro n t h
      have ih' := ih (n / 256) (n % 256 :: t) (by omega)
      rw [show hi (n / 256) i ++ n % 256 :: t = hi n (i + 1) ++ t by rw [hi_snoc]; simp] at ih'
      refine evStep 0 (fun k _ => ?_) ih'
      simp only [stopcockref01_Octets.l0]
      rw [if_pos (by omega), if_pos (by omega), if_pos (by simp; omega), wrap_id (by omega) (by omega)]
      have e : (((i + 1 : Nat) : Int) - 1).toNat = i := by omega
      rw [e, show (((i + 1 : Nat) : Int) - 1 - 1) = (i : Int) - 1 by omega]
      congr 1
      rw [List.replicate_succ', List.append_assoc, List.set_append_right _ _ (by simp)]
      simp
  have := h s n [] h8
  simp only [List.append_nil] at this
  refine evSame 0 (fun k _ => ?_) this
  unfold stopcockref01_Octets.f
  rw [if_pos (by omega), if_pos (by omega), Int.toNat_natCast, wrap_id (by omega) (by omega)]
theorem or64 (x y : Int) (h0 : 0 ≤ x) (h1 : x < 72057594037927936) (h2 : 0 ≤ y) (h3 : y ≤ 255) : bits .or .u64 (x * 256) y = x * 256 + y :=
  bits_join .u64 64 (by decide) (fun n a b => by rw [wrap_u64]; omega) 8 (x * 256) y (by omega) (by omega) (by omega) h2 (by omega) (by omega)
theorem number_ev (l : List Int) (h : oct l) (h8 : l.length ≤ 8) : Ev (fun k => stopcockref01_Number.f k l) (big l) := by
  have hl : ∀ (d i : Nat), i + d = l.length → Ev (fun k => stopcockref01_Number.l0 k l (big (l.take i)) (i : Int)) (big l) := by
    intro d
    induction d with
    | zero =>
      intro i hi
      obtain rfl : i = l.length := by omega
      refine evEnd 1 (fun k hk => ?_)
      obtain ⟨m, rfl⟩ : ∃ m, k = m + 1 := ⟨k - 1, by omega⟩
      simp only [stopcockref01_Number.l0]
      rw [if_neg (by omega), List.take_of_length_le (Nat.le_refl _)]
    | succ d ih =>
      intro i hi
      refine evStep 0 (fun k _ => ?_) (ih (i + 1) (by omega))
      have hb := big_bd (l.take i) (fun y hy => h y (List.mem_of_mem_take hy))
      have hx := h (l[i]'(by omega)) (List.getElem_mem _)
      have ht : l.take (i + 1) = l.take i ++ [l[i]'(by omega)] := List.take_succ_eq_append_getElem (by omega)
      have hlen : (l.take i).length = i := by rw [List.length_take]; omega
      rw [hlen] at hb
      have hp := pow7 i (by omega)
      simp only [stopcockref01_Number.l0]
      rw [if_pos (by omega), if_pos (by omega), rd_get l i (by omega), ht, big_snoc, wrap_u64, wrap_u64, wrap_id (by omega) (by omega)]
      rw [Int.emod_eq_of_lt (by omega) (by omega), Int.emod_eq_of_lt (by omega) (by omega), or64 _ _ hb.1 (by omega) hx.1 hx.2]
      rfl
  exact hl l.length 0 (by omega)
theorem same_ev (l : List Int) (hs : l.length ≤ 140737488355328) : Ev (fun k => stopcockplain_SameBytes.f k l l) true := by
  have h : ∀ (d i : Nat), i + d = l.length → Ev (fun k => stopcockplain_SameBytes.l0 k l l (i : Int)) true := by
    intro d
    induction d with
    | zero =>
      intro i h
      refine evEnd 1 (fun k hk => ?_)
      obtain ⟨m, rfl⟩ : ∃ m, k = m + 1 := ⟨k - 1, by omega⟩
      simp only [stopcockplain_SameBytes.l0]
      rw [if_neg (by omega)]
    | succ d ih =>
      intro i h
      refine evStep 0 (fun k _ => ?_) (ih (i + 1) (by omega))
      simp only [stopcockplain_SameBytes.l0]
      rw [if_pos (by omega), if_pos (by omega), if_pos (by omega), if_pos trivial, wrap_id (by omega) (by omega)]
      rfl
  refine evSame 0 (fun k _ => ?_) (h l.length 0 (by omega))
  unfold stopcockplain_SameBytes.f
  rw [if_pos rfl]
  rfl
theorem spoil_ev (l : List Int) (hs : l.length ≤ 140737488355328) : ∃ l', Ev (fun k => stopcockplain_Spoil.f k l) l' := by
  have h : ∀ (d i : Nat) (l : List Int), i + d = l.length → l.length ≤ 140737488355328 → ∃ l', Ev (fun k => stopcockplain_Spoil.l0 k l (i : Int)) l' := by
    intro d
    induction d with
    | zero =>
      intro i l h hs
      refine ⟨l, evEnd 1 (fun k hk => ?_)⟩
      obtain ⟨m, rfl⟩ : ∃ m, k = m + 1 := ⟨k - 1, by omega⟩
      simp only [stopcockplain_Spoil.l0]
      rw [if_neg (by omega)]
    | succ d ih =>
      intro i l h hs
      obtain ⟨l', hl⟩ := ih (i + 1) (l.set (i : Int).toNat (Go.bits .xor .u8 (rd l (i : Int)) 85)) (by rw [List.length_set]; omega) (by rw [List.length_set]; omega)
      refine ⟨l', evStep 0 (fun k _ => ?_) hl⟩
      simp only [stopcockplain_Spoil.l0]
      rw [if_pos (by omega), if_pos (by omega), wrap_id (by omega) (by omega)]
      rfl
  exact h l.length 0 l (by omega) hs
theorem copy_eq (l : List Int) (hs : l.length ≤ 140737488355327) : stopcockplain_CopyBytes.f l = some l := by
  unfold stopcockplain_CopyBytes.f
  rw [if_pos (by simp; omega)]
  rfl
theorem put_eq (l : List Int) (n : Int) (s : Nat) (h0 : 0 ≤ n) (h1 : n < 256 ^ s) (h2 : 1 ≤ s) (h8 : s ≤ 8) (hl : l.length + s < 140737488355328) : ether_put.f l n s = some (l ++ hi n s) := put_f l n s h0 h1 h2 h8 hl
theorem alive_ev : Ev (fun k => stopcocklaw03_alive.f k) true := Ev.of stopcocklaw03_alive.mono (k := 60) (by decide +kernel)

/-- What a frame is built as. -/
def buildV (d s t : Int) (dat : List Int) : List Int × Int :=
  if 281474976710655 < d ∨ 281474976710655 < s ∨ t < 0 ∨ 65535 < t then ([], 4) else if 65521 < dat.length then ([], 5) else (hi d 6 ++ hi s 6 ++ hi t 2 ++ dat, 0)
theorem mx_gt (a b c : Int) : c < mx a b ↔ c < a ∨ c < b := by unfold mx; split <;> omega
theorem build_ev (d s t : Int) (dat : List Int) (hd : 0 ≤ d) (hs : 0 ≤ s) (hl : dat.length ≤ 140737488355327) : Ev (fun k => ether_Build.f k d s t dat) (buildV d s t dat) := by
  refine evEnd 2 (fun k hk => ?_)
  obtain ⟨m, rfl⟩ : ∃ m, k = m + 1 := ⟨k - 1, by omega⟩
  unfold buildV
  by_cases hb : 281474976710655 < d ∨ 281474976710655 < s ∨ t < 0 ∨ 65535 < t
  · rw [if_pos hb]
    unfold ether_Build.f
    have hj : ∀ b : Bool, b = true → ether_Build.j0 (m + 1) b d s t dat = some ([], 4) := fun b e => by subst e; simp [ether_Build.j0]
    by_cases h1 : mx d s > 281474976710655
    · rw [if_pos h1, hj _ rfl]
    · rw [if_neg h1]
      have h1' := mt (mx_gt d s _).2 h1
      by_cases h2 : t < 0
      · rw [if_pos h2, hj _ rfl]
      · rw [if_neg h2, hj _ (decide_eq_true (by omega))]
  · rw [if_neg hb]
    unfold ether_Build.f
    rw [if_neg (fun h => by have := (mx_gt d s _).1 h; omega), if_neg (by omega), decide_eq_false (by omega)]
    simp only [ether_Build.j0]
    rw [if_neg (by decide), wrap_id (by omega) (by omega)]
    by_cases h5 : 65521 < dat.length
    · rw [if_pos (by omega), if_pos h5]
    · rw [if_neg (by omega), if_neg h5]
      rw [show ether_put.f [] d 6 = _ from put_eq [] d 6 hd (by omega) (by decide) (by decide) (by decide), Option.bind_some, show ether_put.f ([] ++ hi d 6) s 6 = _ from put_eq _ s 6 hs (by omega) (by decide) (by decide) (by simp [hi_len]), Option.bind_some]
      rw [wrap_u64, Int.emod_eq_of_lt (by omega) (by omega), show ether_put.f ([] ++ hi d 6 ++ hi s 6) t 2 = _ from put_eq _ t 2 (by omega) (by omega) (by decide) (by decide) (by simp [hi_len]), Option.bind_some]
      rw [if_pos (by simp [hi_len]; omega)]
      simp
theorem rbuild_ev (d s t : Int) (dat : List Int) (hd : 0 ≤ d) (hs : 0 ≤ s) (hl : dat.length ≤ 140737488355327) : Ev (fun k => stopcockref03_Build.f k d s t dat) (buildV d s t dat) := by
  obtain ⟨K1, e1⟩ := octets_ev d 6 (by decide) (by decide)
  obtain ⟨K2, e2⟩ := octets_ev s 6 (by decide) (by decide)
  obtain ⟨K3, e3⟩ := octets_ev t 2 (by decide) (by decide)
  refine evEnd (K1 + K2 + K3 + 1) (fun k hk => ?_)
  obtain ⟨m, rfl⟩ : ∃ m, k = m + 1 := ⟨k - 1, by omega⟩
  unfold buildV
  by_cases hb : 281474976710655 < d ∨ 281474976710655 < s ∨ t < 0 ∨ 65535 < t
  · rw [if_pos hb]
    unfold stopcockref03_Build.f
    have hj : ∀ b : Bool, b = true → stopcockref03_Build.j0 (m + 1) b d s t dat = some ([], 4) := fun b e => by subst e; simp [stopcockref03_Build.j0]
    by_cases h1 : d > 281474976710655
    · rw [if_pos h1, hj _ rfl]
    · rw [if_neg h1]
      by_cases h3 : s > 281474976710655
      · rw [if_pos h3, hj _ rfl]
      · rw [if_neg h3]
        by_cases h2 : t < 0
        · rw [if_pos h2, hj _ rfl]
        · rw [if_neg h2, hj _ (decide_eq_true (by omega))]
  · rw [if_neg hb]
    unfold stopcockref03_Build.f
    rw [if_neg (by omega), if_neg (by omega), if_neg (by omega), decide_eq_false (by omega)]
    simp only [stopcockref03_Build.j0]
    rw [if_neg (by decide)]
    by_cases h5 : 65521 < dat.length
    · rw [if_pos (by omega), if_pos h5]
    · rw [if_neg (by omega), if_neg h5]
      rw [show stopcockref01_Octets.f m d 6 = _ from e1 m (by omega), Option.bind_some, show stopcockref01_Octets.f m s 6 = _ from e2 m (by omega), Option.bind_some]
      rw [if_pos (by simp [hi_len]), Option.bind_some, wrap_u64, Int.emod_eq_of_lt (by omega) (by omega), show stopcockref01_Octets.f m t 2 = _ from e3 m (by omega), Option.bind_some]
      rw [if_pos (by simp [hi_len]), Option.bind_some, if_pos (by simp [hi_len]; omega)]
end Go.Proofs.Ythfhljdegbcpmaa.Pure
