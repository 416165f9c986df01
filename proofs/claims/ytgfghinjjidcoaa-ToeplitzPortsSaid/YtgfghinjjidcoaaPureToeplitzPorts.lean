/- The port that toeplitz chooses is the page's: for all keys, tables and wants. -/
import Derived.Test.YtgfghinjjidcoaaPlainHB
namespace Go.Proofs.Ytgfghinjjidcoaa.PureB
open Go.RowKit Go.Proofs.Ytgfghinjjidcoaa.PB Go.Proofs.Ytgfghinjjidcoaa.Pure Go.Proofs.YtgfghinjjidcoaaW.PrintWords Go.Proofs.YtgfghinjjidcoaaW.PrintLast Go.Proofs.YtgfghinjjidcoaaW.PrintMore Go.Proofs.Ytgfghinjjidcoaa.Util
set_option linter.unusedVariables false
set_option linter.unusedSimpArgs false

theorem wf32 {x : Int} (h : (Lit.int .u32 x).wf = true) : 0 ≤ x ∧ x ≤ 4294967295 := by
  simp [Lit.wf, IntKind.min, IntKind.max, IntKind.bits, IntKind.signed] at h
  omega
theorem wf16 {x : Int} (h : (Lit.int .u16 x).wf = true) : 0 ≤ x ∧ x ≤ 65535 := by
  simp [Lit.wf, IntKind.min, IntKind.max, IntKind.bits, IntKind.signed] at h
  omega
theorem okl_of {l : List Int} (h : oct l) : Hand.okl l = true := List.all_eq_true.2 fun x hx => decide_eq_true (h x hx)
theorem wrap_u16 (n : Int) : IntKind.u16.wrap n = n % 65536 := by simp [IntKind.wrap, IntKind.bits, IntKind.signed]
theorem lor_top (y : Nat) (h : y < 65536) : y ||| 32768 = 32768 + y % 32768 := by
  have h1 : 2 ^ 15 * 1 + y % 32768 = 2 ^ 15 * 1 ||| y % 32768 := Nat.two_pow_add_eq_or_of_lt (by omega) 1
  by_cases c : y < 32768
  · have e : y % 32768 = y := by omega
    rw [e] at h1 ⊢
    rw [Nat.or_comm]
    exact h1.symm
  · have e : y = 2 ^ 15 * 1 + y % 32768 := by omega
    have e2 : y = 2 ^ 15 * 1 ||| y % 32768 := e.trans h1
    generalize hz : y % 32768 = z at *
    rw [e2, Nat.or_assoc, Nat.or_comm z, ← Nat.or_assoc, show (32768 : Nat) = 2 ^ 15 * 1 by decide, Nat.or_self]
    omega
theorem pAt_eq (fr : Int) (h0 : 0 ≤ fr) (i : Nat) : Hand.pAt fr (i : Int) = 32768 + (fr + i) % 32768 := by
  unfold Hand.pAt
  rw [wrap_u16]
  have hy : 0 ≤ (fr + i) % 65536 ∧ (fr + i) % 65536 < 65536 := by omega
  have hz : (fr + i) % 65536 % 32768 = (fr + i) % 32768 := by omega
  generalize (fr + (i : Int)) % 65536 = y at hy hz ⊢
  rw [← hz]
  obtain ⟨n, rfl⟩ := Int.eq_ofNat_of_zero_le hy.1
  rw [show (32768 : Int) = ((32768 : Nat) : Int) from rfl, (bits_nat .u16 16 (by decide) (fun n a b => by rw [wrap_u16]; omega) n 32768 (by omega) (by decide)).2, lor_top n (by omega)]
  omega
theorem ref_at (fr : Int) (h0 : 32768 ≤ fr) (h1 : fr ≤ 65535) (i : Nat) (hi : i < 32768) : IntKind.u16.wrap (wrap64 (32768 + (Int.tmod (wrap64 ((wrap64 ((wrap64 (fr)) - 32768)) + (i : Int))) 32768))) = Hand.pAt fr (i : Int) := by
  rw [pAt_eq fr (by omega), wrap_id (x := fr) (by omega) (by omega), wrap_id (x := fr - 32768) (by omega) (by omega), wrap_id (x := fr - 32768 + (i : Int)) (by omega) (by omega), tmod_pos (by omega), wrap_id (by omega) (by omega), wrap_u16]
  omega
theorem hash_bd (key inp : List Int) : 0 ≤ (hashV key inp).1 ∧ (hashV key inp).1 ≤ 4294967295 := by
  unfold hashV
  have := hf_lt key inp (8 * inp.length)
  split
  · show 0 ≤ ((hf key inp (8 * inp.length) : Nat) : Int) ∧ ((hf key inp (8 * inp.length) : Nat) : Int) ≤ 4294967295
    omega
  · exact ⟨by decide, by decide⟩
theorem four_oct (x : Int) (h0 : 0 ≤ x) (h1 : x ≤ 4294967295) : oct (Hand.four x) := Hand.four_oct x h0 h1
theorem tup_oct (re lo x : Int) (he0 : 0 ≤ re) (he1 : re ≤ 4294967295) (hl0 : 0 ≤ lo) (hl1 : lo ≤ 4294967295) (h0 : 0 ≤ x) (h1 : x ≤ 4294967295) : oct (Hand.four re ++ Hand.four lo ++ Hand.four x) := by
  intro y hy
  rcases List.mem_append.1 hy with h | h
  · rcases List.mem_append.1 h with h | h
    · exact four_oct re he0 he1 y h
    · exact four_oct lo hl0 hl1 y h
  · exact four_oct x h0 h1 y h
theorem rport_loop (key tb : List Int) (lo re rp sh fr : Int) (ok : oct key) (hl : tb.length = 128) (hf0 : 32768 ≤ fr) (hf1 : fr ≤ 65535)
    (hl0 : 0 ≤ lo) (hl1 : lo ≤ 4294967295) (he0 : 0 ≤ re) (he1 : re ≤ 4294967295) (hp0 : 0 ≤ rp) (hp1 : rp ≤ 65535) :
    ∀ (d i : Nat), i + d = Hand.mP → (∀ j, j < i → Hand.goodP key tb lo re rp sh (Hand.pAt fr (j : Nat)) = false) → Ev (fun k => stopcockref07_Port.l0 k key tb lo re rp sh fr (i : Int)) (Hand.portR Hand.mP key tb lo re rp sh fr) := by
  intro d
  induction d with
  | zero =>
    intro i h hall
    obtain rfl : i = Hand.mP := by omega
    have hn : Hand.portR Hand.mP key tb lo re rp sh fr = (0, 71) := by
      unfold Hand.portR
      rw [List.find?_eq_none.2 (fun j hj => by simp [hall j (List.mem_range.1 hj)])]
    rw [hn]
    refine evEnd 1 (fun k hk => ?_)
    obtain ⟨m, rfl⟩ : ∃ m, k = m + 1 := ⟨k - 1, by omega⟩
    simp only [stopcockref07_Port.l0]
    rw [if_neg (by unfold Hand.mP; omega)]
  | succ d ih =>
    intro i h hall
    have hi : i < 32768 := by unfold Hand.mP at h; omega
    have hpb := Hand.pAt_bd fr i
    obtain ⟨p, hp⟩ : ∃ p, Hand.pAt fr (i : Nat) = p := ⟨_, rfl⟩
    have oL := tup_oct re lo (rp * 65536 + p) he0 he1 hl0 hl1 (by omega) (by omega)
    obtain ⟨K1, e1⟩ := rtup_ev re lo rp p he0 he1 hl0 hl1 hp0 hp1 (by omega) (by omega)
    obtain ⟨K2, e2⟩ := rhash_ev key _ ok oL
    have hb := hash_bd key (Hand.four re ++ Hand.four lo ++ Hand.four (rp * 65536 + p))
    have hg : Hand.goodP key tb lo re rp sh p = (rd tb ((hashV key (Hand.four re ++ Hand.four lo ++ Hand.four (rp * 65536 + p))).1 % 128) == sh) := rfl
    generalize hLL : Hand.four re ++ Hand.four lo ++ Hand.four (rp * 65536 + p) = L at *
    by_cases c : rd tb ((hashV key L).1 % 128) = sh
    · have hgt : Hand.goodP key tb lo re rp sh p = true := by rw [hg]; simpa using c
      have hR : Hand.portR Hand.mP key tb lo re rp sh fr = (p, 0) := by
        unfold Hand.portR
        have hf : (List.range Hand.mP).find? (fun j => Hand.goodP key tb lo re rp sh (Hand.pAt fr (j : Nat))) = some i := by
          refine List.find?_eq_some_iff_getElem.2 ⟨by rw [hp]; exact hgt, i, by simp; omega, by simp, fun j hj => ?_⟩
          simp [hall j hj]
        rw [hf]
        simp only
        rw [hp]
      rw [hR]
      refine evEnd (K1 + K2 + 1) (fun k hk => ?_)
      obtain ⟨m, rfl⟩ : ∃ m, k = m + 1 := ⟨k - 1, by omega⟩
      simp only [stopcockref07_Port.l0]
      rw [if_pos (by omega), ref_at fr hf0 hf1 i hi, hp, show stopcockref07_Tuple.f m re lo rp p = _ from e1 m (by omega), Option.bind_some, show stopcockref07_Hash.f m key L = _ from e2 m (by omega), Option.bind_some, tmod_pos hb.1, if_pos (by omega), if_pos (by omega), if_pos c]
    · obtain ⟨K3, e3⟩ := ih (i + 1) (by omega) (fun j hj => by
        by_cases e : j = i
        · subst e; rw [hp, hg]; simpa using c
        · exact hall j (by omega))
      refine evEnd (K1 + K2 + K3 + 1) (fun k hk => ?_)
      obtain ⟨m, rfl⟩ : ∃ m, k = m + 1 := ⟨k - 1, by omega⟩
      simp only [stopcockref07_Port.l0]
      rw [if_pos (by omega), ref_at fr hf0 hf1 i hi, hp, show stopcockref07_Tuple.f m re lo rp p = _ from e1 m (by omega), Option.bind_some, show stopcockref07_Hash.f m key L = _ from e2 m (by omega), Option.bind_some, tmod_pos hb.1, if_pos (by omega), if_pos (by omega), if_neg c, wrap_id (x := (i : Int) + 1) (by omega) (by omega)]
      exact e3 m (by omega)
/-- What the port of the program is. -/
theorem port_eq (key tb : List Int) (lo re rp sh fr : Int) (ok : oct key) (hs : tb.length ≤ 140737488351232) (hf0 : 0 ≤ fr) (hf1 : fr ≤ 65535)
    (hl0 : 0 ≤ lo) (hl1 : lo ≤ 4294967295) (he0 : 0 ≤ re) (he1 : re ≤ 4294967295) (hp0 : 0 ≤ rp) (hp1 : rp ≤ 65535) :
    ∃ v, toeplitz_Port.f key tb lo re rp sh fr = some v ∧ Ev (fun k => stopcockref07_Port.f k key tb lo re rp sh fr) v ∧
      (v.2 = 0 → key.length = 40 ∧ toeplitz_checkTable.f tb = some 0 ∧ tb.length = 128 ∧ 32768 ≤ fr ∧ v = Hand.portR Hand.mP key tb lo re rp sh fr) ∧ (v.2 ≠ 0 → v.1 = 0) := by
  obtain ⟨c, e1, ⟨K, e2⟩, e3⟩ := check_ev tb hs
  have e1' : Hand.checkT tb = some c := e1
  unfold toeplitz_Port.f Hand.portF
  rw [if_pos ⟨⟨hl0, hl1⟩, ⟨he0, he1⟩, ⟨hp0, hp1⟩, hf1, okl_of ok⟩]
  by_cases hk : (key.length : Int) = 40
  · have hck : ∀ k, K ≤ k → stopcockref07_Check.f k key tb = some c := fun k h => by
      unfold stopcockref07_Check.f
      rw [if_pos hk, show stopcockref07_CheckTable.f k tb = _ from e2 k h]
      rfl
    rw [if_pos hk, e1', Option.bind_some]
    by_cases hc : c ≠ 0
    · rw [if_pos hc]
      refine ⟨(0, c), rfl, evEnd K (fun k h => ?_), fun h => absurd h hc, fun _ => rfl⟩
      unfold stopcockref07_Port.f
      rw [hck k h, Option.bind_some, if_neg hc]
    · rw [if_neg hc]
      have hc0 : c = 0 := by omega
      by_cases hx : sh < 0 ∨ 16 ≤ sh ∨ fr < 32768
      · rw [if_pos hx]
        refine ⟨(0, 4), rfl, evEnd (K + 1) (fun k h => ?_), fun h => absurd h (by decide), fun _ => rfl⟩
        obtain ⟨m, rfl⟩ : ∃ m, k = m + 1 := ⟨k - 1, by omega⟩
        unfold stopcockref07_Port.f
        rw [hck _ (by omega), Option.bind_some, if_pos hc0]
        simp only [stopcockref07_Port.j0]
        by_cases h1 : sh < 0
        · rw [if_pos h1]; simp
        · rw [if_neg h1]
          by_cases h2 : sh ≥ 16
          · rw [if_pos h2]; simp
          · rw [if_neg h2, decide_eq_true (by omega)]; simp
      · rw [if_neg hx]
        have hl := (e3 hc0).1
        refine ⟨_, rfl, ?_, fun _ => ⟨by omega, by rw [e1, hc0], hl, by omega, rfl⟩, ?_⟩
        · obtain ⟨K2, e4⟩ := rport_loop key tb lo re rp sh fr ok hl (by omega) hf1 hl0 hl1 he0 he1 hp0 hp1 Hand.mP 0 (by omega) (fun j hj => by omega)
          refine evEnd (K + K2 + 1) (fun k h => ?_)
          obtain ⟨m, rfl⟩ : ∃ m, k = m + 1 := ⟨k - 1, by omega⟩
          unfold stopcockref07_Port.f
          rw [hck _ (by omega), Option.bind_some, if_pos hc0, if_neg (by omega), if_neg (by omega), decide_eq_false (by omega)]
          simp only [stopcockref07_Port.j0]
          rw [if_neg (by decide)]
          exact e4 m (by omega)
        · unfold Hand.portR
          split
          · intro h; exact absurd rfl h
          · intro _; rfl
  · rw [if_neg hk, Option.bind_some, if_pos (by decide)]
    refine ⟨(0, 3), rfl, evEnd 0 (fun k h => ?_), fun h => absurd h (by decide), fun _ => rfl⟩
    unfold stopcockref07_Port.f stopcockref07_Check.f
    rw [if_neg hk]
    rfl
theorem allPorts : stopcocklaw07_ToeplitzPorts.Pure := by
  intro key tb lo re rp sh fr hk1 hk2 ht1 ht2 hlo hre hrp hsh hfr
  have b1 := wf32 hlo
  have b2 := wf32 hre
  have b3 := wf16 hrp
  have b4 := wf16 hfr
  obtain ⟨v, e1, ⟨K1, e2⟩, _⟩ := port_eq key tb lo re rp sh fr (oct_wf hk2) (by omega) b4.1 b4.2 b1.1 b1.2 b2.1 b2.2 b3.1 b3.2
  obtain ⟨K2, e3⟩ := alive_ev
  refine ⟨K1 + K2, ?_⟩
  unfold stopcocklaw07_ToeplitzPorts.f
  rw [e1, Option.bind_some, show stopcockref07_Port.f (K1 + K2) key tb lo re rp sh fr = _ from e2 _ (by omega), Option.bind_some]
  simp only [stopcocklaw07_num.f, Option.bind_some]
  rw [if_pos trivial, if_pos trivial, show stopcocklaw07_alive.f (K1 + K2) = _ from e3 _ (by omega)]
  rfl
end Go.Proofs.Ytgfghinjjidcoaa.PureB
namespace Go.Proofs.Ytgfghinjjidcoaa.Pure
theorem ToeplitzPorts : PB.stopcocklaw07_ToeplitzPorts.Pure := PureB.allPorts
end Go.Proofs.Ytgfghinjjidcoaa.Pure
