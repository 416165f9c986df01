/- The hash of toeplitz is linear: for all keys and inputs. -/
import Derived.Test.YtgfghinjjidcoaaPlainT
import Derived.Test.YtgfghinjjidcoaaPAx4
namespace Go.Proofs.Ytgfghinjjidcoaa.Pure
open Go.RowKit Go.Proofs.Ytgfghinjjidcoaa.PA Go.Proofs.YtgfghinjjidcoaaW.PrintWords Go.Proofs.YtgfghinjjidcoaaW.PrintLast Go.Proofs.YtgfghinjjidcoaaW.PrintMore Go.Proofs.Ytgfghinjjidcoaa.Util
set_option linter.unusedVariables false
set_option linter.unusedSimpArgs false

theorem xor8_all : ∀ (a b : Fin 256), bits .xor .u8 (a.val : Int) (b.val : Int) = ((a.val ^^^ b.val : Nat) : Int) := by decide +kernel
theorem xor8 (a b : Int) (h0 : 0 ≤ a) (h1 : a ≤ 255) (h2 : 0 ≤ b) (h3 : b ≤ 255) : bits .xor .u8 a b = ((a.toNat ^^^ b.toNat : Nat) : Int) := by
  have := xor8_all ⟨a.toNat, by omega⟩ ⟨b.toNat, by omega⟩
  rw [← this]
  congr 1 <;> simp only <;> omega
theorem bit_xor (a b n : Nat) : (a ^^^ b) / 2 ^ n % 2 = (a / 2 ^ n % 2 + b / 2 ^ n % 2) % 2 := by
  have h : ∀ z : Nat, z / 2 ^ n % 2 = (z.testBit n).toNat := fun z => by rw [Nat.testBit_eq_decide_div_mod_eq]; rcases Nat.mod_two_eq_zero_or_one (z / 2 ^ n) with e | e <;> simp [e]
  rw [h, h, h, Nat.testBit_xor]
  cases a.testBit n <;> cases b.testBit n <;> rfl
/-- Two inputs, octet by octet exclusive or. -/
theorem hf_xor (key a b c : List Int) (n : Nat) (hc : ∀ i, i < n → kb c i = (kb a i + kb b i) % 2) : hf key c n = hf key a n ^^^ hf key b n := by
  induction n with
  | zero => simp [hf]
  | succ n ih =>
    have h1 := ih (fun i hi => hc i (by omega))
    have h2 := hc n (by omega)
    have ha := kb_lt a n
    have hb := kb_lt b n
    rw [hf, hf, hf, h1, h2]
    generalize wn key n 32 = w
    generalize hf key a n = x
    generalize hf key b n = y
    rcases (by omega : kb a n = 0 ∨ kb a n = 1) with e | e <;> rcases (by omega : kb b n = 0 ∨ kb b n = 1) with e' | e' <;> simp only [e, e', Nat.reduceAdd, Nat.reduceMod, Nat.zero_add, Nat.add_zero, if_true, if_false, Nat.one_ne_zero, Nat.zero_mod] <;>
      (apply Nat.eq_of_testBit_eq; intro i; simp only [Nat.testBit_xor]; cases x.testBit i <;> cases y.testBit i <;> cases w.testBit i <;> rfl)
def xors (a b : List Int) (n : Nat) : List Int := (List.range n).map fun i : Nat => bits .xor .u8 (rd a (i : Int)) (rd b (i : Int))
theorem rd_xors (a b : List Int) (n i : Nat) (h : i < n) : rd (xors a b n) (i : Int) = bits .xor .u8 (rd a (i : Int)) (rd b (i : Int)) := by
  unfold xors
  show ((List.range n).map _).getD i 0 = _
  simp [List.getD_eq_getElem?_getD, h]
theorem rd_take (a : List Int) (n i : Nat) (h : i < n) : rd (a.take n) (i : Int) = rd a (i : Int) := by
  unfold rd
  simp only [List.getD_eq_getElem?_getD, Int.toNat_natCast]
  rw [List.getElem?_take, if_pos h]
theorem oct_take {a : List Int} (h : oct a) (n : Nat) : oct (a.take n) := fun x hx => h x (List.mem_of_mem_take hx)
theorem oct_xors {a b : List Int} (ha : oct a) (hb : oct b) (n : Nat) : oct (xors a b n) := by
  intro x hx
  unfold xors at hx
  obtain ⟨i, _, rfl⟩ := List.mem_map.1 hx
  have h1 := rd_oct ha (i : Int)
  have h2 := rd_oct hb (i : Int)
  rw [xor8 _ _ h1.1 h1.2 h2.1 h2.2]
  have : (rd a (i : Int)).toNat ^^^ (rd b (i : Int)).toNat < 2 ^ 8 := Nat.xor_lt_two_pow (by omega) (by omega)
  omega
theorem loop_ev (key a b : List Int) (ok : oct key) (oa : oct a) (ob : oct b) (n : Nat) (hn1 : n ≤ a.length) (hn2 : n ≤ b.length) (hn3 : n ≤ 36) (hs : a.length ≤ 140737488351232) :
    ∀ (d i : Nat), i + d = n → Ev (fun k => stopcocklaw07_ToeplitzLinear.l0 k key a b (n : Int) (xors a b i) (i : Int)) true := by
  intro d
  induction d with
  | zero =>
    intro i h
    obtain rfl : i = n := by omega
    obtain ⟨K1, e1⟩ := hash_ev key (a.take i) ok (oct_take oa i)
    obtain ⟨K2, e2⟩ := hash_ev key (b.take i) ok (oct_take ob i)
    obtain ⟨K3, e3⟩ := hash_ev key (xors a b i) ok (oct_xors oa ob i)
    refine evEnd (K1 + K2 + K3 + 1) (fun k hk => ?_)
    obtain ⟨m, rfl⟩ : ∃ m, k = m + 1 := ⟨k - 1, by omega⟩
    simp only [stopcocklaw07_ToeplitzLinear.l0]
    rw [if_neg (by omega), if_pos (by omega), if_pos (by omega), Int.toNat_natCast, show toeplitz_Hash.f m key (a.take i) = _ from e1 m (by omega), Option.bind_some, if_pos (by omega)]
    rw [show toeplitz_Hash.f m key (b.take i) = _ from e2 m (by omega), Option.bind_some, show toeplitz_Hash.f m key (xors a b i) = _ from e3 m (by omega), Option.bind_some]
    have l1 : (a.take i).length = i := by rw [List.length_take]; omega
    have l2 : (b.take i).length = i := by rw [List.length_take]; omega
    have l3 : (xors a b i).length = i := by simp [xors]
    unfold hashV
    rw [l1, l2, l3]
    by_cases hk : key.length = 40 ∧ i ≤ 36
    · rw [if_pos hk, if_pos hk, if_pos hk]
      simp only [stopcocklaw07_num.f, Option.bind_some]
      rw [if_pos trivial, if_pos trivial, if_pos trivial]
      rw [xor32 _ _ (hf_lt _ _ _) (hf_lt _ _ _), hf_xor key (a.take i) (b.take i) (xors a b i) (8 * i)]
      · simp
      · intro j hj
        have h1 := rd_oct oa ((j / 8 : Nat) : Int)
        have h2 := rd_oct ob ((j / 8 : Nat) : Int)
        unfold kb
        rw [rd_xors a b i (j / 8) (by omega), rd_take a i (j / 8) (by omega), rd_take b i (j / 8) (by omega), xor8 _ _ h1.1 h1.2 h2.1 h2.2, Int.toNat_natCast]
        exact bit_xor _ _ _
    · rw [if_neg hk, if_neg hk, if_neg hk]
      rfl
  | succ d ih =>
    intro i h
    refine evStep 0 (fun k _ => ?_) (ih (i + 1) (by omega))
    have l3 : (xors a b i).length = i := by simp [xors]
    have l4 : xors a b (i + 1) = xors a b i ++ [bits .xor .u8 (rd a (i : Int)) (rd b (i : Int))] := by simp [xors, List.range_succ]
    simp only [stopcocklaw07_ToeplitzLinear.l0]
    rw [if_pos (by omega), if_pos (by omega), if_pos (by omega), if_pos (by omega), if_pos (by omega), wrap_id (by omega) (by omega), l4]
    rfl
theorem ToeplitzLinear : stopcocklaw07_ToeplitzLinear.Pure := by
  intro key a b hk1 hk2 hk3 ha1 ha2 ha3 hb1 hb2 hb3
  obtain ⟨K1, e1⟩ := alive_ev
  obtain ⟨n, hn⟩ : ∃ n : Nat, mn (mn (a.length : Int) (b.length : Int)) 36 = (n : Int) := ⟨min (min a.length b.length) 36, by unfold mn; split <;> split <;> omega⟩
  have hb : (n : Int) ≤ a.length ∧ (n : Int) ≤ b.length ∧ (n : Int) ≤ 36 := by rw [← hn]; unfold mn; refine ⟨?_, ?_, ?_⟩ <;> split <;> split <;> omega
  obtain ⟨K2, e2⟩ := loop_ev key a b (oct_wf hk3) (oct_wf ha3) (oct_wf hb3) n (by omega) (by omega) (by omega) (by omega) n 0 (by omega)
  refine ⟨K1 + K2, ?_⟩
  unfold stopcocklaw07_ToeplitzLinear.f
  rw [show stopcocklaw07_alive.f (K1 + K2) = _ from e1 _ (by omega), Option.bind_some, if_pos rfl, hn]
  exact e2 _ (by omega)
end Go.Proofs.Ytgfghinjjidcoaa.Pure
