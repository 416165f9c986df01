/- Frames and ARPs are read back as they were built, and built as they were read: plain laws. -/
import Derived.Test.YthfhljdegbcpmaaPureEtherTells
namespace Go.Proofs.Ythfhljdegbcpmaa.Pure
open Go.RowKit Go.Proofs.Ythfhljdegbcpmaa.PA Go.Proofs.YthfhljdegbcpmaaW.PrintWords Go.Proofs.YthfhljdegbcpmaaW.PrintLast Go.Proofs.YthfhljdegbcpmaaW.PrintMore Go.Proofs.Ythfhljdegbcpmaa.Util Go.Proofs.Ythfhljdegbcpmaa.Hand
set_option linter.unusedVariables false
set_option linter.unusedSimpArgs false

theorem oct_append {a b : List Int} (h : oct a) (k : oct b) : oct (a ++ b) := fun x hx => (List.mem_append.1 hx).elim (h x) (k x)
/-- The part of a list behind others. -/
theorem part1 (a b : List Int) (n : Nat) (h : a.length = n) : (a ++ b).take n = a := by subst h; simp
theorem part2 (a b : List Int) (n : Nat) (h : a.length = n) : (a ++ b).drop n = b := by subst h; simp
theorem part3 (a b c : List Int) (n m : Nat) (h : a.length = n) (k : b.length = m) : ((a ++ b ++ c).drop n).take m = b := by
  rw [List.append_assoc, part2 a _ n h, part1 b c m k]
theorem frame_back (d s t : Int) (dat : List Int) (hd : 0 ≤ d) (hs : 0 ≤ s) (od : oct dat) (h : (buildV d s t dat).2 = 0) :
    oct (buildV d s t dat).1 ∧ parseV (buildV d s t dat).1 = (d, s, t, dat, 0) := by
  unfold buildV at h ⊢
  split at h
  · exact absurd h (by decide)
  · rename_i h1
    rw [if_neg h1]
    split at h
    · exact absurd h (by decide)
    · rename_i h2
      rw [if_neg h2]
      refine ⟨oct_append (oct_append (oct_append (hi_oct _ _) (hi_oct _ _)) (hi_oct _ _)) od, ?_⟩
      unfold parseV
      show (if (hi d 6 ++ hi s 6 ++ hi t 2 ++ dat).length < 14 then _ else _) = _
      rw [if_neg (by simp [hi_len]; omega), if_neg (by simp [hi_len]; omega)]
      have p1 : ((hi d 6 ++ hi s 6 ++ hi t 2 ++ dat).drop 0).take 6 = hi d 6 := by
        rw [List.append_assoc, List.append_assoc]; exact part1 _ _ 6 (hi_len _ _)
      have p2 : ((hi d 6 ++ hi s 6 ++ hi t 2 ++ dat).drop 6).take 6 = hi s 6 := by
        rw [List.append_assoc]; exact part3 _ _ _ 6 6 (hi_len _ _) (hi_len _ _)
      have p3 : ((hi d 6 ++ hi s 6 ++ hi t 2 ++ dat).drop 12).take 2 = hi t 2 := part3 _ _ _ 12 2 (by simp [hi_len]) (hi_len _ _)
      have p4 : (hi d 6 ++ hi s 6 ++ hi t 2 ++ dat).drop 14 = dat := part2 _ _ 14 (by simp [hi_len])
      show (big (((hi d 6 ++ hi s 6 ++ hi t 2 ++ dat).drop 0).take 6), big (((hi d 6 ++ hi s 6 ++ hi t 2 ++ dat).drop 6).take 6), big (((hi d 6 ++ hi s 6 ++ hi t 2 ++ dat).drop 12).take 2), (hi d 6 ++ hi s 6 ++ hi t 2 ++ dat).drop 14, (0 : Int)) = _
      rw [p1, p2, p3, p4, big_hi 6 d hd (by omega), big_hi 6 s hs (by omega), big_hi 2 t (by omega) (by omega)]
theorem join2 (l : List Int) (a b : Nat) : (l.drop a).take b ++ l.drop (a + b) = l.drop a := by
  rw [← List.drop_drop, List.take_append_drop]
theorem frame_fwd (l : List Int) (h : oct l) (h0 : (parseV l).2.2.2.2 = 0) : 0 ≤ (parseV l).1 ∧ 0 ≤ (parseV l).2.1 ∧ (parseV l).2.2.2.1.length ≤ 65535 ∧ buildV (parseV l).1 (parseV l).2.1 (parseV l).2.2.1 (parseV l).2.2.2.1 = (l, 0) := by
  unfold parseV at h0 ⊢
  split at h0
  · exact absurd h0 (by decide)
  · rename_i h1
    rw [if_neg h1]
    split at h0
    · exact absurd h0 (by decide)
    · rename_i h2
      rw [if_neg h2]
      have b1 := big_part h 0 6 (by omega)
      have b2 := big_part h 6 6 (by omega)
      have b3 := big_part h 12 2 (by omega)
      refine ⟨b1.1, b2.1, by simp; omega, ?_⟩
      show buildV (big ((l.drop 0).take 6)) (big ((l.drop 6).take 6)) (big ((l.drop 12).take 2)) (l.drop 14) = _
      unfold buildV
      rw [if_neg (by omega), if_neg (by simp; omega), hi_part h 0 6 (by omega), hi_part h 6 6 (by omega), hi_part h 12 2 (by omega), List.append_assoc, List.append_assoc, join2 l 12 2, join2 l 6 6, join2 l 0 6, List.drop_zero]
theorem arp_back (op sm si dm di : Int) (h1 : 0 ≤ sm) (h2 : 0 ≤ dm) (h3 : 0 ≤ si) (h4 : si < 4294967296) (h5 : 0 ≤ di) (h6 : di < 4294967296) (h : (arpV op sm si dm di).2 = 0) :
    oct (arpV op sm si dm di).1 ∧ rarpV (arpV op sm si dm di).1 = (op, sm, si, dm, di, 0) := by
  unfold arpV at h ⊢
  split at h
  · exact absurd h (by decide)
  · rename_i g1
    rw [if_neg g1]
    split at h
    · exact absurd h (by decide)
    · rename_i g2
      rw [if_neg g2]
      refine ⟨oct_append (oct_append (oct_append (oct_append (oct_append (by unfold kind7; decide) (fun x hx => by obtain rfl := List.mem_singleton.1 hx; omega)) (hi_oct _ _)) (hi_oct _ _)) (hi_oct _ _)) (hi_oct _ _), ?_⟩
      show rarpV (kind7 ++ [op] ++ hi sm 6 ++ hi si 4 ++ hi dm 6 ++ hi di 4) = _
      have e7 : rd (kind7 ++ [op] ++ hi sm 6 ++ hi si 4 ++ hi dm 6 ++ hi di 4) 7 = op := by simp [rd, kind7]
      have p0 : (kind7 ++ [op] ++ hi sm 6 ++ hi si 4 ++ hi dm 6 ++ hi di 4).take 7 = kind7 := by simp [kind7]
      have p1 : ((kind7 ++ [op] ++ hi sm 6 ++ hi si 4 ++ hi dm 6 ++ hi di 4).drop 8).take 6 = hi sm 6 := by
        rw [List.append_assoc, List.append_assoc]; exact part3 _ _ _ 8 6 (by simp [kind7]) (hi_len _ _)
      have p2 : ((kind7 ++ [op] ++ hi sm 6 ++ hi si 4 ++ hi dm 6 ++ hi di 4).drop 14).take 4 = hi si 4 := by
        rw [List.append_assoc]; exact part3 _ _ _ 14 4 (by simp [kind7, hi_len]) (hi_len _ _)
      have p3 : ((kind7 ++ [op] ++ hi sm 6 ++ hi si 4 ++ hi dm 6 ++ hi di 4).drop 18).take 6 = hi dm 6 := part3 _ _ _ 18 6 (by simp [kind7, hi_len]) (hi_len _ _)
      have p4 : ((kind7 ++ [op] ++ hi sm 6 ++ hi si 4 ++ hi dm 6 ++ hi di 4).drop 24).take 4 = hi di 4 := by
        rw [part2 _ (hi di 4) 24 (by simp [kind7, hi_len])]; exact List.take_of_length_le (by simp [hi_len])
      unfold rarpV
      rw [if_neg (by simp [kind7, hi_len]), e7, p0, p1, p2, p3, p4, if_neg (fun e => e.elim (fun e => e rfl) (by omega)), big_hi 6 sm h1 (by omega), big_hi 6 dm h2 (by omega), big_hi 4 si h3 h4, big_hi 4 di h5 h6]
theorem arp_fwd (l : List Int) (h : oct l) (h0 : (rarpV l).2.2.2.2.2 = 0) : 28 ≤ l.length ∧ 0 ≤ (rarpV l).2.1 ∧ 0 ≤ (rarpV l).2.2.2.1 ∧ (0 ≤ (rarpV l).2.2.1 ∧ (rarpV l).2.2.1 < 4294967296) ∧ (0 ≤ (rarpV l).2.2.2.2.1 ∧ (rarpV l).2.2.2.2.1 < 4294967296) ∧
    arpV (rarpV l).1 (rarpV l).2.1 (rarpV l).2.2.1 (rarpV l).2.2.2.1 (rarpV l).2.2.2.2.1 = (l.take 28, 0) := by
  unfold rarpV at h0 ⊢
  split at h0
  · exact absurd h0 (by decide)
  · rename_i h1
    rw [if_neg h1]
    split at h0
    · exact absurd h0 (by decide)
    · rename_i h2
      rw [if_neg h2]
      have b1 := big_part h 8 6 (by omega)
      have b2 := big_part h 14 4 (by omega)
      have b3 := big_part h 18 6 (by omega)
      have b4 := big_part h 24 4 (by omega)
      have hk : l.take 7 = kind7 := Decidable.byContradiction fun e => h2 (.inl e)
      refine ⟨by omega, b1.1, b3.1, b2, b4, ?_⟩
      show arpV (rd l 7) (big ((l.drop 8).take 6)) (big ((l.drop 14).take 4)) (big ((l.drop 18).take 6)) (big ((l.drop 24).take 4)) = _
      unfold arpV
      have e7 : l.take 28 = l.take 7 ++ ((l.drop 7).take 1 ++ ((l.drop 8).take 6 ++ ((l.drop 14).take 4 ++ ((l.drop 18).take 6 ++ (l.drop 24).take 4)))) := by
        have t : ∀ a b n, (l.drop a).take (b + n) = (l.drop a).take b ++ (l.drop (a + b)).take n := fun a b n => by rw [List.take_add, List.drop_drop]
        have t0 := t 0 7 21
        have t1 := t 7 1 20
        have t2 := t 8 6 14
        have t3 := t 14 4 10
        have t4 := t 18 6 4
        simp only [List.drop_zero, Nat.zero_add] at t0
        rw [t0, t1, t2, t3, t4]
      have h7 : (l.drop 7).take 1 = [rd l 7] := by
        rw [List.drop_eq_getElem_cons (by omega), show rd l 7 = l[7]'(by omega) from rd_get l 7 (by omega)]; rfl
      rw [if_neg (by omega), if_neg (by omega), hi_part h 8 6 (by omega), hi_part h 14 4 (by omega), hi_part h 18 6 (by omega), hi_part h 24 4 (by omega), e7, hk, h7]
      simp
theorem rarp_zero (l : List Int) (h0 : ¬ (rarpV l).2.2.2.2.2 = 0) : (rarpV l).1 = 0 ∧ (rarpV l).2.1 = 0 ∧ (rarpV l).2.2.1 = 0 ∧ (rarpV l).2.2.2.1 = 0 ∧ (rarpV l).2.2.2.2.1 = 0 := by
  unfold rarpV at h0 ⊢
  split at h0
  · rename_i h1; rw [if_pos h1]; exact ⟨rfl, rfl, rfl, rfl, rfl⟩
  · rename_i h1
    rw [if_neg h1]
    split at h0
    · rename_i h2; rw [if_pos h2]; exact ⟨rfl, rfl, rfl, rfl, rfl⟩
    · exact absurd rfl h0
end Go.Proofs.Ythfhljdegbcpmaa.Pure
