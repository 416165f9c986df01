/- What is read of a frame and of an ARP, what an ARP is built as: plain laws. -/
import Derived.Test.YthfhljdegbcpmaaPlain
namespace Go.Proofs.Ythfhljdegbcpmaa.Pure
open Go.RowKit Go.Proofs.Ythfhljdegbcpmaa.PA Go.Proofs.YthfhljdegbcpmaaW.PrintWords Go.Proofs.YthfhljdegbcpmaaW.PrintLast Go.Proofs.YthfhljdegbcpmaaW.PrintMore Go.Proofs.Ythfhljdegbcpmaa.Util Go.Proofs.Ythfhljdegbcpmaa.Hand
set_option linter.unusedVariables false
set_option linter.unusedSimpArgs false

theorem oct_take {l : List Int} (h : oct l) (n : Nat) : oct (l.take n) := fun x hx => h x (List.mem_of_mem_take hx)
theorem oct_drop {l : List Int} (h : oct l) (n : Nat) : oct (l.drop n) := fun x hx => h x (List.mem_of_mem_drop hx)
theorem cut (l : List Int) (a b : Nat) : (l.take (a + b)).drop a = (l.drop a).take b := by
  rw [List.drop_take]; congr 1; omega
theorem big_part {l : List Int} (h : oct l) (a b : Nat) (hl : a + b ≤ l.length) : 0 ≤ big ((l.drop a).take b) ∧ big ((l.drop a).take b) < 256 ^ b := by
  have := big_bd _ (oct_take (oct_drop h a) b)
  rwa [show ((l.drop a).take b).length = b by simp; omega] at this
theorem hi_part {l : List Int} (h : oct l) (a b : Nat) (hl : a + b ≤ l.length) : hi (big ((l.drop a).take b)) b = (l.drop a).take b := by
  have := hi_big _ (oct_take (oct_drop h a) b)
  rwa [show ((l.drop a).take b).length = b by simp; omega] at this
/-- What a frame is read as. -/
def parseV (l : List Int) : Int × Int × Int × List Int × Int :=
  if l.length < 14 then (0, 0, 0, [], 8) else if 65535 < l.length then (0, 0, 0, [], 5) else (big ((l.drop 0).take 6), big ((l.drop 6).take 6), big ((l.drop 12).take 2), l.drop 14, 0)
theorem parse_eq (l : List Int) (h : oct l) : ether_Parse.f l = some (parseV l) := by
  unfold ether_Parse.f Hand.parseF parseV
  rw [if_pos h]
  simp only [List.drop_drop, List.drop_zero]
  split
  · rfl
  · split <;> rfl
theorem rparse_ev (l : List Int) (h : oct l) : Ev (fun k => stopcockref03_Parse.f k l) (parseV l) := by
  obtain ⟨K1, e1⟩ := number_ev ((l.drop 0).take 6) (oct_take (oct_drop h 0) 6) (by simp; omega)
  obtain ⟨K2, e2⟩ := number_ev ((l.drop 6).take 6) (oct_take (oct_drop h 6) 6) (by simp; omega)
  obtain ⟨K3, e3⟩ := number_ev ((l.drop 12).take 2) (oct_take (oct_drop h 12) 2) (by simp; omega)
  refine evEnd (K1 + K2 + K3) (fun k hk => ?_)
  unfold stopcockref03_Parse.f parseV
  by_cases h1 : l.length < 14
  · rw [if_pos (by omega), if_pos h1]
  · rw [if_neg (by omega), if_neg h1]
    by_cases h2 : 65535 < l.length
    · rw [if_pos (by omega), if_pos h2]
    · rw [if_neg (by omega), if_neg h2]
      have hb := big_part h 12 2 (by omega)
      rw [if_pos (by omega), show stopcockref01_Number.f k (l.take 6) = _ from e1 k (by omega), Option.bind_some, if_pos (by decide), if_pos (by omega)]
      rw [show (l.take 12).drop 6 = (l.drop 6).take 6 from cut l 6 6, show stopcockref01_Number.f k ((l.drop 6).take 6) = _ from e2 k (by omega), Option.bind_some, if_pos (by decide), if_pos (by omega)]
      rw [show (l.take 14).drop 12 = (l.drop 12).take 2 from cut l 12 2, show stopcockref01_Number.f k ((l.drop 12).take 2) = _ from e3 k (by omega), Option.bind_some]
      unfold stopcockref03_Copied.f
      rw [if_pos (by simp; omega), Option.bind_some, wrap_id (by omega) (by omega)]
      rfl
/-- What an ARP is built as. -/
def arpV (op sm si dm di : Int) : List Int × Int :=
  if op < 1 ∨ 2 < op then ([], 31) else if 281474976710655 < sm ∨ 281474976710655 < dm then ([], 4) else (kind7 ++ [op] ++ hi sm 6 ++ hi si 4 ++ hi dm 6 ++ hi di 4, 0)
theorem arp_eq (op sm si dm di : Int) (h1 : 0 ≤ sm) (h2 : 0 ≤ dm) (h3 : 0 ≤ si) (h4 : si < 4294967296) (h5 : 0 ≤ di) (h6 : di < 4294967296) : ether_BuildArp.f op sm si dm di = some (arpV op sm si dm di) := by
  unfold ether_BuildArp.f Hand.buildArpF arpV
  rw [if_pos ⟨h1, h2, ⟨h3, h4⟩, h5, h6⟩]
  split
  · rfl
  · by_cases h : 281474976710655 < mx sm dm
    · rw [if_pos h, if_pos ((mx_gt _ _ _).1 h)]
    · rw [if_neg h, if_neg (mt (mx_gt _ _ _).2 h)]
      rfl
theorem rarp_ev (op sm si dm di : Int) (h1 : 0 ≤ sm) (h2 : 0 ≤ dm) (h3 : 0 ≤ si) (h4 : si < 4294967296) (h5 : 0 ≤ di) (h6 : di < 4294967296) : Ev (fun k => stopcockref03_BuildArp.f k op sm si dm di) (arpV op sm si dm di) := by
  obtain ⟨K1, e1⟩ := octets_ev sm 6 (by decide) (by decide)
  obtain ⟨K2, e2⟩ := octets_ev si 4 (by decide) (by decide)
  obtain ⟨K3, e3⟩ := octets_ev dm 6 (by decide) (by decide)
  obtain ⟨K4, e4⟩ := octets_ev di 4 (by decide) (by decide)
  refine evEnd (K1 + K2 + K3 + K4 + 1) (fun k hk => ?_)
  obtain ⟨m, rfl⟩ : ∃ m, k = m + 1 := ⟨k - 1, by omega⟩
  have hok : (op = 1 ∨ op = 2) → stopcockref03_BuildArp.j0 (m + 1) false op sm si dm di = some (if 281474976710655 < sm ∨ 281474976710655 < dm then ([], 4) else (kind7 ++ [op] ++ hi sm 6 ++ hi si 4 ++ hi dm 6 ++ hi di 4, 0)) := by
    intro ho
    simp only [stopcockref03_BuildArp.j0]
    rw [if_neg (by decide)]
    by_cases g1 : sm > 281474976710655
    · rw [if_pos g1, if_pos (.inl g1)]
    · rw [if_neg g1]
      by_cases g2 : dm > 281474976710655
      · rw [if_pos g2, if_pos (.inr g2)]
      · rw [if_neg g2, if_neg (by omega)]
        unfold stopcockref03_head.f
        rw [Option.bind_some, Option.bind_some, if_pos (by simp), Option.bind_some, show stopcockref01_Octets.f m sm 6 = _ from e1 m (by omega), Option.bind_some, if_pos (by simp [hi_len]), Option.bind_some]
        rw [wrap_u64, Int.emod_eq_of_lt (a := si) (by omega) (by omega), show stopcockref01_Octets.f m si 4 = _ from e2 m (by omega), Option.bind_some, if_pos (by simp [hi_len]), Option.bind_some]
        rw [show stopcockref01_Octets.f m dm 6 = _ from e3 m (by omega), Option.bind_some, if_pos (by simp [hi_len]), Option.bind_some]
        rw [wrap_u64, Int.emod_eq_of_lt (a := di) (by omega) (by omega), show stopcockref01_Octets.f m di 4 = _ from e4 m (by omega), Option.bind_some, if_pos (by simp [hi_len])]
        rw [Int.emod_eq_of_lt (a := op) (by omega) (by omega)]
        rfl
  unfold stopcockref03_BuildArp.f arpV
  by_cases ho : op = 1
  · rw [if_pos ho, hok (.inl ho), if_neg (show ¬ (op < 1 ∨ 2 < op) by omega)]
  · rw [if_neg ho]
    by_cases ho2 : op = 2
    · rw [show (op != 2) = false by simp [ho2], hok (.inr ho2), if_neg (show ¬ (op < 1 ∨ 2 < op) by omega)]
    · rw [show (op != 2) = true by simp [ho2], if_pos (by omega)]
      simp [stopcockref03_BuildArp.j0]
/-- What an ARP is read as. -/
def rarpV (l : List Int) : Int × Int × Int × Int × Int × Int :=
  if l.length < 28 then (0, 0, 0, 0, 0, 8) else if l.take 7 ≠ kind7 ∨ rd l 7 < 1 ∨ 2 < rd l 7 then (0, 0, 0, 0, 0, 31)
  else (rd l 7, big ((l.drop 8).take 6), big ((l.drop 14).take 4), big ((l.drop 18).take 6), big ((l.drop 24).take 4), 0)
theorem parseArp_eq (l : List Int) (h : oct l) : ether_ParseArp.f l = some (rarpV l) := by
  unfold ether_ParseArp.f Hand.parseArpF rarpV
  rw [if_pos h]
  by_cases h1 : l.length < 28
  · rw [if_pos h1, if_pos h1]
  · rw [if_neg h1, if_neg h1]
    split
    · rfl
    · have h7 : (l.drop 7).take 1 = [l[7]'(by omega)] := by
        rw [List.drop_eq_getElem_cons (by omega)]; rfl
      have h7b : big ((l.drop 7).take 1) = rd l 7 := by
        rw [h7, show rd l 7 = l[7]'(by omega) from rd_get l 7 (by omega)]
        simp [big]
      simp only [List.drop_drop]
      rw [h7b]
theorem j1_ev (l : List Int) (h : oct l) (h28 : 28 ≤ l.length) : Ev (fun k => stopcockref03_ParseArp.j1 k l false) (rd l 7, big ((l.drop 8).take 6), big ((l.drop 14).take 4), big ((l.drop 18).take 6), big ((l.drop 24).take 4), 0) := by
  obtain ⟨K1, e1⟩ := number_ev ((l.drop 8).take 6) (oct_take (oct_drop h 8) 6) (by simp; omega)
  obtain ⟨K2, e2⟩ := number_ev ((l.drop 14).take 4) (oct_take (oct_drop h 14) 4) (by simp; omega)
  obtain ⟨K3, e3⟩ := number_ev ((l.drop 18).take 6) (oct_take (oct_drop h 18) 6) (by simp; omega)
  obtain ⟨K4, e4⟩ := number_ev ((l.drop 24).take 4) (oct_take (oct_drop h 24) 4) (by simp; omega)
  refine evEnd (K1 + K2 + K3 + K4 + 1) (fun k hk => ?_)
  obtain ⟨m, rfl⟩ : ∃ m, k = m + 1 := ⟨k - 1, by omega⟩
  have b1 := big_part h 14 4 (by omega)
  have b2 := big_part h 24 4 (by omega)
  have b3 := h (l[7]'(by omega)) (List.getElem_mem _)
  have e7 : rd l 7 = l[7]'(by omega) := rd_get l 7 (by omega)
  simp only [stopcockref03_ParseArp.j1]
  rw [if_neg (by decide), if_pos (by decide), if_pos (by omega), show (l.take 18).drop 14 = (l.drop 14).take 4 from cut l 14 4, show stopcockref01_Number.f m ((l.drop 14).take 4) = _ from e2 m (by omega), Option.bind_some]
  rw [if_pos (by decide), if_pos (by omega), show (l.take 28).drop 24 = (l.drop 24).take 4 from cut l 24 4, show stopcockref01_Number.f m ((l.drop 24).take 4) = _ from e4 m (by omega), Option.bind_some]
  rw [if_pos (by omega), if_pos (by decide), if_pos (by omega), show (l.take 14).drop 8 = (l.drop 8).take 6 from cut l 8 6, show stopcockref01_Number.f m ((l.drop 8).take 6) = _ from e1 m (by omega), Option.bind_some]
  rw [if_pos (by decide), if_pos (by omega), show (l.take 24).drop 18 = (l.drop 18).take 6 from cut l 18 6, show stopcockref01_Number.f m ((l.drop 18).take 6) = _ from e3 m (by omega), Option.bind_some]
  rw [wrap_id (by omega) (by omega), Int.emod_eq_of_lt b1.1 (by omega), Int.emod_eq_of_lt b2.1 (by omega)]
theorem rd_take (l : List Int) (i : Nat) (h : i < 7) (h7 : 7 ≤ l.length) : rd (l.take 7) (i : Int) = rd l (i : Int) := by
  rw [rd_get _ i (by simp; omega), rd_get _ i (by omega), List.getElem_take]
theorem rparseArp_ev (l : List Int) (h : oct l) : Ev (fun k => stopcockref03_ParseArp.f k l) (rarpV l) := by
  unfold rarpV
  by_cases h1 : l.length < 28
  · rw [if_pos h1]
    refine evEnd 0 (fun k hk => ?_)
    unfold stopcockref03_ParseArp.f
    rw [if_pos (by omega)]
  · rw [if_neg h1]
    obtain ⟨R, hR⟩ : ∃ R, (if l.take 7 ≠ kind7 ∨ rd l 7 < 1 ∨ 2 < rd l 7 then ((0, 0, 0, 0, 0, 31) : Int × Int × Int × Int × Int × Int) else (rd l 7, big ((l.drop 8).take 6), big ((l.drop 14).take 4), big ((l.drop 18).take 6), big ((l.drop 24).take 4), 0)) = R := ⟨_, rfl⟩
    rw [hR]
    have hl : ∀ (d i : Nat), i + d = 7 → (∀ j : Nat, j < i → rd l (j : Int) = rd kind7 (j : Int)) → Ev (fun k => stopcockref03_ParseArp.l0 k l kind7 (i : Int)) R := by
      intro d
      induction d with
      | zero =>
        intro i hi ha
        obtain rfl : i = 7 := by omega
        have hk : l.take 7 = kind7 := by
          refine List.ext_getElem (by simp [kind7]; omega) (fun j h1 h2 => ?_)
          have hj : j < 7 := by simp at h1; omega
          have := ha j hj
          rw [rd_get l j (by omega), rd_get kind7 j h2] at this
          rw [List.getElem_take]
          exact this
        by_cases h12 : rd l 7 < 1 ∨ 2 < rd l 7
        · rw [if_pos (.inr h12)] at hR
          subst hR
          refine evEnd 2 (fun k hk => ?_)
          obtain ⟨m, rfl⟩ : ∃ m, k = m + 1 + 1 := ⟨k - 2, by omega⟩
          simp only [stopcockref03_ParseArp.l0, stopcockref03_ParseArp.j1]
          rw [if_neg (by omega), if_pos (by omega), if_neg (by omega), if_pos (by simp; omega)]
        · rw [if_neg (fun e => e.elim (fun e => e hk) h12)] at hR
          subst hR
          refine evStep 0 (fun k _ => ?_) (j1_ev l h (by omega))
          simp only [stopcockref03_ParseArp.l0]
          rw [if_neg (by omega), if_pos (by omega)]
          by_cases h2 : rd l 7 = 1
          · rw [if_pos h2]
          · rw [if_neg h2, show (rd l 7 != 2) = false by simp; omega]
      | succ d ih =>
        intro i hi ha
        by_cases hx : rd l (i : Int) = rd kind7 (i : Int)
        · refine evStep 0 (fun k _ => ?_) (ih (i + 1) (by omega) (fun j hj => by
            rcases (by omega : j < i ∨ j = i) with h | rfl
            · exact ha j h
            · exact hx))
          simp only [stopcockref03_ParseArp.l0]
          rw [if_pos (by omega), if_pos (by omega), if_pos (by omega), if_pos (by simp [kind7]; omega), if_pos hx, wrap_id (by omega) (by omega)]
          rfl
        · have hne : l.take 7 ≠ kind7 := fun e => hx (by rw [← rd_take l i (by omega) (by omega), e])
          rw [if_pos (.inl hne)] at hR
          subst hR
          refine evEnd 1 (fun k hk => ?_)
          obtain ⟨m, rfl⟩ : ∃ m, k = m + 1 := ⟨k - 1, by omega⟩
          simp only [stopcockref03_ParseArp.l0]
          rw [if_pos (by omega), if_pos (by omega), if_pos (by omega), if_pos (by simp [kind7]; omega), if_neg hx]
    refine evSame 0 (fun k _ => ?_) (hl 7 0 rfl (fun j hj => absurd hj (by omega)))
    unfold stopcockref03_ParseArp.f stopcockref03_head.f
    rw [if_neg (by omega)]
    rfl
end Go.Proofs.Ythfhljdegbcpmaa.Pure
