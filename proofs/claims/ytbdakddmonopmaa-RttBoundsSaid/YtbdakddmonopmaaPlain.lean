/- The printed functions of rtt and of its reference, as plain functions of numbers. -/
import Derived.Test.YtbdakddmonopmaaPAx4
import Derived.Test.YtbdakddmonopmaaUtil
namespace Go.Proofs.Ytbdakddmonopmaa.Pure
open Go.RowKit Go.Proofs.Ytbdakddmonopmaa.PA Go.Proofs.YtbdakddmonopmaaW.PrintWords Go.Proofs.YtbdakddmonopmaaW.PrintLast Go.Proofs.YtbdakddmonopmaaW.PrintMore Go.Proofs.Ytbdakddmonopmaa.Util
set_option linter.unusedVariables false
set_option linter.unusedSimpArgs false

theorem inside_l0 (lo hi : Int) (l : List Int) (hl : l.length ≤ 1000) : ∀ (d : Nat) (i : Nat) (k : Nat), i + d = l.length → d < k →
    rtt_inside.l0 k lo hi l (l.length : Int) (i : Int) = some (decide (∀ n ∈ l.drop i, lo ≤ n ∧ n ≤ hi)) := by
  intro d
  induction d with
  | zero =>
    intro i k h hk
    obtain ⟨k, rfl⟩ : ∃ m, k = m + 1 := ⟨k - 1, by omega⟩
    simp only [rtt_inside.l0]
    rw [if_neg (by omega), List.drop_of_length_le (by omega)]
    simp
  | succ d ih =>
    intro i k h hk
    obtain ⟨k, rfl⟩ : ∃ m, k = m + 1 := ⟨k - 1, by omega⟩
    have hi' : i < l.length := by omega
    simp only [rtt_inside.l0]
    have hrd : rd l (i : Int) = l[i] := by unfold rd; rw [Int.toNat_natCast, getD_eq l i 0 hi']
    rw [if_pos (by omega), if_pos (by omega), if_pos (by omega), hrd, List.drop_eq_getElem_cons hi']
    rw [show wrap64 ((i : Int) + 1) = ((i + 1 : Nat) : Int) by rw [wrap_id (by omega) (by omega)]; omega]
    by_cases h1 : l[i] < lo
    · rw [if_pos h1]
      simp only [List.mem_cons, forall_eq_or_imp, Option.some.injEq]
      exact (decide_eq_false (fun hh => by have := hh.1.1; omega)).symm
    · rw [if_neg h1]
      by_cases h2 : l[i] > hi
      · rw [if_pos h2]
        simp only [List.mem_cons, forall_eq_or_imp, Option.some.injEq]
        exact (decide_eq_false (fun hh => by have := hh.1.2; omega)).symm
      · rw [if_neg h2, ih (i + 1) k (by omega) (by omega)]
        simp only [List.mem_cons, forall_eq_or_imp, Option.some.injEq]
        exact decide_eq_decide.2 ⟨fun hh => ⟨⟨by omega, by omega⟩, hh⟩, fun hh => hh.2⟩
theorem inside (lo hi : Int) (l : List Int) (hl : l.length ≤ 1000) (k : Nat) (hk : l.length < k) : rtt_inside.f k lo hi l = some (decide (∀ n ∈ l, lo ≤ n ∧ n ≤ hi)) := by
  unfold rtt_inside.f
  have := inside_l0 lo hi l hl l.length 0 k (by omega) hk
  simpa using this

def okP (p0 p1 p2 p3 : Int) : Prop := 1 ≤ p0 ∧ p0 ≤ 1073741824 ∧ 1 ≤ p1 ∧ p1 ≤ 1073741824 ∧ 1 ≤ p2 ∧ p2 ≤ 1073741824 ∧ 1 ≤ p3 ∧ p3 ≤ 1073741824 ∧ p1 ≤ p2
instance (p0 p1 p2 p3 : Int) : Decidable (okP p0 p1 p2 p3) := by unfold okP; infer_instance
def okS (s v b : Int) : Prop := 0 ≤ s ∧ s ≤ 17179869184 ∧ 0 ≤ v ∧ v ≤ 17179869184 ∧ 0 ≤ b ∧ b ≤ 16
instance (s v b : Int) : Decidable (okS s v b) := by unfold okS; infer_instance
def chk (p0 p1 p2 p3 : Int) : Int := if okP p0 p1 p2 p3 then 0 else 121
def ask (p0 p1 p2 p3 s v b : Int) : Int := if okP p0 p1 p2 p3 then (if okS s v b then 0 else 171) else 121

theorem check_eq (p0 p1 p2 p3 : Int) (k : Nat) (hk : 5 ≤ k) : rtt_Check.f k p0 p1 p2 p3 = some (chk p0 p1 p2 p3) := by
  unfold rtt_Check.f chk
  rw [inside 1 1073741824 _ (by simp) k (by simp; omega)]
  simp only [Option.bind_some]
  by_cases h : okP p0 p1 p2 p3
  · rw [if_pos h]
    obtain ⟨h0, h1, h2, h3, h4, h5, h6, h7, h8⟩ := h
    rw [if_pos (by simp; omega), if_neg (by omega)]
  · rw [if_neg h]
    refine ite_to (fun h1 => ite_to (fun _ => rfl) fun h2 => ?_) (fun _ => rfl)
    exact absurd (by simp at h1; unfold okP; omega) h
theorem asked_eq (p0 p1 p2 p3 : Int) (b0 : Bool) (s v b : Int) (k : Nat) (hk : 5 ≤ k) : rtt_asked.f k p0 p1 p2 p3 b0 s v b = some (ask p0 p1 p2 p3 s v b) := by
  unfold rtt_asked.f
  rw [check_eq p0 p1 p2 p3 k hk, inside 0 17179869184 _ (by simp) k (by simp; omega), inside 0 16 _ (by simp) k (by simp; omega)]
  simp only [Option.bind_some]
  unfold chk ask
  by_cases h : okP p0 p1 p2 p3
  · rw [if_pos h, if_pos rfl, if_pos h]
    by_cases h2 : okS s v b
    · rw [if_pos h2]
      obtain ⟨h0, h1, h2, h3, h4, h5⟩ := h2
      rw [if_pos (by simp; omega), if_pos (by simp; omega)]
    · rw [if_neg h2]
      refine ite_to (fun h3 => ite_to (fun h4 => ?_) fun _ => rfl) (fun _ => rfl)
      exact absurd (by simp at h3 h4; unfold okS; omega) h2
  · rw [if_neg h, if_neg h, if_neg (by omega)]

theorem within_eq (n lo hi : Int) : stopcockref18_within.f n lo hi = some (decide (lo ≤ n ∧ n ≤ hi)) := by
  unfold stopcockref18_within.f
  refine ite_to (fun h => ?_) (fun h => ?_)
  · simp; omega
  · simp; omega
theorem rcheck_eq (p0 p1 p2 p3 : Int) : stopcockref18_Check.f p0 p1 p2 p3 = some (chk p0 p1 p2 p3) := by
  unfold stopcockref18_Check.f chk
  simp only [within_eq, Option.bind_some]
  by_cases h : okP p0 p1 p2 p3
  · rw [if_pos h]
    obtain ⟨h0, h1, h2, h3, h4, h5, h6, h7, h8⟩ := h
    rw [if_pos (by simp; omega), if_pos (by simp; omega), if_pos (by simp; omega), if_pos (by simp; omega), if_neg (by omega)]
  · rw [if_neg h]
    refine ite_to (fun h1 => ite_to (fun h2 => ite_to (fun h3 => ite_to (fun h4 => ite_to (fun _ => rfl) fun h5 => ?_) fun _ => rfl) fun _ => rfl) fun _ => rfl) fun _ => rfl
    exact absurd (by simp at h1 h2 h3 h4; unfold okP; omega) h
theorem rbegin_eq (p0 p1 p2 p3 : Int) (b0 : Bool) (s v b : Int) : stopcockref18_begin.f p0 p1 p2 p3 b0 s v b = some (ask p0 p1 p2 p3 s v b) := by
  unfold stopcockref18_begin.f
  rw [rcheck_eq]
  simp only [within_eq, Option.bind_some]
  unfold chk ask
  by_cases h : okP p0 p1 p2 p3
  · rw [if_pos h, if_pos rfl, if_pos h]
    by_cases h2 : okS s v b
    · rw [if_pos h2]
      obtain ⟨h0, h1, h2, h3, h4, h5⟩ := h2
      rw [if_pos (by simp; omega), if_pos (by simp; omega), if_pos (by simp; omega)]
    · rw [if_neg h2]
      refine ite_to (fun h3 => ite_to (fun h4 => ite_to (fun h5 => ?_) fun _ => rfl) fun _ => rfl) (fun _ => rfl)
      exact absurd (by simp at h3 h4 h5; unfold okS; omega) h2
  · rw [if_neg h, if_neg h, if_neg (by omega)]

/-- A sample. -/
def sampleF (p0 p1 p2 p3 : Int) (h : Bool) (s v b r : Int) : Bool × Int × Int × Int × Int :=
  if ask p0 p1 p2 p3 s v b = 0 then
    if 0 ≤ r ∧ r ≤ 1073741824 then
      if h = true then (h, s + (r - s / 8), v - v / 4 + (if r - s / 8 < 0 then -(r - s / 8) else r - s / 8), 0, 0) else (true, 8 * r, 2 * r, 0, 0)
    else (false, 0, 0, 0, 4)
  else (false, 0, 0, 0, ask p0 p1 p2 p3 s v b)
theorem ask_zero {p0 p1 p2 p3 s v b : Int} (h : ask p0 p1 p2 p3 s v b = 0) : okP p0 p1 p2 p3 ∧ okS s v b := by
  unfold ask at h
  by_cases h1 : okP p0 p1 p2 p3
  · rw [if_pos h1] at h
    by_cases h2 : okS s v b
    · exact ⟨h1, h2⟩
    · rw [if_neg h2] at h; omega
  · rw [if_neg h1] at h; omega
theorem sample_eq (p0 p1 p2 p3 : Int) (h : Bool) (s v b r : Int) (k : Nat) (hk : 5 ≤ k) : rtt_Sample.f k p0 p1 p2 p3 h s v b r = some (sampleF p0 p1 p2 p3 h s v b r) := by
  unfold rtt_Sample.f sampleF
  rw [asked_eq p0 p1 p2 p3 h s v b k hk, inside 0 1073741824 _ (by simp) k (by simp; omega)]
  simp only [Option.bind_some]
  by_cases ha : ask p0 p1 p2 p3 s v b = 0
  · rw [if_pos ha, if_pos ha]
    obtain ⟨_, g1, g2, g3, g4, g5, g6⟩ := ask_zero ha
    by_cases hr : 0 ≤ r ∧ r ≤ 1073741824
    · rw [if_pos (by simp; omega), if_pos hr]
      cases h with
      | true =>
        rw [if_pos rfl, if_pos rfl]
        rw [wrap_id (x := r - s / 8) (by omega) (by omega)]
        by_cases hn : r - s / 8 < 0
        · rw [if_pos hn, if_pos hn, wrap_id (x := -(r - s / 8)) (by omega) (by omega), wrap_id (x := s + (r - s / 8)) (by omega) (by omega), wrap_id (x := -(r - s / 8) - v / 4) (by omega) (by omega), wrap_id (by omega) (by omega)]
          congr 4; omega
        · rw [if_neg hn, if_neg hn, wrap_id (x := s + (r - s / 8)) (by omega) (by omega), wrap_id (x := (r - s / 8) - v / 4) (by omega) (by omega), wrap_id (by omega) (by omega)]
          congr 4; omega
      | false =>
        rw [if_neg (by simp), if_neg (by simp), wrap_id (by omega) (by omega), wrap_id (by omega) (by omega)]
        rw [Int.mul_comm r 8, Int.mul_comm r 2]
    · rw [if_neg (by simp; omega), if_neg hr]
  · rw [if_neg ha, if_neg ha]
theorem rsample_eq (p0 p1 p2 p3 : Int) (h : Bool) (s v b r : Int) : stopcockref18_Sample.f p0 p1 p2 p3 h s v b r = some (sampleF p0 p1 p2 p3 h s v b r) := by
  unfold stopcockref18_Sample.f sampleF
  rw [rbegin_eq]
  simp only [within_eq, Option.bind_some]
  by_cases ha : ask p0 p1 p2 p3 s v b = 0
  · rw [if_pos ha, if_pos ha]
    obtain ⟨_, g1, g2, g3, g4, g5, g6⟩ := ask_zero ha
    by_cases hr : 0 ≤ r ∧ r ≤ 1073741824
    · rw [if_pos (by simp; omega), if_pos hr]
      cases h with
      | true =>
        rw [if_pos rfl, if_pos rfl, tdiv_pos g1, tdiv_pos g3, wrap_id (x := s / 8) (by omega) (by omega), wrap_id (x := v / 4) (by omega) (by omega)]
        rw [wrap_id (x := r - s / 8) (by omega) (by omega), wrap_id (x := -(r - s / 8)) (by omega) (by omega), wrap_id (x := s + (r - s / 8)) (by omega) (by omega), wrap_id (x := v - v / 4) (by omega) (by omega)]
        have e : mx (r - s / 8) (-(r - s / 8)) = if r - s / 8 < 0 then -(r - s / 8) else r - s / 8 := by
          unfold mx
          by_cases hn : r - s / 8 < 0
          · rw [if_pos hn, if_pos (by omega)]
          · rw [if_neg hn, if_neg (by omega)]
        rw [e]
        have e2 : 0 ≤ (if r - s / 8 < 0 then -(r - s / 8) else r - s / 8) ∧ (if r - s / 8 < 0 then -(r - s / 8) else r - s / 8) ≤ 4000000000 := by split <;> omega
        rw [wrap_id (by omega) (by omega)]
      | false =>
        rw [if_neg (by simp), if_neg (by simp), wrap_id (by omega) (by omega), wrap_id (by omega) (by omega)]
    · rw [if_neg (by simp; omega), if_neg hr]
  · rw [if_neg ha, if_neg ha]

/-- The time ran out. -/
def backF (p0 p1 p2 p3 : Int) (h : Bool) (s v b : Int) : Bool × Int × Int × Int × Int :=
  if ask p0 p1 p2 p3 s v b = 0 then (h, s, v, if b < 16 then b + 1 else b, 0) else (false, 0, 0, 0, ask p0 p1 p2 p3 s v b)
theorem back_eq (p0 p1 p2 p3 : Int) (h : Bool) (s v b : Int) (k : Nat) (hk : 5 ≤ k) : rtt_Back.f k p0 p1 p2 p3 h s v b = some (backF p0 p1 p2 p3 h s v b) := by
  unfold rtt_Back.f backF
  rw [asked_eq p0 p1 p2 p3 h s v b k hk]
  simp only [Option.bind_some]
  by_cases ha : ask p0 p1 p2 p3 s v b = 0
  · rw [if_pos ha, if_pos ha]
    obtain ⟨_, g1, g2, g3, g4, g5, g6⟩ := ask_zero ha
    by_cases hb : b < 16
    · rw [if_pos hb, if_pos hb, wrap_id (by omega) (by omega)]
    · rw [if_neg hb, if_neg hb]
  · rw [if_neg ha, if_neg ha]
theorem rback_eq (p0 p1 p2 p3 : Int) (h : Bool) (s v b : Int) : stopcockref18_Back.f p0 p1 p2 p3 h s v b = some (backF p0 p1 p2 p3 h s v b) := by
  unfold stopcockref18_Back.f backF
  rw [rbegin_eq]
  simp only [Option.bind_some]
  by_cases ha : ask p0 p1 p2 p3 s v b = 0
  · rw [if_pos ha, if_pos ha]
    obtain ⟨_, g1, g2, g3, g4, g5, g6⟩ := ask_zero ha
    rw [wrap_id (by omega) (by omega)]
    unfold mn
    by_cases hb : b < 16
    · rw [if_pos hb, if_neg (by omega)]
    · rw [if_neg hb, if_pos (by omega)]
      congr 5; omega
  · rw [if_neg ha, if_neg ha]

/-- How long to wait, ahead of the doublings. -/
def baseF (p0 p1 p3 : Int) (h : Bool) (s v : Int) : Int := if h = true then mx (s / 8 + mx p3 v) p1 else mx p0 p1
def rtoF (p0 p1 p2 p3 : Int) (h : Bool) (s v b : Int) : Int × Int :=
  if ask p0 p1 p2 p3 s v b = 0 then (mn (baseF p0 p1 p3 h s v * 2 ^ b.toNat) p2, 0) else (0, ask p0 p1 p2 p3 s v b)
theorem base_bd {p0 p1 p2 p3 s v b : Int} (h : Bool) (hp : okP p0 p1 p2 p3) (hs : okS s v b) : p1 ≤ baseF p0 p1 p3 h s v ∧ baseF p0 p1 p3 h s v ≤ 34359738368 := by
  obtain ⟨h0, h1, h2, h3, h4, h5, h6, h7, h8⟩ := hp
  obtain ⟨g1, g2, g3, g4, g5, g6⟩ := hs
  unfold baseF mx
  cases h with
  | true => rw [if_pos rfl]; split <;> split <;> omega
  | false => rw [if_neg (by simp)]; split <;> omega
theorem two_pow {n m : Nat} (h : n ≤ m) : (2 : Int) ^ n ≤ 2 ^ m := by
  have := Nat.pow_le_pow_right (show 0 < 2 by decide) h
  exact_mod_cast this
theorem dbl_bd {x b : Int} (h0 : 0 ≤ x) (h1 : x ≤ 34359738368) (hb0 : 0 ≤ b) (hb : b ≤ 16) : x ≤ x * 2 ^ b.toNat ∧ x * 2 ^ b.toNat ≤ 2251799813685248 := by
  have h2 : (2 : Int) ^ b.toNat ≤ 2 ^ 16 := two_pow (by omega)
  have h3 : (2 : Int) ^ 0 ≤ 2 ^ b.toNat := two_pow (by omega)
  have h4 := Int.mul_le_mul_of_nonneg_left h2 h0
  have h5 := Int.mul_le_mul_of_nonneg_left h3 h0
  simp only [Int.pow_zero, Int.mul_one] at h5
  have h6 : (2 : Int) ^ 16 = 65536 := by decide
  rw [h6] at h4
  omega
theorem rto_eq (p0 p1 p2 p3 : Int) (h : Bool) (s v b : Int) (k : Nat) (hk : 5 ≤ k) : rtt_RTO.f k p0 p1 p2 p3 h s v b = some (rtoF p0 p1 p2 p3 h s v b) := by
  unfold rtt_RTO.f rtoF
  rw [asked_eq p0 p1 p2 p3 h s v b k hk]
  simp only [Option.bind_some]
  by_cases ha : ask p0 p1 p2 p3 s v b = 0
  · rw [if_pos ha, if_pos ha]
    obtain ⟨hp, hs⟩ := ask_zero ha
    obtain ⟨hb1, hb2⟩ := base_bd h hp hs
    obtain ⟨h0, h1, h2, h3, h4, h5, h6, h7, h8⟩ := hp
    obtain ⟨g1, g2, g3, g4, g5, g6⟩ := hs
    obtain ⟨d1, d2⟩ := dbl_bd (show 0 ≤ baseF p0 p1 p3 h s v by omega) hb2 g5 g6
    cases h with
    | true =>
      have hm : 0 ≤ mx p3 v ∧ mx p3 v ≤ 17179869184 := by unfold mx; split <;> omega
      rw [if_pos rfl, if_pos g5, wrap_id (x := s / 8 + mx p3 v) (by omega) (by omega)]
      have e : mx (s / 8 + mx p3 v) p1 = baseF p0 p1 p3 true s v := by unfold baseF; rw [if_pos rfl]
      rw [e, shl_val (by omega) (by omega) (by omega)]
    | false =>
      rw [if_neg (by simp), if_pos g5]
      have e : mx p0 p1 = baseF p0 p1 p3 false s v := by unfold baseF; rw [if_neg (by simp)]
      rw [e, shl_val (by omega) (by omega) (by omega)]
  · rw [if_neg ha, if_neg ha]
theorem rrto_l0 (y0 y1 y2 y3 : Int) (h : Bool) (s v : Int) (b : Int) (x : Int) (hx0 : 0 ≤ x) (hx : x ≤ 34359738368) (hb0 : 0 ≤ b) (hb : b ≤ 16) : ∀ (d : Nat) (i : Nat) (k : Nat), (i : Int) + d = b → d < k →
    stopcockref18_RTO.l0 k (x * 2 ^ i) i y0 y1 y2 y3 h s v b = some (mn (x * 2 ^ b.toNat) y2, 0) := by
  intro d
  induction d with
  | zero =>
    intro i k h hk
    obtain ⟨k, rfl⟩ : ∃ m, k = m + 1 := ⟨k - 1, by omega⟩
    simp only [stopcockref18_RTO.l0]
    have e : b.toNat = i := by omega
    rw [if_neg (by omega), e]
  | succ d ih =>
    intro i k h' hk
    obtain ⟨k, rfl⟩ : ∃ m, k = m + 1 := ⟨k - 1, by omega⟩
    simp only [stopcockref18_RTO.l0]
    have hb1 := dbl_bd hx0 hx (show (0 : Int) ≤ ((i + 1 : Nat) : Int) by omega) (by omega)
    rw [Int.toNat_natCast] at hb1
    have e : 2 * (x * 2 ^ i) = x * 2 ^ (i + 1) := by rw [Int.pow_succ, ← Int.mul_assoc, ← Int.mul_assoc, Int.mul_comm 2 x, Int.mul_assoc x 2, Int.mul_comm 2, ← Int.mul_assoc]
    rw [if_pos (by omega), wrap_id (x := 2 * (x * 2 ^ i)) (by omega) (by omega), e, wrap_id (x := (i : Int) + 1) (by omega) (by omega)]
    have := ih (i + 1) k (by omega) (by omega)
    rw [show ((i + 1 : Nat) : Int) = (i : Int) + 1 by omega] at this
    exact this
theorem rrto_eq (p0 p1 p2 p3 : Int) (h : Bool) (s v b : Int) (k : Nat) (hk : 20 ≤ k) : stopcockref18_RTO.f k p0 p1 p2 p3 h s v b = some (rtoF p0 p1 p2 p3 h s v b) := by
  unfold stopcockref18_RTO.f rtoF
  rw [rbegin_eq]
  simp only [Option.bind_some]
  by_cases ha : ask p0 p1 p2 p3 s v b = 0
  · rw [if_pos ha, if_pos ha]
    obtain ⟨hp, hs⟩ := ask_zero ha
    obtain ⟨hb1, hb2⟩ := base_bd h hp hs
    obtain ⟨h0, h1, h2, h3, h4, h5, h6, h7, h8⟩ := hp
    obtain ⟨g1, g2, g3, g4, g5, g6⟩ := hs
    have go : ∀ x, 0 ≤ x → x ≤ 34359738368 → ∀ k, 19 ≤ k → stopcockref18_RTO.l0 k x 0 p0 p1 p2 p3 h s v b = some (mn (x * 2 ^ b.toNat) p2, 0) := by
      intro x hx0 hx k hk
      have := rrto_l0 p0 p1 p2 p3 h s v b x hx0 hx g5 g6 b.toNat 0 k (by omega) (by omega)
      simpa using this
    obtain ⟨k, rfl⟩ : ∃ m, k = m + 1 := ⟨k - 1, by omega⟩
    cases h with
    | true =>
      have hm : 0 ≤ mx p3 v ∧ mx p3 v ≤ 17179869184 := by unfold mx; split <;> omega
      rw [if_pos rfl, tdiv_pos g1, wrap_id (x := s / 8) (by omega) (by omega), wrap_id (x := s / 8 + mx p3 v) (by omega) (by omega)]
      simp only [stopcockref18_RTO.j0]
      have e : mx (s / 8 + mx p3 v) p1 = baseF p0 p1 p3 true s v := by unfold baseF; rw [if_pos rfl]
      rw [e]
      exact go _ (by omega) (by omega) k (by omega)
    | false =>
      rw [if_neg (by simp)]
      simp only [stopcockref18_RTO.j0]
      have e : mx p0 p1 = baseF p0 p1 p3 false s v := by unfold baseF; rw [if_neg (by simp)]
      rw [e]
      exact go _ (by omega) (by omega) k (by omega)
  · rw [if_neg ha, if_neg ha]

theorem alive_eq (k : Nat) (hk : 5 ≤ k) : stopcocklaw18_alive.f k = some true := by
  unfold stopcocklaw18_alive.f
  simp only [sample_eq _ _ _ _ _ _ _ _ _ k hk, rto_eq _ _ _ _ _ _ _ _ k hk, Option.bind_some, stopcocklaw18_num.f]
  decide +kernel
end Go.Proofs.Ytbdakddmonopmaa.Pure
