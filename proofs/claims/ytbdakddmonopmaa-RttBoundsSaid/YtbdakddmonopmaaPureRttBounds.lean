/- Whatever samples there are and whatever runs out, the state may be, and the wait lies within its bounds; it never goes down by a time that runs out. -/
import Derived.Test.YtbdakddmonopmaaPAx6
import Derived.Test.YtbdakddmonopmaaPlain
namespace Go.Proofs.Ytbdakddmonopmaa.Pure
open Go.RowKit Go.Proofs.Ytbdakddmonopmaa.PA Go.Proofs.YtbdakddmonopmaaW.PrintWords Go.Proofs.YtbdakddmonopmaaW.PrintLast Go.Proofs.YtbdakddmonopmaaW.PrintMore Go.Proofs.Ytbdakddmonopmaa.Util

theorem ask_ok {p0 p1 p2 p3 s v b : Int} (hp : okP p0 p1 p2 p3) (hs : okS s v b) : ask p0 p1 p2 p3 s v b = 0 := by
  unfold ask; rw [if_pos hp, if_pos hs]
theorem chk_ok {p0 p1 p2 p3 : Int} (h : chk p0 p1 p2 p3 = 0) : okP p0 p1 p2 p3 := by
  unfold chk at h
  by_cases hp : okP p0 p1 p2 p3
  · exact hp
  · rw [if_neg hp] at h; omega
theorem sample_ok {p0 p1 p2 p3 : Int} {h : Bool} {s v b r : Int} (hp : okP p0 p1 p2 p3) (hs : okS s v b) : ∃ h' s' v' b' e, sampleF p0 p1 p2 p3 h s v b r = (h', s', v', b', e) ∧ (e = 0 → okS s' v' b') := by
  unfold sampleF
  rw [if_pos (ask_ok hp hs)]
  obtain ⟨g1, g2, g3, g4, g5, g6⟩ := hs
  by_cases hr : 0 ≤ r ∧ r ≤ 1073741824
  · rw [if_pos hr]
    cases h with
    | true =>
      rw [if_pos rfl]
      refine ⟨_, _, _, _, _, rfl, fun _ => ?_⟩
      unfold okS
      by_cases hn : r - s / 8 < 0
      · rw [if_pos hn]; omega
      · rw [if_neg hn]; omega
    | false =>
      rw [if_neg (by simp)]
      refine ⟨_, _, _, _, _, rfl, fun _ => ?_⟩
      unfold okS; omega
  · rw [if_neg hr]
    exact ⟨_, _, _, _, _, rfl, fun h => by omega⟩

theorem rto_ok {p0 p1 p2 p3 : Int} {h : Bool} {s v b : Int} (hp : okP p0 p1 p2 p3) (hs : okS s v b) : ∃ m, rtoF p0 p1 p2 p3 h s v b = (m, 0) ∧ p1 ≤ m ∧ m ≤ p2 := by
  unfold rtoF
  rw [if_pos (ask_ok hp hs)]
  obtain ⟨hb1, hb2⟩ := base_bd h hp hs
  obtain ⟨h0, h1, h2, h3, h4, h5, h6, h7, h8⟩ := hp
  obtain ⟨g1, g2, g3, g4, g5, g6⟩ := hs
  obtain ⟨d1, d2⟩ := dbl_bd (show 0 ≤ baseF p0 p1 p3 h s v by omega) hb2 g5 g6
  refine ⟨_, rfl, ?_⟩
  unfold mn
  split <;> omega
theorem rto_up {p0 p1 p2 p3 : Int} {h : Bool} {s v b : Int} (hp : okP p0 p1 p2 p3) (hs : okS s v b) {m : Int} (hm : rtoF p0 p1 p2 p3 h s v b = (m, 0)) :
    ∃ b' m', backF p0 p1 p2 p3 h s v b = (h, s, v, b', 0) ∧ okS s v b' ∧ rtoF p0 p1 p2 p3 h s v b' = (m', 0) ∧ m ≤ m' := by
  unfold backF
  rw [if_pos (ask_ok hp hs)]
  have hs' := hs
  obtain ⟨g1, g2, g3, g4, g5, g6⟩ := hs
  by_cases hb : b < 16
  · rw [if_pos hb]
    have hs2 : okS s v (b + 1) := ⟨g1, g2, g3, g4, by omega, by omega⟩
    obtain ⟨hb1, hb2⟩ := base_bd h hp hs'
    refine ⟨_, _, rfl, hs2, by unfold rtoF; rw [if_pos (ask_ok hp hs2)], ?_⟩
    unfold rtoF at hm
    rw [if_pos (ask_ok hp hs')] at hm
    simp only [Prod.mk.injEq, and_true] at hm
    subst hm
    have e : (b + 1).toNat = b.toNat + 1 := by omega
    rw [e, Int.pow_succ, ← Int.mul_assoc]
    have h0 : 0 ≤ baseF p0 p1 p3 h s v := by have := hp.2.2.1; omega
    have := Int.mul_nonneg h0 (Int.le_of_lt (pow_pos' b.toNat))
    generalize baseF p0 p1 p3 h s v * 2 ^ b.toNat = z at *
    unfold mn
    split <;> split <;> omega
  · rw [if_neg hb]
    exact ⟨_, _, rfl, hs', hm, Int.le_refl _⟩

theorem bounds_l0 (l : List Int) (hl : l.length * 8 ≤ 140737488351232) (p0 p1 p2 p3 : Int) (hp : okP p0 p1 p2 p3) : ∀ (d i : Nat), i + d = l.length → ∀ (h : Bool) (s v b : Int), okS s v b →
    Ev (fun k => stopcocklaw18_RttBounds.l0 k l i p0 p1 p2 p3 p0 p1 p2 p3 h s v b) true := by
  intro d
  induction d with
  | zero =>
    intro i hi h s v b hs
    refine evStep 5 (f := fun _ => some true) (fun k hk => ?_) (Ev.now _)
    simp only [stopcocklaw18_RttBounds.l0]
    rw [if_neg (by omega)]
  | succ d ih =>
    intro i hi h s v b hs
    obtain ⟨m, hm, m0, m1⟩ := rto_ok (h := h) hp hs
    refine evStep 5 (f := fun k => stopcocklaw18_RttBounds.j1 k l i m false p0 p1 p2 p3 p0 p1 p2 p3 h s v b) (fun k hk => ?_) ?_
    · simp only [stopcocklaw18_RttBounds.l0]
      rw [if_pos (by omega), rto_eq _ _ _ _ _ _ _ _ k hk, hm]
      simp only [Option.bind_some, stopcocklaw18_num.f]
      rw [if_pos trivial, if_neg (by omega)]
      have e : decide (m > p2) = false := by simp; omega
      rw [e]
    · by_cases hneg : rd l (i : Int) < 0
      · obtain ⟨b', m', hb, hs', hm', hle⟩ := rto_up hp hs hm
        refine evStep 5 (fun k hk => ?_) (ih (i + 1) (by omega) h s v b' hs')
        simp only [stopcocklaw18_RttBounds.j1]
        rw [if_neg (by simp), if_pos (by omega), if_pos (by omega), if_pos hneg, back_eq _ _ _ _ _ _ _ _ k hk, hb]
        simp only [Option.bind_some]
        rw [rto_eq _ _ _ _ _ _ _ _ k hk, hm']
        simp only [Option.bind_some, stopcocklaw18_num.f]
        rw [wrap_id (x := 0 + 0) (by omega) (by omega), if_pos (show (0 + 0 : Int) = 0 by rfl), if_neg (by omega), wrap_id (by omega) (by omega)]
        rfl
      · obtain ⟨h', s', v', b', e, he, hok⟩ := sample_ok (h := h) (r := rd l (i : Int)) hp hs
        by_cases e0 : e = 0
        · refine evStep 5 (fun k hk => ?_) (ih (i + 1) (by omega) h' s' v' b' (hok e0))
          simp only [stopcocklaw18_RttBounds.j1]
          rw [if_neg (by simp), if_pos (by omega), if_pos (by omega), if_neg hneg, sample_eq _ _ _ _ _ _ _ _ _ k hk, he]
          simp only [Option.bind_some, stopcocklaw18_num.f]
          rw [if_pos e0, wrap_id (by omega) (by omega)]
          rfl
        · refine evStep 5 (fun k hk => ?_) (ih (i + 1) (by omega) h s v b hs)
          simp only [stopcocklaw18_RttBounds.j1]
          rw [if_neg (by simp), if_pos (by omega), if_pos (by omega), if_neg hneg, sample_eq _ _ _ _ _ _ _ _ _ k hk, he]
          simp only [Option.bind_some, stopcocklaw18_num.f]
          rw [if_neg e0, wrap_id (by omega) (by omega)]
          rfl

theorem RttBounds : stopcocklaw18_RttBounds.Pure := by
  intro p0 p1 p2 p3 l _ _ _ _ hl _
  by_cases hc : chk p0 p1 p2 p3 = 0
  · have h := bounds_l0 l hl p0 p1 p2 p3 (chk_ok hc) l.length 0 (by omega) false 0 0 0 (by unfold okS; omega)
    have h2 : Ev (fun k => stopcocklaw18_RttBounds.f k p0 p1 p2 p3 l) true := by
      refine evSame 5 (fun k hk => ?_) h
      unfold stopcocklaw18_RttBounds.f
      rw [alive_eq k hk, check_eq _ _ _ _ k hk]
      simp only [Option.bind_some, stopcocklaw18_num.f]
      rw [if_pos trivial, if_pos hc]
      rfl
    exact h2.rounds
  · refine ⟨10, ?_⟩
    unfold stopcocklaw18_RttBounds.f
    rw [alive_eq 10 (by omega), check_eq _ _ _ _ 10 (by omega)]
    simp only [Option.bind_some, stopcocklaw18_num.f]
    rw [if_pos trivial, if_neg hc]
end Go.Proofs.Ytbdakddmonopmaa.Pure
