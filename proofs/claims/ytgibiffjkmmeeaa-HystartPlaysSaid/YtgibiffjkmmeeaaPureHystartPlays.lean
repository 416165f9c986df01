import Derived.Test.YtgibiffjkmmeeaaPlainC
import Derived.Test.YtgibiffjkmmeeaaPCx11
namespace Go.Proofs.Ytgibiffjkmmeeaa.Pure
open Go.RowKit Go.Proofs.Ytgibiffjkmmeeaa.PC Go.Proofs.YtgibiffjkmmeeaaW.PrintWords Go.Proofs.YtgibiffjkmmeeaaW.PrintLast Go.Proofs.YtgibiffjkmmeeaaW.PrintMore Go.Proofs.Ytgibiffjkmmeeaa.Util Go.Proofs.Ytgibiffjkmmeeaa.PureC
set_option linter.unusedVariables false
set_option linter.unusedSimpArgs false

abbrev St := Int × Bool × Bool × Int × Int × Int × Int × Int × Int
def inW (x : Int) : Prop := 0 ≤ x ∧ x ≤ 1073741824
instance (x : Int) : Decidable (inW x) := by unfold inW; infer_instance
theorem within_eq (x : Int) : stopcockref22_within.f x = some (decide (inW x)) := by
  unfold stopcockref22_within.f inW
  by_cases h : x ≥ 0
  · rw [if_pos h]; congr 1; exact decide_eq_decide.2 ⟨fun q => ⟨h, q⟩, fun q => q.2⟩
  · rw [if_neg h]; congr 1; exact (decide_eq_false (fun q => h q.1)).symm
theorem rcheck_eq (ph : Int) (h1 h2 : Bool) (la no sa ba ro : Int) : stopcockref22_Check.f ph h1 h2 la no sa ba ro = some (if Hand.may ph la no sa ba ro then 0 else 171) := by
  unfold stopcockref22_Check.f
  simp only [within_eq, Option.bind_some, decide_eq_true_eq]
  by_cases h : Hand.may ph la no sa ba ro
  · have g := h
    unfold Hand.may at g
    rw [if_pos h, if_neg (by omega), if_neg (by omega), if_pos (show inW la by unfold inW; omega), if_pos (show inW no by unfold inW; omega), if_pos (show inW ba by unfold inW; omega), if_pos (show inW sa by unfold inW; omega), if_pos (show inW ro by unfold inW; omega)]
  · have g := h
    unfold Hand.may at g
    rw [if_neg h]
    refine ite_to (fun _ => rfl) fun q1 => ite_to (fun _ => rfl) fun q2 => ite_to (fun q3 => ite_to (fun q4 => ite_to (fun q5 => ite_to (fun q6 => ite_to (fun q7 => ?_) fun _ => rfl) fun _ => rfl) fun _ => rfl) fun _ => rfl) fun _ => rfl
    unfold inW at q3 q4 q5 q6 q7
    exact absurd (by omega) g
def RF (ph : Int) (h1 h2 : Bool) (la no sa ba ro : Int) : St := if Hand.may ph la no sa ba ro then rndF ph h1 h2 la no sa ba ro else (0, false, false, 0, 0, 0, 0, 0, 171)
theorem round_eq (ph : Int) (h1 h2 : Bool) (la no sa ba ro : Int) : hystart_Round.f ph h1 h2 la no sa ba ro = some (RF ph h1 h2 la no sa ba ro) := by
  unfold RF
  by_cases h : Hand.may ph la no sa ba ro
  · rw [if_pos h, rnd_eq _ _ _ _ _ _ _ _ h]
  · rw [if_neg h]
    unfold hystart_Round.f
    rw [check_bad h]
    simp only [Option.bind_some]
    rw [if_neg (by decide)]
theorem rround_eq (ph : Int) (h1 h2 : Bool) (la no sa ba ro : Int) : stopcockref22_Round.f ph h1 h2 la no sa ba ro = some (RF ph h1 h2 la no sa ba ro) := by
  unfold RF stopcockref22_Round.f
  rw [rcheck_eq]
  simp only [Option.bind_some]
  by_cases h : Hand.may ph la no sa ba ro
  · rw [if_pos h, if_pos h, if_pos rfl]
    unfold rndF
    have g := h
    unfold Hand.may at g
    rw [wrap_id (x := ro + 1) (by omega) (by omega)]
    by_cases c : ph = 1
    · rw [if_pos c, if_pos c]
      by_cases d : mn (ro + 1) 1073741824 ≥ 5
      · rw [if_pos d, if_pos d]
      · rw [if_neg d, if_neg d, c]
    · rw [if_neg c, if_neg c]
  · rw [if_neg h, if_neg h, if_neg (by decide)]
def LF (ph : Int) (h1 h2 : Bool) (la no sa ba ro : Int) : St := if Hand.may ph la no sa ba ro then (2, h1, h2, la, no, sa, ba, ro, 0) else (0, false, false, 0, 0, 0, 0, 0, 171)
theorem loss_eq (ph : Int) (h1 h2 : Bool) (la no sa ba ro : Int) : hystart_Loss.f ph h1 h2 la no sa ba ro = some (LF ph h1 h2 la no sa ba ro) := by
  unfold LF hystart_Loss.f
  by_cases h : Hand.may ph la no sa ba ro
  · rw [if_pos h, check_ok h]; rfl
  · rw [if_neg h, check_bad h]; rfl
theorem rloss_eq (ph : Int) (h1 h2 : Bool) (la no sa ba ro : Int) : stopcockref22_Loss.f ph h1 h2 la no sa ba ro = some (LF ph h1 h2 la no sa ba ro) := by
  unfold LF stopcockref22_Loss.f
  rw [rcheck_eq]
  by_cases h : Hand.may ph la no sa ba ro
  · rw [if_pos h, if_pos h]; rfl
  · rw [if_neg h, if_neg h]; rfl
def SF (ph : Int) (h1 h2 : Bool) (la no sa ba ro r : Int) : St := if Hand.may ph la no sa ba ro then (if inW r then sampF ph h1 h2 la no sa ba ro r else (0, false, false, 0, 0, 0, 0, 0, 4)) else (0, false, false, 0, 0, 0, 0, 0, 171)
theorem samp_all (ph : Int) (h1 h2 : Bool) (la no sa ba ro r : Int) (k : Nat) (hk : 3 ≤ k) : hystart_Sample.f k ph h1 h2 la no sa ba ro r = some (SF ph h1 h2 la no sa ba ro r) := by
  unfold SF
  by_cases h : Hand.may ph la no sa ba ro
  · rw [if_pos h]
    by_cases g : inW r
    · rw [if_pos g, samp_eq _ _ _ _ _ _ _ _ _ h g.1 g.2 k hk]
    · rw [if_neg g, samp_range _ _ _ _ _ _ _ _ _ h g k hk]
  · rw [if_neg h, samp_state _ _ _ _ _ _ _ _ _ h]
theorem bnd_ref (la : Int) : mx 4 (mn 16 (la / 8)) = bnd la := by
  unfold bnd
  have h1 := mn_or 16 (la / 8); have h2 := mx_or 4 (mn 16 (la / 8)); have h3 := mx_or (la / 8) 4; have h4 := mn_or (mx (la / 8) 4) 16
  omega
theorem rsamp_j1 (ph : Int) (h1 h2 : Bool) (la n sa ba ro : Int) (k : Nat) (l0 : 0 ≤ la) (l1 : la ≤ 1073741824) (s0 : 0 ≤ sa) (s1 : sa ≤ 1073741824) (p0 : 0 ≤ ph) (p1 : ph ≤ 2) :
    stopcockref22_Sample.j1 (k + 1 + 1) ph h1 h2 la n sa ba ro = some (if mn (sa + 1) 1073741824 < 8 then (ph, h1, true, la, n, mn (sa + 1) 1073741824, ba, ro, 0)
      else if ph = 0 ∧ h1 = true ∧ n ≥ la + bnd la then (1, h1, true, la, n, mn (sa + 1) 1073741824, n, 0, 0)
      else if ph = 1 ∧ n < ba then (0, h1, true, la, n, mn (sa + 1) 1073741824, ba, ro, 0)
      else (ph, h1, true, la, n, mn (sa + 1) 1073741824, ba, ro, 0)) := by
  have hb := bnd_bd la
  simp only [stopcockref22_Sample.j1, stopcockref22_Sample.j2]
  rw [wrap_id (x := sa + 1) (by omega) (by omega), tdiv_pos l0, wrap_id (x := la / 8) (by omega) (by omega), bnd_ref, wrap_id (x := la + bnd la) (by omega) (by omega)]
  by_cases c1 : mn (sa + 1) 1073741824 < 8
  · rw [if_pos c1, if_pos c1]
  · rw [if_neg c1, if_neg c1]
    have rest : ∀ (c2 : ¬ (ph = 0 ∧ h1 = true ∧ n ≥ la + bnd la)), (if ph = 1 then (if n < ba then some ((0 : Int), h1, true, la, n, mn (sa + 1) 1073741824, ba, ro, (0 : Int)) else some (ph, h1, true, la, n, mn (sa + 1) 1073741824, ba, ro, 0)) else some (ph, h1, true, la, n, mn (sa + 1) 1073741824, ba, ro, 0)) =
        some (if ph = 0 ∧ h1 = true ∧ n ≥ la + bnd la then (1, h1, true, la, n, mn (sa + 1) 1073741824, n, 0, 0) else if ph = 1 ∧ n < ba then (0, h1, true, la, n, mn (sa + 1) 1073741824, ba, ro, 0) else (ph, h1, true, la, n, mn (sa + 1) 1073741824, ba, ro, 0)) := by
      intro c2
      rw [if_neg c2]
      by_cases c3 : ph = 1
      · rw [if_pos c3]
        by_cases c4 : n < ba
        · rw [if_pos c4, if_pos ⟨c3, c4⟩]
        · rw [if_neg c4, if_neg (fun q => c4 q.2)]
      · rw [if_neg c3, if_neg (fun q => c3 q.1)]
    by_cases c2 : ph = 0
    · rw [if_pos c2]
      by_cases c5 : h1 = true
      · rw [if_pos c5]
        by_cases c6 : n ≥ la + bnd la
        · rw [decide_eq_true c6, if_pos rfl, if_pos ⟨c2, c5, c6⟩]
        · rw [decide_eq_false c6, if_neg Bool.false_ne_true]
          exact rest (fun q => c6 q.2.2)
      · rw [if_neg c5, if_neg Bool.false_ne_true]
        exact rest (fun q => c5 q.2.1)
    · rw [if_neg c2, if_neg Bool.false_ne_true]
      exact rest (fun q => c2 q.1)
theorem rsamp_all (ph : Int) (h1 h2 : Bool) (la no sa ba ro r : Int) (k : Nat) (hk : 3 ≤ k) : stopcockref22_Sample.f k ph h1 h2 la no sa ba ro r = some (SF ph h1 h2 la no sa ba ro r) := by
  obtain ⟨k, rfl⟩ : ∃ j, k = j + 1 + 1 + 1 := ⟨k - 3, by omega⟩
  unfold SF stopcockref22_Sample.f
  rw [rcheck_eq, within_eq]
  simp only [Option.bind_some, decide_eq_true_eq]
  by_cases h : Hand.may ph la no sa ba ro
  · rw [if_pos h, if_pos h, if_pos rfl]
    have g := h
    unfold Hand.may at g
    by_cases c : inW r
    · rw [if_pos c, if_pos c]
      have hj : ∀ n, stopcockref22_Sample.j1 (k + 1 + 1) ph h1 h2 la n sa ba ro = _ := fun n => rsamp_j1 ph h1 h2 la n sa ba ro k (by omega) (by omega) (by omega) (by omega) (by omega) (by omega)
      unfold sampF
      cases h2 with
      | true =>
        rw [if_pos rfl]
        have hx := mn_or r no
        simp only [stopcockref22_Sample.j0, if_true]
        by_cases d : r < no
        · rw [decide_eq_true d, if_pos rfl, hj, show mn r no = r by omega]
        · rw [decide_eq_false d, if_neg Bool.false_ne_true, hj, show mn r no = no by omega]
      | false =>
        rw [if_neg Bool.false_ne_true]
        simp only [stopcockref22_Sample.j0, Bool.false_eq_true, if_false]
        rw [if_pos trivial, hj]
    · rw [if_neg c, if_neg c]
  · rw [if_neg h, if_neg h, if_neg (by decide)]
def EF (ph : Int) (h1 h2 : Bool) (la no sa ba ro : Int) (x : S37) : St := if x.f0 = 0 then RF ph h1 h2 la no sa ba ro else if x.f0 = 1 then SF ph h1 h2 la no sa ba ro x.f1 else LF ph h1 h2 la no sa ba ro
theorem phases (ph : Int) (h1 h2 : Bool) (la no sa ba ro : Int) (x : S37) (h0 : (EF ph h1 h2 la no sa ba ro x).2.2.2.2.2.2.2.2 = 0) :
    (ph = 2 → (EF ph h1 h2 la no sa ba ro x).1 = 2) ∧ (ph = 1 → (EF ph h1 h2 la no sa ba ro x).1 = 0 → x.f0 = 1 ∧ ¬ (x.f1 ≥ ba ∧ no ≥ ba)) := by
  unfold EF RF SF LF at *
  by_cases h : Hand.may ph la no sa ba ro
  · simp only [if_pos h] at h0 ⊢
    by_cases c0 : x.f0 = 0
    · rw [if_pos c0]
      unfold rndF
      by_cases c : ph = 1
      · rw [if_pos c]; dsimp only; split <;> omega
      · rw [if_neg c]; dsimp only; omega
    · rw [if_neg c0] at h0 ⊢
      by_cases c1 : x.f0 = 1
      · rw [if_pos c1] at h0 ⊢
        by_cases cr : inW x.f1
        · rw [if_pos cr]
          unfold sampF
          have hn : (if h2 = true then mn x.f1 no else x.f1) < ba → ¬ (x.f1 ≥ ba ∧ no ≥ ba) := by
            have hx := mn_or x.f1 no
            split <;> omega
          generalize (if h2 = true then mn x.f1 no else x.f1) = n at *
          by_cases d1 : mn (sa + 1) 1073741824 < 8
          · rw [if_pos d1]; dsimp only; omega
          · rw [if_neg d1]
            by_cases d2 : ph = 0 ∧ h1 = true ∧ n ≥ la + bnd la
            · rw [if_pos d2]; dsimp only; omega
            · rw [if_neg d2]
              by_cases d3 : ph = 1 ∧ n < ba
              · rw [if_pos d3]; dsimp only; exact ⟨fun q => by omega, fun _ _ => ⟨c1, hn d3.2⟩⟩
              · rw [if_neg d3]; dsimp only; omega
        · rw [if_neg cr] at h0; exact absurd h0 (by decide)
      · rw [if_neg c1]; dsimp only; omega
  · simp only [if_neg h] at h0
    exfalso
    revert h0
    split <;> first | (intro q; exact absurd q (by decide)) | (split <;> intro q <;> exact absurd q (by decide))
theorem round (l : List S37) (hl : l.length < 1000000000000000) : ∀ (d i : Nat) (ph : Int) (h1 h2 : Bool) (la no sa ba ro : Int), i + d = l.length → Ev (fun k => stopcocklaw22_HystartPlays.l0 k l (i : Int) ph h1 h2 la no sa ba ro ph h1 h2 la no sa ba ro) true := by
  intro d
  induction d with
  | zero =>
    intro i ph h1 h2 la no sa ba ro h
    refine evStep 0 (f := fun k => stopcocklaw22_alive.f k) (fun k _ => ?_) alive_ev
    simp only [stopcocklaw22_HystartPlays.l0]
    rw [if_neg (by omega)]
    cases stopcocklaw22_alive.f k <;> rfl
  | succ d ih =>
    intro i ph h1 h2 la no sa ba ro h
    obtain ⟨x, hx⟩ : ∃ x, rd_T37 l (i : Int) = x := ⟨_, rfl⟩
    obtain ⟨s, hs⟩ : ∃ s, EF ph h1 h2 la no sa ba ro x = s := ⟨_, rfl⟩
    have hp := phases ph h1 h2 la no sa ba ro x
    rw [hs] at hp
    obtain ⟨s0, s1, s2, s3, s4, s5, s6, s7, s8⟩ := s
    obtain ⟨K1, ih1⟩ := ih (i + 1) s0 s1 s2 s3 s4 s5 s6 s7 (by omega)
    obtain ⟨K2, ih2⟩ := ih (i + 1) ph h1 h2 la no sa ba ro (by omega)
    have hw : wrap64 ((i : Int) + 1) = ((i + 1 : Nat) : Int) := by rw [wrap_id (by omega) (by omega)]; omega
    refine ⟨K1 + K2 + 10, fun k hk => ?_⟩
    obtain ⟨k, rfl⟩ : ∃ j, k = j + 1 + 1 := ⟨k - 2, by omega⟩
    have fin : stopcocklaw22_HystartPlays.j1 (k + 1) l (i : Int) s8 s8 s0 s1 s2 s3 s4 s5 s6 s7 s0 s1 s2 s3 s4 s5 s6 s7 ph h1 h2 la no sa ba ro = some true := by
      simp only [stopcocklaw22_HystartPlays.j1, stopcocklaw22_num.f, Option.bind_some, if_true_eq, beq_self_eq_true, Bool.not_true, Bool.or_self, hw, hx]
      rw [if_neg Bool.false_ne_true]
      by_cases c8 : s8 = 0
      · obtain ⟨p1, p2⟩ := hp c8
        dsimp only at p1 p2
        have L := ih1 k (by omega)
        rw [if_pos c8]
        by_cases c2 : ph = 2
        · rw [if_pos c2, if_pos (p1 c2), if_neg (by omega)]; exact L
        · rw [if_neg c2]
          by_cases c1 : ph = 1
          · rw [if_pos c1]
            by_cases c0 : s0 = 0
            · obtain ⟨q1, q2⟩ := p2 c1 c0
              rw [if_pos c0, if_pos (by omega), if_pos (by omega), if_pos q1]
              by_cases e1 : x.f1 ≥ ba
              · rw [if_pos e1, if_neg (fun q => q2 ⟨e1, q⟩)]; exact L
              · rw [if_neg e1]; exact L
            · rw [if_neg c0]; exact L
          · rw [if_neg c1]; exact L
      · rw [if_neg c8]
        exact ih2 k (by omega)
    simp only [stopcocklaw22_HystartPlays.l0]
    rw [if_pos (by omega), if_pos (by omega), hx]
    unfold EF at hs
    by_cases c0 : x.f0 = 0
    · rw [if_pos c0] at hs ⊢
      rw [round_eq, rround_eq, hs]
      simp only [Option.bind_some]
      exact fin
    · rw [if_neg c0] at hs ⊢
      by_cases c1 : x.f0 = 1
      · rw [if_pos c1] at hs ⊢
        rw [samp_all _ _ _ _ _ _ _ _ _ _ (by omega), rsamp_all _ _ _ _ _ _ _ _ _ _ (by omega), hs]
        simp only [Option.bind_some]
        exact fin
      · rw [if_neg c1] at hs ⊢
        rw [loss_eq, rloss_eq, hs]
        simp only [Option.bind_some]
        exact fin
theorem HystartPlays : stopcocklaw22_HystartPlays.Pure := by
  intro l hl _
  obtain ⟨K, hK⟩ := round l (by omega) l.length 0 0 false false 0 0 0 0 0 (by omega)
  exact ⟨K, hK K (Nat.le_refl _)⟩
end Go.Proofs.Ytgibiffjkmmeeaa.Pure
