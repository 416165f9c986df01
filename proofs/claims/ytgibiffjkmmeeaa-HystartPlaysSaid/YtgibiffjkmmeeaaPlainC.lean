/- As Plain, for the texts of the namespace PC. -/
import Derived.Test.YtgibiffjkmmeeaaPCx5
import Derived.Test.YtgibiffjkmmeeaaUtil
namespace Go.Proofs.Ytgibiffjkmmeeaa.PureC
open Go.RowKit Go.Proofs.Ytgibiffjkmmeeaa.PC Go.Proofs.YtgibiffjkmmeeaaW.PrintWords Go.Proofs.YtgibiffjkmmeeaaW.PrintLast Go.Proofs.YtgibiffjkmmeeaaW.PrintMore Go.Proofs.Ytgibiffjkmmeeaa.Util
set_option linter.unusedVariables false
set_option linter.unusedSimpArgs false

def bnd (la : Int) : Int := mn (mx (la / 8) 4) 16
theorem bnd_bd (la : Int) : 4 ≤ bnd la ∧ bnd la ≤ 16 := by unfold bnd mn mx; split <;> split <;> omega
theorem bound_eq (la : Int) (h0 : 0 ≤ la) (h1 : la ≤ 1073741824) : hystart_bound.f la = some (bnd la) := by
  unfold hystart_bound.f bnd
  rw [tdiv_pos h0, wrap_id (by omega) (by omega)]

def sampF (ph : Int) (h1 h2 : Bool) (la no sa ba ro r : Int) : Int × Bool × Bool × Int × Int × Int × Int × Int × Int :=
  if mn (sa + 1) 1073741824 < 8 then (ph, h1, true, la, (if h2 = true then mn r no else r), mn (sa + 1) 1073741824, ba, ro, 0)
  else if ph = 0 ∧ h1 = true ∧ (if h2 = true then mn r no else r) ≥ la + bnd la then (1, h1, true, la, (if h2 = true then mn r no else r), mn (sa + 1) 1073741824, (if h2 = true then mn r no else r), 0, 0)
  else if ph = 1 ∧ (if h2 = true then mn r no else r) < ba then (0, h1, true, la, (if h2 = true then mn r no else r), mn (sa + 1) 1073741824, ba, ro, 0)
  else (ph, h1, true, la, (if h2 = true then mn r no else r), mn (sa + 1) 1073741824, ba, ro, 0)

theorem check_ok {ph : Int} {h1 h2 : Bool} {la no sa ba ro : Int} (h : Hand.may ph la no sa ba ro) : hystart_Check.f ph h1 h2 la no sa ba ro = some 0 := by
  unfold hystart_Check.f Hand.checkF; rw [if_pos h]
theorem check_bad {ph : Int} {h1 h2 : Bool} {la no sa ba ro : Int} (h : ¬ Hand.may ph la no sa ba ro) : hystart_Check.f ph h1 h2 la no sa ba ro = some 171 := by
  unfold hystart_Check.f Hand.checkF; rw [if_neg h]

theorem samp_j1 (n : Int) (ph : Int) (h1 h2 : Bool) (la no sa ba ro : Int) (k : Nat) (hla0 : 0 ≤ la) (hla1 : la ≤ 1073741824) (hsa0 : 0 ≤ sa) (hsa1 : sa ≤ 1073741824) :
    hystart_Sample.j1 (k + 1 + 1) n ph h1 h2 la no sa ba ro = some (
      if mn (sa + 1) 1073741824 < 8 then (ph, h1, true, la, n, mn (sa + 1) 1073741824, ba, ro, 0)
      else if ph = 0 ∧ h1 = true ∧ n ≥ la + bnd la then (1, h1, true, la, n, mn (sa + 1) 1073741824, n, 0, 0)
      else if ph = 1 ∧ n < ba then (0, h1, true, la, n, mn (sa + 1) 1073741824, ba, ro, 0)
      else (ph, h1, true, la, n, mn (sa + 1) 1073741824, ba, ro, 0)) := by
  obtain ⟨b0, b1⟩ := bnd_bd la
  simp only [hystart_Sample.j1]
  rw [wrap_id (x := sa + 1) (by omega) (by omega)]
  by_cases c : mn (sa + 1) 1073741824 < 8
  · rw [if_pos c, if_pos c]
  · rw [if_neg c, if_neg c]
    by_cases c0 : ph = 0
    · subst c0
      rw [if_pos rfl]
      cases h1 with
      | true =>
        rw [if_pos rfl, bound_eq la hla0 hla1]
        simp only [Option.bind_some, hystart_Sample.j2]
        rw [wrap_id (x := la + bnd la) (by omega) (by omega)]
        by_cases c1 : la + bnd la ≤ n
        · simp [c1]
        · simp [c1]
      | false =>
        rw [if_neg (by simp)]
        simp [hystart_Sample.j2]
    · rw [if_neg c0]
      by_cases c1 : ph = 1
      · subst c1
        by_cases c2 : n < ba
        · simp [hystart_Sample.j2, c2]
        · simp [hystart_Sample.j2, c2]
      · simp [hystart_Sample.j2, c0, c1]
theorem samp_eq (ph : Int) (h1 h2 : Bool) (la no sa ba ro r : Int) (h : Hand.may ph la no sa ba ro) (r0 : 0 ≤ r) (r1 : r ≤ 1073741824) (k : Nat) (hk : 3 ≤ k) :
    hystart_Sample.f k ph h1 h2 la no sa ba ro r = some (sampF ph h1 h2 la no sa ba ro r) := by
  obtain ⟨k, rfl⟩ : ∃ m, k = m + 1 + 1 + 1 := ⟨k - 3, by omega⟩
  unfold hystart_Sample.f
  rw [check_ok h]
  simp only [Option.bind_some]
  obtain ⟨g1, g2, g3, g4, g5, g6, g7, g8, g9, g10, g11, g12⟩ := h
  rw [if_pos trivial, if_neg (by omega)]
  have hd : decide (r > 1073741824) = false := by simp; omega
  rw [hd]
  simp only [hystart_Sample.j0]
  rw [if_neg (by simp)]
  unfold sampF
  cases h2 with
  | true => rw [if_pos rfl, samp_j1 _ _ _ _ _ _ _ _ _ k g3 g4 g7 g8]; simp only [if_true]
  | false => rw [if_neg (by simp), samp_j1 _ _ _ _ _ _ _ _ _ k g3 g4 g7 g8]; simp only [Bool.false_eq_true, if_false]
theorem samp_range (ph : Int) (h1 h2 : Bool) (la no sa ba ro r : Int) (h : Hand.may ph la no sa ba ro) (hr : ¬ (0 ≤ r ∧ r ≤ 1073741824)) (k : Nat) (hk : 3 ≤ k) :
    hystart_Sample.f k ph h1 h2 la no sa ba ro r = some (0, false, false, 0, 0, 0, 0, 0, 4) := by
  obtain ⟨k, rfl⟩ : ∃ m, k = m + 1 + 1 + 1 := ⟨k - 3, by omega⟩
  unfold hystart_Sample.f
  rw [check_ok h]
  simp only [Option.bind_some]
  rw [if_pos trivial]
  by_cases c : r < 0
  · rw [if_pos c]
    simp only [hystart_Sample.j0]
    rw [if_pos trivial]
  · rw [if_neg c]
    have hd : decide (r > 1073741824) = true := by simp; omega
    rw [hd]
    simp only [hystart_Sample.j0]
    rw [if_pos trivial]
theorem samp_state (ph : Int) (h1 h2 : Bool) (la no sa ba ro r : Int) (h : ¬ Hand.may ph la no sa ba ro) (k : Nat) : hystart_Sample.f k ph h1 h2 la no sa ba ro r = some (0, false, false, 0, 0, 0, 0, 0, 171) := by
  unfold hystart_Sample.f
  rw [check_bad h]
  simp only [Option.bind_some]
  rw [if_neg (by omega)]

def rndF (ph : Int) (h1 h2 : Bool) (la no sa ba ro : Int) : Int × Bool × Bool × Int × Int × Int × Int × Int × Int :=
  if ph = 1 then (if mn (ro + 1) 1073741824 ≥ 5 then 2 else 1, h2, false, no, 0, 0, ba, mn (ro + 1) 1073741824, 0) else (ph, h2, false, no, 0, 0, ba, ro, 0)
theorem rnd_eq (ph : Int) (h1 h2 : Bool) (la no sa ba ro : Int) (h : Hand.may ph la no sa ba ro) : hystart_Round.f ph h1 h2 la no sa ba ro = some (rndF ph h1 h2 la no sa ba ro) := by
  unfold hystart_Round.f rndF
  rw [check_ok h]
  simp only [Option.bind_some]
  obtain ⟨g1, g2, g3, g4, g5, g6, g7, g8, g9, g10, g11, g12⟩ := h
  rw [if_pos trivial, wrap_id (x := ro + 1) (by omega) (by omega)]
  by_cases c : ph = 1
  · rw [if_pos c, if_pos c]
    by_cases d : mn (ro + 1) 1073741824 ≥ 5
    · rw [if_pos d, if_pos d]
    · rw [if_neg d, if_neg d, c]
  · rw [if_neg c, if_neg c]

/-- Samples of one and the same time, from the j-th on to the eighth: then the next element. -/
theorem same_time (ph : Int) (h1 h2 : Bool) (la v sa ba ro : Int) (hs : sa + 1 < 8) (h0 : 0 ≤ sa) : sampF ph h1 true la v sa ba ro v = (ph, h1, true, la, v, sa + 1, ba, ro, 0) := by
  unfold sampF
  have e : mn (sa + 1) 1073741824 = sa + 1 := by unfold mn; rw [if_neg (by omega)]
  rw [e, if_pos hs, if_pos rfl]
  have e2 : mn v v = v := by unfold mn; rw [if_neg (by omega)]
  rw [e2]
theorem first_time (ph : Int) (h1 : Bool) (la no v ba ro : Int) : sampF ph h1 false la no 0 ba ro v = (ph, h1, true, la, v, 1, ba, ro, 0) := by
  unfold sampF
  have e : mn (0 + 1) 1073741824 = 1 := by unfold mn; rw [if_neg (by omega)]; rfl
  rw [e, if_pos (by omega), if_neg (by simp)]
/-- The phase, the base and the rounds behind the eighth. -/
def fin (ph : Int) (h1 : Bool) (la v ba ro : Int) : Int × Int × Int :=
  if ph = 0 ∧ h1 = true ∧ v ≥ la + bnd la then (1, v, 0) else if ph = 1 ∧ v < ba then (0, ba, ro) else (ph, ba, ro)
theorem eighth_time (ph : Int) (h1 : Bool) (la v sa ba ro : Int) (hs : 7 ≤ sa) (hs2 : sa < 1000) : sampF ph h1 true la v sa ba ro v = ((fin ph h1 la v ba ro).1, h1, true, la, v, sa + 1, (fin ph h1 la v ba ro).2.1, (fin ph h1 la v ba ro).2.2, 0) := by
  unfold sampF fin
  have e : mn (sa + 1) 1073741824 = sa + 1 := by unfold mn; rw [if_neg (by omega)]
  rw [e, if_neg (by omega), if_pos rfl]
  have e2 : mn v v = v := by unfold mn; rw [if_neg (by omega)]
  rw [e2]
  by_cases c : ph = 0 ∧ h1 = true ∧ v ≥ la + bnd la
  · rw [if_pos c, if_pos c]
  · rw [if_neg c, if_neg c]
    by_cases d : ph = 1 ∧ v < ba
    · rw [if_pos d, if_pos d]
    · rw [if_neg d, if_neg d]

theorem rounds_l1 (l : List Int) (i : Nat) (hi : i < l.length) (hl : l.length ≤ 1000) (v : Int) (hv : rd l i = v) (v0 : 0 ≤ v) (v1 : v ≤ 1073741824) (ph : Int) (h1 : Bool) (la ba ro : Int)
    (hm : ∀ sa : Int, 0 ≤ sa → sa ≤ 8 → Hand.may ph la v sa ba ro) {r : Int × Bool × Bool × Int × Int × Int × Int × Int}
    (hnext : Ev (fun k => stopcocklaw22_rounds.l0 k l ((i : Int) + 1) (fin ph h1 la v ba ro).1 h1 true la v 8 (fin ph h1 la v ba ro).2.1 (fin ph h1 la v ba ro).2.2) r) :
    ∀ (d j : Nat), j + d = 8 → 1 ≤ j → j < 8 → Ev (fun k => stopcocklaw22_rounds.l1 k l i j ph h1 true la v j ba ro) r := by
  intro d
  induction d with
  | zero => intro j hj h1' h2; omega
  | succ d ih =>
    intro j hj h1' h2
    by_cases h7 : j = 7
    · subst h7
      refine evStep 3 (f := fun k => stopcocklaw22_rounds.l1 k l i 8 (fin ph h1 la v ba ro).1 h1 true la v 8 (fin ph h1 la v ba ro).2.1 (fin ph h1 la v ba ro).2.2) (fun k hk => ?_) ?_
      · simp only [stopcocklaw22_rounds.l1]
        rw [if_pos (by omega), if_pos (by omega), if_pos (by omega), hv, samp_eq _ _ _ _ _ _ _ _ _ (hm _ (by omega) (by omega)) v0 v1 k hk, eighth_time _ _ _ _ _ _ _ (by omega) (by omega)]
        simp only [Option.bind_some]
        rw [wrap_id (by omega) (by omega)]
        rfl
      · refine evStep 3 (fun k hk => ?_) hnext
        simp only [stopcocklaw22_rounds.l1]
        rw [if_neg (by omega), wrap_id (by omega) (by omega)]
    · refine evStep 3 (fun k hk => ?_) (ih (j + 1) (by omega) (by omega) (by omega))
      simp only [stopcocklaw22_rounds.l1]
      rw [if_pos (by omega), if_pos (by omega), if_pos (by omega), hv, samp_eq _ _ _ _ _ _ _ _ _ (hm _ (by omega) (by omega)) v0 v1 k hk, same_time _ _ true _ _ _ _ _ (by omega) (by omega)]
      simp only [Option.bind_some]
      rw [wrap_id (by omega) (by omega)]
      rfl
theorem fresh (l : List Int) (i : Nat) (hi : i < l.length) (hl : l.length ≤ 1000) (v : Int) (hv : rd l i = v) (v0 : 0 ≤ v) (v1 : v ≤ 1073741824) (ph : Int) (h1 : Bool) (la ba ro : Int)
    (hm : ∀ no sa : Int, 0 ≤ no → no ≤ 1073741824 → 0 ≤ sa → sa ≤ 8 → Hand.may ph la no sa ba ro) {r : Int × Bool × Bool × Int × Int × Int × Int × Int}
    (hnext : Ev (fun k => stopcocklaw22_rounds.l0 k l ((i : Int) + 1) (fin ph h1 la v ba ro).1 h1 true la v 8 (fin ph h1 la v ba ro).2.1 (fin ph h1 la v ba ro).2.2) r) :
    Ev (fun k => stopcocklaw22_rounds.l1 k l i 0 ph h1 false la 0 0 ba ro) r := by
  refine evStep 3 (fun k hk => ?_) (rounds_l1 l i hi hl v hv v0 v1 ph h1 la ba ro (fun sa a b => hm v sa v0 v1 a b) hnext 7 1 rfl (by omega) (by omega))
  simp only [stopcocklaw22_rounds.l1]
  rw [if_pos (by omega), if_pos (by omega), if_pos (by omega), hv, samp_eq _ _ _ _ _ _ _ _ _ (hm _ _ (by omega) (by omega) (by omega) (by omega)) v0 v1 k hk, first_time]
  simp only [Option.bind_some]
  rw [wrap_id (by omega) (by omega)]
  rfl
/-- A whole round. -/
theorem rounds_step (l : List Int) (i : Nat) (hi : i < l.length) (hl : l.length ≤ 1000) (v : Int) (hv : rd l i = v) (v0 : 0 ≤ v) (v1 : v ≤ 1073741824) (ph : Int) (h1 h2 : Bool) (la no sa ba ro : Int)
    (hm : Hand.may ph la no sa ba ro) (ph1 ro1 ph2 ba2 ro2 : Int) (e1 : rndF ph h1 h2 la no sa ba ro = (ph1, h2, false, no, 0, 0, ba, ro1, 0)) (e2 : fin ph1 h2 no v ba ro1 = (ph2, ba2, ro2))
    {r : Int × Bool × Bool × Int × Int × Int × Int × Int}
    (hnext : Ev (fun k => stopcocklaw22_rounds.l0 k l ((i : Int) + 1) ph2 h2 true no v 8 ba2 ro2) r) :
    Ev (fun k => stopcocklaw22_rounds.l0 k l i ph h1 h2 la no sa ba ro) r := by
  have hm1 : ∀ no' sa' : Int, 0 ≤ no' → no' ≤ 1073741824 → 0 ≤ sa' → sa' ≤ 8 → Hand.may ph1 no no' sa' ba ro1 := by
    intro no' sa' a b c d
    obtain ⟨g1, g2, g3, g4, g5, g6, g7, g8, g9, g10, g11, g12⟩ := hm
    unfold rndF at e1
    by_cases c1 : ph = 1
    · rw [if_pos c1] at e1
      simp only [Prod.mk.injEq] at e1
      obtain ⟨q1, -, -, -, -, -, -, q2, -⟩ := e1
      have hmn : 0 ≤ mn (ro + 1) 1073741824 ∧ mn (ro + 1) 1073741824 ≤ 1073741824 := by unfold mn; split <;> omega
      have hp : ph1 = 2 ∨ ph1 = 1 := by
        by_cases c2 : mn (ro + 1) 1073741824 ≥ 5
        · rw [if_pos c2] at q1; omega
        · rw [if_neg c2] at q1; omega
      unfold Hand.may; omega
    · rw [if_neg c1] at e1
      simp only [Prod.mk.injEq] at e1
      unfold Hand.may; omega
  refine evStep 3 (fun k hk => ?_) (fresh l i hi hl v hv v0 v1 ph1 h2 no ba ro1 hm1 (by rw [e2]; exact hnext))
  simp only [stopcocklaw22_rounds.l0]
  rw [if_pos (by omega), rnd_eq _ _ _ _ _ _ _ _ hm, e1]
  rfl
theorem rounds_end (l : List Int) (ph : Int) (h1 h2 : Bool) (la no sa ba ro : Int) : Ev (fun k => stopcocklaw22_rounds.l0 k l l.length ph h1 h2 la no sa ba ro) (ph, h1, h2, la, no, sa, ba, ro) := by
  refine evStep 0 (f := fun _ => some (ph, h1, h2, la, no, sa, ba, ro)) (fun k hk => ?_) (Ev.now _)
  simp only [stopcocklaw22_rounds.l0]
  rw [if_neg (by omega)]

theorem rounds_1 : Ev (fun k => stopcocklaw22_rounds.f k [100]) (0, false, true, 0, 100, 8, 0, 0) :=
  rounds_step [100] 0 (by decide) (by decide) 100 rfl (by decide) (by decide) 0 false false 0 0 0 0 0 (by decide) 0 0 0 0 0 rfl (by decide) (rounds_end [100] _ _ _ _ _ _ _ _)
theorem rounds_2 (a b : Int) (a0 : 0 ≤ a) (a1 : a ≤ 100000) (b0 : 0 ≤ b) (b1 : b ≤ 100000) (ph2 ba2 ro2 : Int) (e : fin 0 true a b 0 0 = (ph2, ba2, ro2)) : Ev (fun k => stopcocklaw22_rounds.f k [a, b]) (ph2, true, true, a, b, 8, ba2, ro2) := by
  refine rounds_step [a, b] 0 (by simp) (by simp) a rfl a0 (by omega) 0 false false 0 0 0 0 0 (by decide) 0 0 0 0 0 rfl (by unfold fin; simp) ?_
  exact rounds_step [a, b] 1 (by simp) (by simp) b rfl b0 (by omega) 0 false true 0 a 8 0 0 (by unfold Hand.may; omega) 0 0 ph2 ba2 ro2 (by unfold rndF; simp) e (rounds_end [a, b] _ _ _ _ _ _ _ _)
theorem rounds_7 : Ev (fun k => stopcocklaw22_rounds.f k [100, 112, 130, 130, 130, 130, 130]) (2, true, true, 130, 130, 8, 112, 5) := by
  refine rounds_step _ 0 (by decide) (by decide) 100 rfl (by decide) (by decide) 0 false false 0 0 0 0 0 (by decide) 0 0 0 0 0 rfl (by decide) ?_
  refine rounds_step _ 1 (by decide) (by decide) 112 rfl (by decide) (by decide) 0 false true 0 100 8 0 0 (by decide) 0 0 1 112 0 rfl (by decide) ?_
  refine rounds_step _ 2 (by decide) (by decide) 130 rfl (by decide) (by decide) 1 true true 100 112 8 112 0 (by decide) 1 1 1 112 1 rfl (by decide) ?_
  refine rounds_step _ 3 (by decide) (by decide) 130 rfl (by decide) (by decide) 1 true true 112 130 8 112 1 (by decide) 1 2 1 112 2 rfl (by decide) ?_
  refine rounds_step _ 4 (by decide) (by decide) 130 rfl (by decide) (by decide) 1 true true 130 130 8 112 2 (by decide) 1 3 1 112 3 rfl (by decide) ?_
  refine rounds_step _ 5 (by decide) (by decide) 130 rfl (by decide) (by decide) 1 true true 130 130 8 112 3 (by decide) 1 4 1 112 4 rfl (by decide) ?_
  exact rounds_step _ 6 (by decide) (by decide) 130 rfl (by decide) (by decide) 1 true true 130 130 8 112 4 (by decide) 2 5 2 112 5 rfl (by decide) (rounds_end _ _ _ _ _ _ _ _ _)
theorem alive_ev : Ev (fun k => stopcocklaw22_alive.f k) true := by
  obtain ⟨K1, h1⟩ := rounds_1
  obtain ⟨K2, h2⟩ := rounds_2 100 111 (by decide) (by decide) (by decide) (by decide) 0 0 0 (by decide)
  obtain ⟨K3, h3⟩ := rounds_2 100 112 (by decide) (by decide) (by decide) (by decide) 1 112 0 (by decide)
  obtain ⟨K4, h4⟩ := rounds_7
  refine ⟨max (max K1 K2) (max K3 K4), fun k hk => ?_⟩
  have e1 : stopcocklaw22_rounds.f k [100] = _ := h1 k (by omega)
  have e2 : stopcocklaw22_rounds.f k [100, 111] = _ := h2 k (by omega)
  have e3 : stopcocklaw22_rounds.f k [100, 112] = _ := h3 k (by omega)
  have e4 : stopcocklaw22_rounds.f k [100, 112, 130, 130, 130, 130, 130] = _ := h4 k (by omega)
  show stopcocklaw22_alive.f k = some true
  unfold stopcocklaw22_alive.f
  rw [e1, e2, e3, e4]
  rfl
end Go.Proofs.Ytgibiffjkmmeeaa.PureC
