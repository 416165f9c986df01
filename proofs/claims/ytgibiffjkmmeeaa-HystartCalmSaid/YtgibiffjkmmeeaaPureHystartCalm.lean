/- Answers that take no longer than those ahead never end slow start: for all numbers and lists. -/
import Derived.Test.YtgibiffjkmmeeaaPDx6
import Derived.Test.YtgibiffjkmmeeaaPlainD
namespace Go.Proofs.Ytgibiffjkmmeeaa.Pure
open Go.RowKit Go.Proofs.Ytgibiffjkmmeeaa.PD Go.Proofs.YtgibiffjkmmeeaaW.PrintWords Go.Proofs.YtgibiffjkmmeeaaW.PrintLast Go.Proofs.YtgibiffjkmmeeaaW.PrintMore Go.Proofs.Ytgibiffjkmmeeaa.Util Go.Proofs.Ytgibiffjkmmeeaa.PureD

set_option linter.unusedVariables false
set_option linter.unusedSimpArgs false
theorem calm_later (ph : Int) (la v sa : Int) (h1 : Bool) (h : h1 = true → v ≤ la) : fin 0 h1 la v 0 0 = (0, 0, 0) := by
  unfold fin
  have hb := bnd_bd la
  rw [if_neg (fun hh => by have := h hh.2.1; have := hh.2.2; omega), if_neg (by omega)]

section
variable (l : List Int) (hl : l.length * 8 ≤ 140737488351232)
include hl
theorem calm_l1 (i : Nat) (hi : i < l.length) (v : Int) (v0 : 0 ≤ v) (v1 : v ≤ 1073741824) (h1 : Bool) (la : Int) (la0 : 0 ≤ la) (la1 : la ≤ 1073741824) (hh : h1 = true → v ≤ la)
    (hnext : Ev (fun k => stopcocklaw22_HystartCalm.l0 k l v ((i : Int) + 1) 0 h1 true la v 10 0 0) true) :
    ∀ (d j : Nat), j + d = 10 → 1 ≤ j → Ev (fun k => stopcocklaw22_HystartCalm.l1 k l v i j 0 h1 true la v j 0 0) true := by
  intro d
  induction d with
  | zero =>
    intro j hj hj1
    obtain rfl : j = 10 := by omega
    refine evStep 3 (fun k hk => ?_) hnext
    simp only [stopcocklaw22_HystartCalm.l1]
    rw [if_neg (by omega), wrap_id (by omega) (by omega)]
    rfl
  | succ d ih =>
    intro j hj hj1
    refine evStep 3 (fun k hk => ?_) (ih (j + 1) (by omega) (by omega))
    simp only [stopcocklaw22_HystartCalm.l1]
    have hm : Hand.may 0 la v j 0 0 := by unfold Hand.may; omega
    rw [if_pos (by omega), samp_eq _ _ _ _ _ _ _ _ _ hm v0 v1 k hk]
    by_cases h7 : (j : Int) + 1 < 8
    · rw [same_time _ _ true _ _ _ _ _ h7 (by omega)]
      simp only [Option.bind_some, stopcocklaw22_num.f]
      rw [if_pos trivial, if_pos trivial, wrap_id (by omega) (by omega)]
      rfl
    · rw [eighth_time _ _ _ _ _ _ _ (by omega) (by omega), calm_later 0 la v j h1 hh]
      simp only [Option.bind_some, stopcocklaw22_num.f]
      rw [if_pos trivial, if_pos trivial, wrap_id (by omega) (by omega)]
      rfl

theorem calm_l0 : ∀ (d : Nat) (i : Nat) (now : Int) (h1 h2 : Bool) (la no sa : Int), i + d = 60 → i ≤ l.length → 0 ≤ now → now ≤ 1073741824 → 0 ≤ la → la ≤ 1073741824 → 0 ≤ no → no ≤ 1073741824 → 0 ≤ sa → sa ≤ 1073741824 → (h2 = true → now ≤ no) →
    Ev (fun k => stopcocklaw22_HystartCalm.l0 k l now i 0 h1 h2 la no sa 0 0) true := by
  intro d
  induction d with
  | zero =>
    intro i now h1 h2 la no sa hd hi n0 n1 la0 la1 no0 no1 sa0 sa1 hno
    refine evStep 3 (f := fun k => stopcocklaw22_HystartCalm.j1 k l now i false 0 h1 h2 la no sa 0 0) (fun k hk => ?_) (evStep 3 (f := fun _ => some true) (fun k hk => ?_) (Ev.now _))
    · simp only [stopcocklaw22_HystartCalm.l0]
      have e : decide ((i : Int) < 60) = false := by simp; omega
      rw [e, ite_self]
    · simp only [stopcocklaw22_HystartCalm.j1]
      rw [if_neg (by simp)]
  | succ d ih =>
    intro i now h1 h2 la no sa hd hi n0 n1 la0 la1 no0 no1 sa0 sa1 hno
    by_cases hlt : i < l.length
    · refine evStep 3 (f := fun k => stopcocklaw22_HystartCalm.j1 k l now i true 0 h1 h2 la no sa 0 0) (fun k hk => ?_) ?_
      · simp only [stopcocklaw22_HystartCalm.l0]
        have e : decide ((i : Int) < 60) = true := by simp; omega
        rw [e, if_pos (by omega)]
      · obtain ⟨r, hr, r0, r1⟩ := gomod (rd l i) 50 (by omega) (by omega)
        obtain ⟨v, hv⟩ : ∃ v, v = mx 0 (now - r) := ⟨_, rfl⟩
        have hv0 : 0 ≤ v ∧ v ≤ now := by subst hv; unfold mx; split <;> omega
        obtain ⟨v0, v1⟩ := hv0
        have hm : Hand.may 0 la no sa 0 0 := by unfold Hand.may; omega
        have hnext := ih (i + 1) v h2 true no v 10 (by omega) (by omega) v0 (by omega) no0 no1 v0 (by omega) (by omega) (by omega) (fun _ => Int.le_refl _)
        have h1' := calm_l1 l hl i hlt v v0 (by omega) h2 no no0 no1 (fun hh => by have := hno hh; omega) (by rw [show ((i + 1 : Nat) : Int) = (i : Int) + 1 by omega] at hnext; exact hnext) 9 1 rfl (by omega)
        refine evStep 3 (f := fun k => stopcocklaw22_HystartCalm.l1 k l v i 0 0 h2 false no 0 0 0 0) (fun k hk => ?_) (evStep 3 (fun k hk => ?_) h1')
        · simp only [stopcocklaw22_HystartCalm.j1]
          rw [if_pos trivial, rnd_eq _ _ _ _ _ _ _ _ hm]
          unfold rndF
          rw [if_neg (by omega)]
          simp only [Option.bind_some, stopcocklaw22_num.f]
          rw [if_pos trivial, if_pos (by omega), if_pos (by omega), hr, wrap_id (x := now - r) (by omega) (by omega), ← hv]
        · simp only [stopcocklaw22_HystartCalm.l1]
          have hm2 : Hand.may 0 no 0 0 0 0 := by unfold Hand.may; omega
          rw [if_pos (by omega), samp_eq _ _ _ _ _ _ _ _ _ hm2 v0 (by omega) k hk, first_time]
          simp only [Option.bind_some, stopcocklaw22_num.f]
          rw [if_pos trivial, if_pos trivial, wrap_id (by omega) (by omega)]
          rfl
    · refine evStep 3 (f := fun k => stopcocklaw22_HystartCalm.j1 k l now i false 0 h1 h2 la no sa 0 0) (fun k hk => ?_) (evStep 3 (f := fun _ => some true) (fun k hk => ?_) (Ev.now _))
      · simp only [stopcocklaw22_HystartCalm.l0]
        rw [if_neg (by omega)]
      · simp only [stopcocklaw22_HystartCalm.j1]
        rw [if_neg (by simp)]
end
theorem HystartCalm : stopcocklaw22_HystartCalm.Pure := by
  intro a0 l _ _ hl _
  obtain ⟨r, hr, r0, r1⟩ := gomod a0 100000 (by omega) (by omega)
  obtain ⟨K, ha⟩ := alive_ev
  have h := calm_l0 l hl 60 0 (1000 + r) false false 0 0 0 (by omega) (by omega) (by omega) (by omega) (by omega) (by omega) (by omega) (by omega) (by omega) (by omega) (by simp)
  have h2 : Ev (fun k => stopcocklaw22_HystartCalm.f k a0 l) true := by
    refine evSame K (fun k hk => ?_) h
    have e : stopcocklaw22_alive.f k = some true := ha k hk
    show stopcocklaw22_HystartCalm.f k a0 l = _
    unfold stopcocklaw22_HystartCalm.f
    rw [e]
    simp only [Option.bind_some]
    rw [if_pos trivial, hr, wrap_id (by omega) (by omega)]
    rfl
  exact h2.rounds
end Go.Proofs.Ytgibiffjkmmeeaa.Pure
