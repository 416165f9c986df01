/- The contract of octets.Unhex: what it computes, by hand (a range over slices.Chunk). -/
import Derived.Test.YtpadboidkpembaaHandC
import Derived.Test.YtpadboidkpembaaHandR
import Derived.Test.YtpadboidkpembaaLift
import Derived.Deep.Draws
import Derived.Deep.QuietTactic
import Derived.BigQuiet
import Derived.OwnWalk
import Derived.RowKit3
import Derived.Laws.BitsLemmas
import Derived.Test.YtpadboidkpembaaWTab
import Derived.Test.YtpadboidkpembaaSkip
namespace Go.Proofs.Ytpadboidkpembaa.Hand
open Go.RowKit Go.Shelf Go.Proofs.YtpadboidkpembaaW.PrintWords Go.Proofs.YtpadboidkpembaaW.PrintLast Go.Proofs.YtpadboidkpembaaW.PrintMore Go.Proofs.Ytpadboidkpembaa.Lift
set_option linter.unusedVariables false
set_option linter.unusedSimpArgs false
attribute [local go_sem] Oper.semAt_some

/-- A digit's value. -/
def nv (c : Int) : Option Int := if 48 ≤ c ∧ c ≤ 57 then some (c - 48) else if 97 ≤ bits .or .u8 c 32 ∧ bits .or .u8 c 32 ≤ 102 then some (bits .or .u8 c 32 - 97 + 10) else none
def nvD (c : Int) : Int := (nv c).getD 0

set_option maxHeartbeats 1600000 in
theorem nibble_some (c v : Int) (w : World) (h : nv c = some v) : Calls Try.prog 24 #[.int .u8 c] w fun e w' => e = .returned (.tuple #[.int .u8 v, .bool true]) ∧ w = w' := by
  unfold nv at h
  by_cases hd : 48 ≤ c ∧ c ≤ 57
  · rw [if_pos hd] at h
    obtain rfl := Option.some.inj h
    obtain ⟨h1, h2⟩ := hd
    clear h
    go_enter Try.func24, Try.ntmps24
    go_wp2
    go_ret2
    exact ⟨rfl, rfl⟩
  · rw [if_neg hd] at h
    by_cases hv : 97 ≤ bits .or .u8 c 32 ∧ bits .or .u8 c 32 ≤ 102
    · rw [if_pos hv] at h
      obtain rfl := Option.some.inj h
      clear h
      obtain ⟨z, hz⟩ : ∃ z, bits .or .u8 c 32 = z := ⟨_, rfl⟩
      rw [hz] at hv ⊢
      obtain ⟨h3, h4⟩ := hv
      rcases (by omega : c < 48 ∨ (48 ≤ c ∧ 57 < c)) with hc | ⟨hc, hc'⟩
      all_goals
        clear hd
        go_enter Try.func24, Try.ntmps24
        go_wp2
        go_ret2
        exact ⟨rfl, rfl⟩
    · rw [if_neg hv] at h
      cases h
set_option maxHeartbeats 1600000 in
theorem nibble_none (c : Int) (w : World) (h : nv c = none) : Calls Try.prog 24 #[.int .u8 c] w fun e w' => e = .returned (.tuple #[.int .u8 0, .bool false]) ∧ w = w' := by
  unfold nv at h
  by_cases hd : 48 ≤ c ∧ c ≤ 57
  · rw [if_pos hd] at h
    cases h
  · rw [if_neg hd] at h
    by_cases hv : 97 ≤ bits .or .u8 c 32 ∧ bits .or .u8 c 32 ≤ 102
    · rw [if_pos hv] at h
      cases h
    · clear h
      obtain ⟨z, hz⟩ : ∃ z, bits .or .u8 c 32 = z := ⟨_, rfl⟩
      rw [hz] at hv
      rcases (by omega : z < 97 ∨ (97 ≤ z ∧ 102 < z)) with hz1 | ⟨hz1, hz2⟩
      all_goals
        rcases (by omega : c < 48 ∨ (48 ≤ c ∧ 57 < c)) with hc | ⟨hc, hc'⟩
        all_goals
          clear hd hv
          go_enter Try.func24, Try.ntmps24
          go_wp2
          go_ret2
          exact ⟨rfl, rfl⟩
end Go.Proofs.Ytpadboidkpembaa.Hand
