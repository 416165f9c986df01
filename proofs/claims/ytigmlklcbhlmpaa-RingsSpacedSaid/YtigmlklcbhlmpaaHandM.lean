/- The contract of toeplitz.checkTable: what it computes, by hand (slices.Min and slices.Max over whole numbers). -/
import Derived.Test.YtigmlklcbhlmpaaProg
import Derived.Below
import Derived.Deep.Draws
import Derived.Deep.AppendLies
import Derived.Maps.AppendAt
import Derived.OwnWalk
import Derived.Laws.BytesArg
import Derived.Laws.MakeOwn
import Derived.Laws.OwnMore
import Derived.Deep.OwnRows
import Derived.Tactics
import Derived.Lib.ConvBytes
import Derived.Laws.Slices
import Derived.WalkKit
import Derived.KernelRfl
import Derived.RowKit3
import Derived.Deep.LoopGhost
import Derived.Deep.QuietTactic
import Derived.BigQuiet
import Derived.WideLaws
import Derived.Deep.DeepCutAuto
import Derived.Deep.CutBlock
import Derived.Deep.RegionHeld3
import Derived.Laws.Rows
import Derived.Lib.AppendStr
import Derived.ArgAppend
import Derived.Laws.IdiomCopy
import Derived.OrdersHeld
import Derived.Laws.BitsLemmas
import Derived.RowKit
import Derived.Test.YtigmlklcbhlmpaaWWords
import Derived.Test.YtigmlklcbhlmpaaWLast
import Derived.Test.YtigmlklcbhlmpaaWTab
import Derived.Test.YtigmlklcbhlmpaaWFour
import Derived.Test.YtigmlklcbhlmpaaWQPut
import Derived.Test.YtigmlklcbhlmpaaWApart
import Derived.Test.YtigmlklcbhlmpaaWArr
import Derived.Test.YtigmlklcbhlmpaaWZeros
import Derived.Test.YtigmlklcbhlmpaaWFoot
import Derived.Test.YtigmlklcbhlmpaaWKept
import Derived.Test.YtigmlklcbhlmpaaWShare
import Derived.Test.YtigmlklcbhlmpaaWN
import Derived.Test.YtigmlklcbhlmpaaWFootNe
import Derived.Test.YtigmlklcbhlmpaaWAt
import Derived.Test.YtigmlklcbhlmpaaWEqStruct
import Derived.Test.YtigmlklcbhlmpaaWRepsOne
import Derived.Test.YtigmlklcbhlmpaaWInv
import Derived.Test.YtigmlklcbhlmpaaWInvWords
import Derived.Test.YtigmlklcbhlmpaaWGuard
import Derived.Test.YtigmlklcbhlmpaaWNEv
import Derived.Test.YtigmlklcbhlmpaaWMore
import Derived.Test.YtigmlklcbhlmpaaUtil
import Derived.Test.YtigmlklcbhlmpaaSkip
import Derived.Test.YtigmlklcbhlmpaaOpen
namespace Go.Proofs.Ytigmlklcbhlmpaa.Hand
open Go.RowKit Go.Proofs.YtigmlklcbhlmpaaW.PrintWords Go.Proofs.YtigmlklcbhlmpaaW.PrintLast Go.Proofs.YtigmlklcbhlmpaaW.PrintMore
attribute [local go_sem] max2_int min2_int max_two min_two
set_option linter.unusedVariables false
set_option linter.unusedSimpArgs false

def minK (l : List Int) : Nat → Int
  | 0 => rd l 0
  | k + 1 => mn (minK l k) (rd l (k + 1 : Nat))
def maxK (l : List Int) : Nat → Int
  | 0 => rd l 0
  | k + 1 => mx (maxK l k) (rd l (k + 1 : Nat))
theorem minK_neg (l : List Int) : ∀ k, minK l k < 0 ↔ ∃ j : Nat, j ≤ k ∧ rd l (j : Int) < 0
  | 0 => ⟨fun h => ⟨0, by omega, h⟩, fun ⟨j, hj, h⟩ => by obtain rfl : j = 0 := by omega
                                                          exact h⟩
  | k + 1 => by
    have ih := minK_neg l k
    unfold minK mn
    constructor
    · intro h
      split at h
      · exact ⟨k + 1, by omega, h⟩
      · obtain ⟨j, hj, h'⟩ := ih.1 h; exact ⟨j, by omega, h'⟩
    · rintro ⟨j, hj, h⟩
      by_cases e : j = k + 1
      · subst e; split <;> omega
      · have := ih.2 ⟨j, by omega, h⟩; split <;> omega
theorem maxK_big (l : List Int) : ∀ k, maxK l k ≥ 16 ↔ ∃ j : Nat, j ≤ k ∧ rd l (j : Int) ≥ 16
  | 0 => ⟨fun h => ⟨0, by omega, h⟩, fun ⟨j, hj, h⟩ => by obtain rfl : j = 0 := by omega
                                                          exact h⟩
  | k + 1 => by
    have ih := maxK_big l k
    unfold maxK mx
    constructor
    · intro h
      split at h
      · exact ⟨k + 1, by omega, h⟩
      · obtain ⟨j, hj, h'⟩ := ih.1 h; exact ⟨j, by omega, h'⟩
    · rintro ⟨j, hj, h⟩
      by_cases e : j = k + 1
      · subst e; split <;> omega
      · have := ih.2 ⟨j, by omega, h⟩; split <;> omega

set_option maxHeartbeats 1600000 in
set_option maxRecDepth 100000 in
theorem min_any (l : List Int) (ad : Addr) (c m : Nat) (hm : l.length = m + 1) (hmx : l.length ≤ 1000000) (w : World) (hc : ∀ j : Nat, j < l.length → w.cell? (ad.add j) = some (.int .i64 (rd l (j : Int)))) :
    Calls Try.prog 54 #[.slice (some ad) l.length c] w fun e w' => e = .returned (.int .i64 (minK l m)) ∧ w = w' := by
  have HC := Aside0.mk hc
  clear hc
  have h0 : w.cell? ad = some (.int .i64 (rd l 0)) := (congrArg w.cell? (show ad.add 0 = ad by simp [Addr.add])).symm.trans (HC.out 0 (by omega))
  have hlen : 1 ≤ l.length := by omega
  have HM := Aside0.mk hm
  clear hm
  go_enter Try.func54, Try.ntmps54
  go_wp2
  go_loop [3, 4] (fun v i => ∃ k : Nat, k ≤ m ∧ i = .int .i64 (k + 1 : Nat) ∧ v = .int .i64 (minK l k)) (fun _ i => l.length - (intOf i).toNat)
  case atStart => exact ⟨0, Nat.zero_le _, rfl, rfl⟩
  case round =>
    obtain ⟨k, hk, rfl, rfl⟩ := hrel
    by_cases hlt : k < m
    · have hl2 : k + 1 < l.length := by have := HM.out; omega
      have hcx : w.cell? { block := ad.block, off := ad.off + (k + 1) } = some (.int .i64 (rd l ((k : Int) + 1))) := (congrArg w.cell? (show ad.add (k + 1) = _ by simp [Addr.add])).symm.trans ((HC.out (k + 1) hl2).trans (by simp))
      obtain ⟨z, hz⟩ : ∃ z, (if rd l ((k : Int) + 1) < minK l k then rd l ((k : Int) + 1) else minK l k) = z := ⟨_, rfl⟩
      go_wp2
      go_round
      case rel => exact ⟨k + 1, by omega, by go_num, by unfold minK mn; rw [show ((k + 1 : Nat) : Int) = (k : Int) + 1 by simp, hz]⟩
      case measure => simp [intOf]; omega
    · obtain rfl : k = m := by omega
      have hl2 : ¬ k + 1 < l.length := by have := HM.out; omega
      go_wp2
      go_ret
      exact ⟨rfl, rfl⟩

set_option maxHeartbeats 1600000 in
set_option maxRecDepth 100000 in
theorem max_any (l : List Int) (ad : Addr) (c m : Nat) (hm : l.length = m + 1) (hmx : l.length ≤ 1000000) (w : World) (hc : ∀ j : Nat, j < l.length → w.cell? (ad.add j) = some (.int .i64 (rd l (j : Int)))) :
    Calls Try.prog 55 #[.slice (some ad) l.length c] w fun e w' => e = .returned (.int .i64 (maxK l m)) ∧ w = w' := by
  have HC := Aside0.mk hc
  clear hc
  have h0 : w.cell? ad = some (.int .i64 (rd l 0)) := (congrArg w.cell? (show ad.add 0 = ad by simp [Addr.add])).symm.trans (HC.out 0 (by omega))
  have hlen : 1 ≤ l.length := by omega
  have HM := Aside0.mk hm
  clear hm
  go_enter Try.func55, Try.ntmps55
  go_wp2
  go_loop [3, 4] (fun v i => ∃ k : Nat, k ≤ m ∧ i = .int .i64 (k + 1 : Nat) ∧ v = .int .i64 (maxK l k)) (fun _ i => l.length - (intOf i).toNat)
  case atStart => exact ⟨0, Nat.zero_le _, rfl, rfl⟩
  case round =>
    obtain ⟨k, hk, rfl, rfl⟩ := hrel
    by_cases hlt : k < m
    · have hl2 : k + 1 < l.length := by have := HM.out; omega
      have hcx : w.cell? { block := ad.block, off := ad.off + (k + 1) } = some (.int .i64 (rd l ((k : Int) + 1))) := (congrArg w.cell? (show ad.add (k + 1) = _ by simp [Addr.add])).symm.trans ((HC.out (k + 1) hl2).trans (by simp))
      obtain ⟨z, hz⟩ : ∃ z, (if maxK l k < rd l ((k : Int) + 1) then rd l ((k : Int) + 1) else maxK l k) = z := ⟨_, rfl⟩
      go_wp2
      go_round
      case rel => exact ⟨k + 1, by omega, by go_num, by unfold maxK mx; rw [show ((k + 1 : Nat) : Int) = (k : Int) + 1 by simp, hz]⟩
      case measure => simp [intOf]; omega
    · obtain rfl : k = m := by omega
      have hl2 : ¬ k + 1 < l.length := by have := HM.out; omega
      go_wp2
      go_ret
      exact ⟨rfl, rfl⟩

/-- Some entry lies outside. -/
def outT (l : List Int) : Bool := l.any fun x => decide (x < 0 ∨ x ≥ 16)
def checkT (l : List Int) : Option Int := if (l.length : Int) ≠ 128 then some 3 else if outT l = true then some 4 else some 0
theorem out_iff (l : List Int) (m : Nat) (hm : l.length = m + 1) : outT l = true ↔ minK l m < 0 ∨ maxK l m ≥ 16 := by
  rw [minK_neg, maxK_big]
  unfold outT
  rw [List.any_eq_true]
  have hrd : ∀ j (h : j < l.length), rd l (j : Int) = l[j] := fun j h => by simp [rd, List.getD, h]
  constructor
  · rintro ⟨x, hx, hd⟩
    obtain ⟨j, hj, rfl⟩ := List.getElem_of_mem hx
    have hd' := of_decide_eq_true hd
    rcases hd' with h | h
    · exact .inl ⟨j, by omega, by rw [hrd j hj]; exact h⟩
    · exact .inr ⟨j, by omega, by rw [hrd j hj]; exact h⟩
  · rintro (⟨j, hj, h⟩ | ⟨j, hj, h⟩)
    · rw [hrd j (by omega)] at h
      exact ⟨_, List.getElem_mem _, decide_eq_true (.inl h)⟩
    · rw [hrd j (by omega)] at h
      exact ⟨_, List.getElem_mem _, decide_eq_true (.inr h)⟩
set_option maxHeartbeats 1600000 in
theorem check_calls (A0 : Option Addr) (c0 : Nat) (l0 : List Int) (r : Int) (w : World) (hr0 : Kd.C (Kd.int .i64) w A0 l0.length l0) (hc0 : l0.length ≤ c0) (h : checkT l0 = some r) :
    Calls Try.prog 43 #[.slice A0 l0.length c0] w fun e w' => e = .returned (.int .i64 r) ∧ w = w' := by
  unfold checkT at h
  by_cases hl : (l0.length : Int) ≠ 128
  · rw [if_pos hl] at h
    obtain rfl := Option.some.inj h
    have hl' : ((l0.length : Int) != 128) = true := by simpa using hl
    have hl2 : ((l0.length : Int) == 128) = false := by simpa using hl
    clear hl h
    go_enter Try.func43, Try.ntmps43
    go_wp2
    go_ret
    exact ⟨rfl, rfl⟩
  · rw [if_neg hl] at h
    have hl1 : l0.length = 128 := by omega
    have hcs : ∃ ad, A0 = some ad ∧ ∀ j : Nat, j < l0.length → w.cell? (ad.add j) = some (.int .i64 (rd l0 (j : Int))) := by
      obtain ⟨ad, hA, _⟩ := Kd.at_int hr0 0 (by omega) (by omega)
      refine ⟨ad, hA, fun j hj => ?_⟩
      obtain ⟨ad', hA', hcell⟩ := Kd.at_int hr0 (j : Int) (by omega) (by omega)
      rw [hA] at hA'
      cases hA'
      exact hcell
    obtain ⟨ad, rfl, hcell⟩ := hcs
    have hmn := fun c W => min_any l0 ad c 127 (by omega) (by omega) W
    have hmxx := fun c W => max_any l0 ad c 127 (by omega) (by omega) W
    have HMN := Aside0.mk hmn
    have HMX := Aside0.mk hmxx
    have HC := Aside0.mk hcell
    have hout := out_iff l0 127 (by omega)
    clear hmn hmxx hcell hr0 hl hc0
    obtain ⟨n, hn⟩ : ∃ n, minK l0 127 = n := ⟨_, rfl⟩
    obtain ⟨x, hx⟩ : ∃ x, maxK l0 127 = x := ⟨_, rfl⟩
    rw [hn, hx] at hout
    rw [hn] at HMN
    rw [hx] at HMX
    clear hn hx
    obtain ⟨len, hlen⟩ : ∃ len, l0.length = len := ⟨_, rfl⟩
    rw [hlen] at HMN HMX HC hl1 ⊢
    subst hl1
    by_cases ho : outT l0 = true
    · rw [if_pos ho] at h
      obtain rfl := Option.some.inj h
      have ho' := hout.1 ho
      clear hout ho h hlen
      rcases (by omega : n < 0 ∨ (0 ≤ n ∧ 16 ≤ x)) with hn | ⟨hn, hx⟩
      all_goals
        clear ho'
        go_enter Try.func43, Try.ntmps43
        go_wp2_with (first | (go_at_call 54; refine (HMN.out _ _ HC.out).mono ?_; rintro e w1 ⟨rfl, rfl⟩) | (go_at_call 55; refine (HMX.out _ _ HC.out).mono ?_; rintro e w1 ⟨rfl, rfl⟩))
        go_ret
        exact ⟨rfl, rfl⟩
    · rw [if_neg ho] at h
      obtain rfl := Option.some.inj h
      have hn : 0 ≤ n := by rcases Int.lt_or_le n 0 with h1 | h1; exact absurd (hout.2 (.inl h1)) ho; exact h1
      have hx : x < 16 := by rcases Int.lt_or_le x 16 with h1 | h1; exact h1; exact absurd (hout.2 (.inr h1)) ho
      clear hout ho h hlen
      go_enter Try.func43, Try.ntmps43
      go_wp2_with (first | (go_at_call 54; refine (HMN.out _ _ HC.out).mono ?_; rintro e w1 ⟨rfl, rfl⟩) | (go_at_call 55; refine (HMX.out _ _ HC.out).mono ?_; rintro e w1 ⟨rfl, rfl⟩))
      go_ret
      exact ⟨rfl, rfl⟩
end Go.Proofs.Ytigmlklcbhlmpaa.Hand
