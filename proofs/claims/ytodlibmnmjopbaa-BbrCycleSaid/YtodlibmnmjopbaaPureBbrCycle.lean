/- While it probes the rate, the gain goes round: of any rate and time. -/
import Derived.Test.YtodlibmnmjopbaaPlainK
import Derived.Test.YtodlibmnmjopbaaPAx10
namespace Go.Proofs.Ytodlibmnmjopbaa.Pure
open Go.RowKit Go.Proofs.Ytodlibmnmjopbaa.PA Go.Proofs.YtodlibmnmjopbaaW.PrintWords Go.Proofs.YtodlibmnmjopbaaW.PrintLast Go.Proofs.YtodlibmnmjopbaaW.PrintMore Go.Proofs.Ytodlibmnmjopbaa.Util Go.Proofs.Ytodlibmnmjopbaa.Hand
set_option linter.unusedVariables false
set_option linter.unusedSimpArgs false

theorem and7 : ∀ z : Fin 8, bits .and .i64 ((z.val : Int) + 1) 7 = (((z.val + 1) % 8 : Nat) : Int) := by decide +kernel
/-- The state while it probes. -/
theorem cyc_ack (m t cy ca now : Int) (hm : 1 ≤ m ∧ m ≤ 1000) (ht : 1 ≤ t ∧ t ≤ 100) (hcy : 0 ≤ cy ∧ cy ≤ 7) (hca : 0 ≤ ca ∧ ca ≤ 100000) (hn : 0 ≤ now ∧ now ≤ 100000) :
    bbr_Ack.f 2 [⟨1, 256 * m⟩] true t 0 true 0 0 cy ca 0 1 1000 now 1 0 0 0 false false = some (2, [⟨1, 256 * m⟩], true, t, 0, true, 0, 0, (if ca + t ≤ now then bits .and .i64 (cy + 1) 7 else cy), (if ca + t ≤ now then now else ca), 0, 1, 0) := by
  unfold bbr_Ack.f ackF
  have hok : okS [⟨1, 256 * m⟩] 2 t 0 0 0 cy ca 0 1 ∧ okE ⟨2, [⟨1, 256 * m⟩], true, t, 0, true, 0, 0, cy, ca, 0, 1⟩ ⟨now, 1, 0, 0, 0, false, false⟩ 1000 := by
    have hlr : lastR [(⟨1, 256 * m⟩ : S36)] = 1 := rfl
    refine ⟨⟨by omega, by omega, may_one 1 (256 * m) (by omega) (by omega), by omega, by omega, by omega, by omega, by omega, by omega, by omega⟩, ⟨by omega, ?_, ?_, ?_, ?_, ?_, ?_, ?_⟩⟩
    all_goals simp [hlr]
    all_goals omega
  rw [if_pos hok]
  have e2 : st3 (st2 (st1 ⟨2, [⟨1, 256 * m⟩], true, t, 0, true, 0, 0, cy, ca, 0, 1⟩ ⟨now, 1, 0, 0, 0, false, false⟩) ⟨now, 1, 0, 0, 0, false, false⟩) ⟨now, 1, 0, 0, 0, false, false⟩ = ⟨2, [⟨1, 256 * m⟩], true, t, 0, true, 0, 0, cy, ca, 0, 1⟩ := by
    unfold st1 st2 st3
    simp
  have e4 : st4 ⟨2, [⟨1, 256 * m⟩], true, t, 0, true, 0, 0, cy, ca, 0, 1⟩ ⟨now, 1, 0, 0, 0, false, false⟩ = ⟨2, [⟨1, 256 * m⟩], true, t, 0, true, 0, 0, (if ca + t ≤ now then bits .and .i64 (cy + 1) 7 else cy), (if ca + t ≤ now then now else ca), 0, 1⟩ := by
    unfold st4
    have h1 : (if t < 1 then 1 else t) = t := if_neg (by omega)
    simp only [h1]
    rw [if_neg (by simp)]
    by_cases h : ca + t ≤ now
    · rw [if_pos ⟨trivial, h⟩, if_pos h, if_pos h]
    · rw [if_neg (fun x => h x.2), if_neg h, if_neg h]
  have e5 : ∀ a b : Int, st5 ⟨2, [⟨1, 256 * m⟩], true, t, 0, true, 0, 0, a, b, 0, 1⟩ ⟨now, 1, 0, 0, 0, false, false⟩ = ⟨2, [⟨1, 256 * m⟩], true, t, 0, true, 0, 0, a, b, 0, 1⟩ := fun a b => by unfold st5; simp
  have e6 : ∀ (a b : Int) , st6 ⟨2, [⟨1, 256 * m⟩], true, t, 0, true, 0, 0, a, b, 0, 1⟩ ⟨now, 1, 0, 0, 0, false, false⟩ false = ⟨2, [⟨1, 256 * m⟩], true, t, 0, true, 0, 0, a, b, 0, 1⟩ := fun a b => by unfold st6; simp
  have eo : ∀ s, oldS s ⟨now, 1, 0, 0, 0, false, false⟩ = false := fun s => rfl
  unfold ackB
  rw [e2, eo, e4, e5, e6]
theorem rate_cyc (m t cy ca : Int) (hm : 1 ≤ m ∧ m ≤ 1000) (ht : 1 ≤ t ∧ t ≤ 100) (hcy : 0 ≤ cy ∧ cy ≤ 7) (hca : 0 ≤ ca ∧ ca ≤ 100000) :
    Ev (fun k => bbr_Rate.f k 2 [⟨1, 256 * m⟩] true t 0 true 0 0 cy ca 0 1) (m * cyc cy, 0) := by
  obtain ⟨K, e⟩ := check_ok [⟨1, 256 * m⟩] 2 true t 0 true 0 0 cy ca 0 1 ⟨by omega, by omega, may_one 1 (256 * m) (by omega) (by omega), by omega, by omega, by omega, by omega, by omega, by omega, by omega⟩
  have hg : gr [(⟨1, 256 * m⟩ : S36)] = 256 * m := rfl
  have hc : 192 ≤ cyc cy ∧ cyc cy ≤ 320 := by unfold cyc; split; omega; split <;> omega
  have hgain : bbr_State_gain.f 2 [⟨1, 256 * m⟩] true t 0 true 0 0 cy ca 0 1 = some (cyc cy) := by
    unfold bbr_State_gain.f gainF
    rw [if_neg (by decide), if_neg (by decide), if_pos rfl, if_pos hcy]
  have hp : 0 ≤ m * cyc cy ∧ m * cyc cy ≤ 320000 := ⟨Int.mul_nonneg (by omega) (by omega), Int.le_trans (Int.mul_le_mul hm.2 hc.2 (by omega) (by decide)) (by decide)⟩
  have hp1 : 1 * 192 ≤ m * cyc cy := Int.mul_le_mul hm.1 hc.1 (by decide) (by omega)
  have hq : 256 * m * cyc cy = 256 * (m * cyc cy) := Int.mul_assoc _ _ _
  refine evEnd (K + 1) (fun k hk => ?_)
  unfold bbr_Rate.f
  rw [show bbr_Check.f k 2 [⟨1, 256 * m⟩] true t 0 true 0 0 cy ca 0 1 = _ from e k (by omega), Option.bind_some, if_pos rfl]
  obtain ⟨j, rfl⟩ : ∃ j, k = j + 1 := ⟨k - 1, by omega⟩
  simp only [bbr_Rate.j0]
  rw [if_neg (by simp), gr_eq, Option.bind_some, hg, hgain, Option.bind_some, hq, wrap_id (x := 256 * (m * cyc cy)) (by omega) (by omega), tdiv_pos (by omega), show 256 * (m * cyc cy) / 256 = m * cyc cy from by omega, wrap_id (by omega) (by omega)]
  have e1 : mx (m * cyc cy) 1 = m * cyc cy := by unfold mx; split <;> omega
  have e2 : mn (m * cyc cy) 1073741824 = m * cyc cy := by unfold mn; split <;> omega
  rw [e1, e2]
theorem cycle_ev (m t : Int) (hm : 1 ≤ m ∧ m ≤ 1000) (ht : 1 ≤ t ∧ t ≤ 100) : ∀ (d i : Nat) (ca : Int), i + d = 20 → ca = (i : Int) * t →
    Ev (fun k => stopcocklaw23_BbrCycle.l0 k (256 * m) t ca (i : Int) 2 [⟨1, 256 * m⟩] true t 0 true 0 0 ((i % 8 : Nat) : Int) ca 0 1) true := by
  intro d
  induction d with
  | zero =>
    intro i ca hi hca
    refine evEnd 1 (fun k hk => ?_)
    obtain ⟨j, rfl⟩ : ∃ j, k = j + 1 := ⟨k - 1, by omega⟩
    simp only [stopcocklaw23_BbrCycle.l0]
    rw [if_neg (by omega)]
  | succ d ih =>
    intro i ca hi hca
    have hcb : 0 ≤ ca ∧ ca ≤ 2000 := by
      rw [hca]
      exact ⟨Int.mul_nonneg (by omega) (by omega), Int.le_trans (Int.mul_le_mul (show (i : Int) ≤ 20 by omega) ht.2 (by omega) (by decide)) (by decide)⟩
    have hnext := ih (i + 1) (ca + t) (by omega) (by rw [hca]; simp [Int.add_mul])
    have hcyc : bits .and .i64 (((i % 8 : Nat) : Int) + 1) 7 = (((i + 1) % 8 : Nat) : Int) := by
      have := and7 ⟨i % 8, by omega⟩
      simp only at this
      rw [this]
      congr 1
      omega
    have a1 := cyc_ack m t ((i % 8 : Nat) : Int) ca (ca + t - 1) hm ht (by omega) (by omega) (by omega)
    rw [if_neg (by omega), if_neg (by omega)] at a1
    have a2 := cyc_ack m t ((i % 8 : Nat) : Int) ca (ca + t) hm ht (by omega) (by omega) (by omega)
    rw [if_pos (by omega), if_pos (by omega), hcyc] at a2
    have hj2 : ∀ x327 : Int, Ev (fun k => stopcocklaw23_BbrCycle.j2 k (256 * m) t ca (i : Int) false 2 [⟨1, 256 * m⟩] true t 0 true 0 0 ((i % 8 : Nat) : Int) ca 0 1 2 [⟨1, 256 * m⟩] true t 0 true 0 0 ((i % 8 : Nat) : Int) ca 0 1 2 [⟨1, 256 * m⟩] true t 0 true 0 0 (((i + 1) % 8 : Nat) : Int) (ca + t) 0 1) true := fun _ => by
      refine evStep 0 (fun k _ => ?_) hnext
      simp only [stopcocklaw23_BbrCycle.j2]
      rw [if_neg (by decide), wrap_id (x := ca + t) (by omega) (by omega), wrap_id (x := (i : Int) + 1) (by omega) (by omega)]
      by_cases h1 : t = 1
      · rw [if_pos h1, if_pos trivial]; rfl
      · rw [if_neg h1]; rfl
    obtain ⟨K2, e2⟩ := hj2 0
    obtain ⟨K3, e3⟩ := rate_cyc m t ((i % 8 : Nat) : Int) ca hm ht (by omega) (by omega)
    have hj1 : Ev (fun k => stopcocklaw23_BbrCycle.j1 k (256 * m) t ca (i : Int) (m * cyc ((i % 8 : Nat) : Int)) 2 [⟨1, 256 * m⟩] true t 0 true 0 0 ((i % 8 : Nat) : Int) ca 0 1) true := by
      refine evEnd (K2 + K3 + 1) (fun k hk => ?_)
      obtain ⟨j, rfl⟩ : ∃ j, k = j + 1 := ⟨k - 1, by omega⟩
      have e2' := e2 j (by omega)
      simp only [stopcocklaw23_BbrCycle.j1]
      rw [show bbr_Rate.f j 2 [⟨1, 256 * m⟩] true t 0 true 0 0 ((i % 8 : Nat) : Int) ca 0 1 = _ from e3 j (by omega), Option.bind_some]
      simp only [stopcocklaw23_num.f, Option.bind_some, if_true]
      rw [tmod_pos (by omega), if_pos (by omega), wrap_id (x := ca + t) (by omega) (by omega), wrap_id (x := ca + t - 1) (by omega) (by omega), a1]
      simp only [Option.bind_some]
      rw [a2]
      simp only [Option.bind_some]
      rw [if_pos (by decide +kernel)]
      by_cases h1 : t > 1
      · rw [if_pos h1]
        simp only [bne_self_eq_false]
        exact e2'
      · rw [if_neg h1]
        exact e2'
    refine evStep 0 (fun k _ => ?_) hj1
    simp only [stopcocklaw23_BbrCycle.l0]
    rw [if_pos (by omega), tmod_pos (by omega), tdiv_pos (by omega), wrap_id (x := 256 * m / 4) (by omega) (by omega)]
    by_cases h0 : (i : Int) % 8 = 0
    · rw [if_pos h0, wrap_id (x := 256 * m / 4 * 5) (by omega) (by omega)]
      have hc : ((i % 8 : Nat) : Int) = 0 := by omega
      have : 256 * m / 4 * 5 = m * cyc ((i % 8 : Nat) : Int) := by rw [hc]; simp [cyc]; omega
      rw [this]
    · rw [if_neg h0]
      by_cases h1 : (i : Int) % 8 = 1
      · rw [if_pos h1, wrap_id (x := 256 * m / 4 * 3) (by omega) (by omega)]
        have hc : ((i % 8 : Nat) : Int) = 1 := by omega
        have : 256 * m / 4 * 3 = m * cyc ((i % 8 : Nat) : Int) := by rw [hc]; simp [cyc]; omega
        rw [this]
      · rw [if_neg h1]
        have : 256 * m = m * cyc ((i % 8 : Nat) : Int) := by unfold cyc; rw [if_neg (by omega), if_neg (by omega)]; omega
        rw [← this]
theorem BbrCycle : stopcocklaw23_BbrCycle.Pure := by
  intro a0 a1 h0 h1
  obtain ⟨r, hr1, hr2, hr3⟩ := gmod' a0 1000 (by decide) (by decide)
  obtain ⟨t, ht1, ht2, ht3⟩ := gmod' a1 100 (by decide) (by decide)
  obtain ⟨K1, e1⟩ := alive_ev'
  obtain ⟨K2, e2⟩ := cycle_ev (1 + r) (1 + t) (by omega) (by omega) 20 0 0 (by omega) (by simp)
  refine ⟨K1 + K2, ?_⟩
  unfold stopcocklaw23_BbrCycle.f
  rw [show stopcocklaw23_alive.f (K1 + K2) = _ from e1 _ (by omega), Option.bind_some, if_pos rfl, hr1, ht1, wrap_id (x := 1 + r) (by omega) (by omega), wrap_id (x := 256 * (1 + r)) (by omega) (by omega), wrap_id (x := 1 + t) (by omega) (by omega)]
  exact e2 _ (by omega)
end Go.Proofs.Ytodlibmnmjopbaa.Pure
