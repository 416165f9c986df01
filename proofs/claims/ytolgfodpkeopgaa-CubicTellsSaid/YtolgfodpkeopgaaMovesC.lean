/- As Moves, for the texts of the namespace PC. -/
import Derived.Test.YtolgfodpkeopgaaCurveC
import Derived.Test.YtolgfodpkeopgaaPCx11
import Derived.Test.YtolgfodpkeopgaaPCx13
namespace Go.Proofs.Ytolgfodpkeopgaa.PureC
open Go.RowKit Go.Proofs.Ytolgfodpkeopgaa.PC Go.Proofs.YtolgfodpkeopgaaW.PrintWords Go.Proofs.YtolgfodpkeopgaaW.PrintLast Go.Proofs.YtolgfodpkeopgaaW.PrintMore Go.Proofs.Ytolgfodpkeopgaa.Util
set_option linter.unusedVariables false
set_option linter.unusedSimpArgs false

def okM (m : Int) : Prop := 1 ≤ m ∧ m ≤ 65535
instance (m : Int) : Decidable (okM m) := by unfold okM; infer_instance
def okS (c th mo tu ep es m : Int) : Prop := (m ≤ c ∧ c ≤ 1073741824) ∧ (1 ≤ th ∧ th ≤ 1073741824) ∧ ((0 ≤ mo ∧ mo ≤ 1073741824) ∧ 0 ≤ es ∧ es ≤ 1073741824) ∧ (0 ≤ tu ∧ tu ≤ 4194304) ∧ (0 ≤ ep ∧ ep ≤ 1099511627776)
instance (c th mo tu ep es m : Int) : Decidable (okS c th mo tu ep es m) := by unfold okS; infer_instance
def CheckF (c th mo tu ep es m : Int) : Int := if okM m then (if okS c th mo tu ep es m then 0 else 171) else 4
theorem Check_eq (c th mo tu ep es : Int) (h : Bool) (m : Int) (k : Nat) (hk : 5 ≤ k) : cubic_Check.f k c th mo tu ep es h m = some (CheckF c th mo tu ep es m) := by
  obtain ⟨k, rfl⟩ : ∃ j, k = j + 1 := ⟨k - 1, by omega⟩
  unfold cubic_Check.f CheckF
  rw [in1 _ _ m _ (by omega), in1 _ _ c _ (by omega), in1 _ _ th _ (by omega), in2 _ _ mo es _ (by omega)]
  simp only [Option.bind_some, decide_eq_true_eq, cubic_Check.j0]
  by_cases h1 : 1 ≤ m ∧ m ≤ 65535
  · rw [if_pos h1, if_pos (show okM m from h1)]
    by_cases h2 : m ≤ c ∧ c ≤ 1073741824
    · rw [if_pos h2]
      by_cases h3 : 1 ≤ th ∧ th ≤ 1073741824
      · rw [if_pos h3]
        by_cases h4 : (0 ≤ mo ∧ mo ≤ 1073741824) ∧ 0 ≤ es ∧ es ≤ 1073741824
        · rw [if_pos h4, in1 _ _ tu _ (by omega), in1 _ _ ep _ (by omega)]
          simp only [Option.bind_some, decide_eq_true_eq]
          by_cases h5 : 0 ≤ tu ∧ tu ≤ 4194304
          · rw [if_pos h5]
            by_cases h6 : 0 ≤ ep ∧ ep ≤ 1099511627776
            · rw [if_pos h6, if_pos (show okS c th mo tu ep es m from ⟨h2, h3, h4, h5, h6⟩)]
            · rw [if_neg h6, if_neg (fun q : okS c th mo tu ep es m => h6 q.2.2.2.2)]
          · rw [if_neg h5, if_neg (fun q : okS c th mo tu ep es m => h5 q.2.2.2.1)]
        · rw [if_neg h4, if_neg (fun q : okS c th mo tu ep es m => h4 q.2.2.1)]
      · rw [if_neg h3, if_neg (by decide), if_neg (fun q : okS c th mo tu ep es m => h3 q.2.1)]
    · rw [if_neg h2, if_neg (by decide), if_neg (fun q : okS c th mo tu ep es m => h2 q.1)]
  · rw [if_neg h1, if_neg (show ¬ okM m from h1)]
theorem check_zero {c th mo tu ep es m : Int} : CheckF c th mo tu ep es m = 0 ↔ okM m ∧ okS c th mo tu ep es m := by
  unfold CheckF
  by_cases h : okM m
  · rw [if_pos h]
    by_cases g : okS c th mo tu ep es m
    · rw [if_pos g]; exact ⟨fun _ => ⟨h, g⟩, fun _ => rfl⟩
    · rw [if_neg g]; exact ⟨fun q => by omega, fun q => absurd q.2 g⟩
  · rw [if_neg h]; exact ⟨fun q => by omega, fun q => absurd q.1 h⟩
abbrev St := Int × Int × Int × Int × Int × Int × Bool × Int
def goF (c th mo tu ep es : Int) (h : Bool) (m n now rtt : Int) : St :=
  if mn (es + 9 * m * n / (17 * c)) 1073741824 > curveF mo m (mx 0 (now - ep) + rtt - tu) then
    (mx c (mn (es + 9 * m * n / (17 * c)) 1073741824), th, mo, tu, ep, mn (es + 9 * m * n / (17 * c)) 1073741824, h, 0)
  else (mn (c + (mn (mx (curveF mo m (mx 0 (now - ep) + rtt - tu)) c) (c * 3 / 2) - c) * n / c) 1073741824, th, mo, tu, ep, mn (es + 9 * m * n / (17 * c)) 1073741824, h, 0)
def okN (n now rtt : Int) : Prop := ((0 ≤ n ∧ n ≤ 1073741824) ∧ 0 ≤ rtt ∧ rtt ≤ 1073741824) ∧ 0 ≤ now ∧ now ≤ 1099511627776
instance (n now rtt : Int) : Decidable (okN n now rtt) := by unfold okN; infer_instance
noncomputable def AckF (c th mo tu ep es : Int) (h : Bool) (m n now rtt : Int) : St :=
  if CheckF c th mo tu ep es m = 0 then
    (if okN n now rtt then (if c < th then (mn (c + mn n m) 1073741824, th, mo, tu, ep, es, h, 0) else
      if h = true then goF c th mo tu ep es h m n now rtt else goF c th (mx mo c) (turnF mo c m) now c true m n now rtt)
    else (0, 0, 0, 0, 0, 0, false, 4))
  else (0, 0, 0, 0, 0, 0, false, CheckF c th mo tu ep es m)
theorem est_bd {m n c : Int} (hm : okM m) (hc : m ≤ c) (n0 : 0 ≤ n) (n1 : n ≤ 1073741824) : 0 ≤ 9 * m * n ∧ 9 * m * n ≤ 9000000000000000 ∧ 0 ≤ 9 * m * n / (17 * c) ∧ 9 * m * n / (17 * c) ≤ 9000000000000000 := by
  obtain ⟨m0, m1⟩ := hm
  have h0 : 0 ≤ 9 * m * n := Int.mul_nonneg (by omega) n0
  have h1 : 9 * m * n ≤ 589815 * 1073741824 := Int.mul_le_mul (by omega) n1 n0 (by omega)
  have h2 := ediv_lo (b := 17 * c) h0 (by omega)
  have h3 := ediv_hi (b := 17 * c) h0
  omega
theorem clamp_aim {x c : Int} (c0 : 1 ≤ c) : c ≤ mn (mx x c) (c * 3 / 2) ∧ mn (mx x c) (c * 3 / 2) ≤ c * 3 / 2 := by
  have h1 := mx_or x c; have h2 := mn_or (mx x c) (c * 3 / 2); omega
theorem grow_bd {x c n : Int} (c0 : 1 ≤ c) (c1 : c ≤ 1073741824) (n0 : 0 ≤ n) (n1 : n ≤ 1073741824) : 0 ≤ (mn (mx x c) (c * 3 / 2) - c) * n ∧ (mn (mx x c) (c * 3 / 2) - c) * n ≤ 600000000000000000 ∧ 0 ≤ (mn (mx x c) (c * 3 / 2) - c) * n / c ∧ (mn (mx x c) (c * 3 / 2) - c) * n / c ≤ 600000000000000000 := by
  obtain ⟨a0, a1⟩ := clamp_aim (x := x) c0
  generalize mn (mx x c) (c * 3 / 2) = y at *
  have h0 : 0 ≤ (y - c) * n := Int.mul_nonneg (by omega) n0
  have h1 : (y - c) * n ≤ 536870912 * 1073741824 := Int.mul_le_mul (by omega) n1 n0 (by omega)
  have h2 := ediv_lo (b := c) h0 (by omega)
  have h3 := ediv_hi (b := c) h0
  omega
theorem j1_eq (c th mo tu ep es : Int) (h : Bool) (m n now rtt : Int) (hm : okM m) (hs : okS c th mo tu ep es m) (hn : okN n now rtt) (k : Nat) : cubic_Ack.j1 (k + 1) m n now rtt c th mo tu ep es h = some (goF c th mo tu ep es h m n now rtt) := by
  obtain ⟨⟨c0, c1⟩, ⟨th0, th1⟩, ⟨⟨mo0, mo1⟩, es0, es1⟩, ⟨tu0, tu1⟩, ep0, ep1⟩ := hs
  obtain ⟨⟨⟨n0, n1⟩, r0, r1⟩, w0, w1⟩ := hn
  obtain ⟨e1, e2, e3, e4⟩ := est_bd (n := n) hm c0 n0 n1
  obtain ⟨m0, m1⟩ := hm
  have hx := mx_or 0 (now - ep)
  simp only [cubic_Ack.j1]
  rw [wrap_id (x := now - ep) (by omega) (by omega), wrap_id (x := mx 0 (now - ep) + rtt) (by omega) (by omega), wrap_id (x := mx 0 (now - ep) + rtt - tu) (by omega) (by omega), curve_eq mo m _ mo0 mo1 m0 m1, wrap_id (x := 17 * c) (by omega) (by omega), wrap_id (x := 9 * m) (by omega) (by omega), wrap_id (x := 9 * m * n) (by omega) (by omega), tdiv_pos e1, wrap_id (x := 9 * m * n / (17 * c)) (by omega) (by omega), wrap_id (x := es + 9 * m * n / (17 * c)) (by omega) (by omega)]
  simp only [Option.bind_some]
  unfold goF
  generalize curveF mo m (mx 0 (now - ep) + rtt - tu) = aim
  generalize mn (es + 9 * m * n / (17 * c)) 1073741824 = e
  rw [if_neg (by omega)]
  by_cases g : e > aim
  · rw [if_pos g, if_pos g]
  · rw [if_neg g, if_neg g, wrap_id (x := c * 3) (by omega) (by omega), tdiv_pos (by omega), wrap_id (x := c * 3 / 2) (by omega) (by omega), clamp_f]
    simp only [Option.bind_some]
    obtain ⟨g1, g2, g3, g4⟩ := grow_bd (x := aim) (c := c) (n := n) (by omega) c1 n0 n1
    have g5 := clamp_aim (x := aim) (c := c) (by omega)
    rw [if_neg (by omega), wrap_id (x := mn (mx aim c) (c * 3 / 2) - c) (by omega) (by omega), wrap_id (x := (mn (mx aim c) (c * 3 / 2) - c) * n) (by omega) (by omega), tdiv_pos g1, wrap_id (x := (mn (mx aim c) (c * 3 / 2) - c) * n / c) (by omega) (by omega), wrap_id (x := c + (mn (mx aim c) (c * 3 / 2) - c) * n / c) (by omega) (by omega)]
theorem ok_begun {c th mo tu ep es m now : Int} (hm : okM m) (hs : okS c th mo tu ep es m) (h0 : 0 ≤ now) (h1 : now ≤ 1099511627776) : okS c th (mx mo c) (turnF mo c m) now c m := by
  obtain ⟨⟨c0, c1⟩, ⟨th0, th1⟩, ⟨⟨mo0, mo1⟩, es0, es1⟩, ⟨tu0, tu1⟩, ep0, ep1⟩ := hs
  obtain ⟨m0, m1⟩ := hm
  have hb := turn_bd (a := mo) (c := c) (m := m) mo1 (by omega) m0
  have hx := mx_or mo c
  exact ⟨⟨c0, c1⟩, ⟨th0, th1⟩, ⟨⟨by omega, by omega⟩, by omega, by omega⟩, ⟨by omega, by omega⟩, h0, h1⟩
theorem Ack_eq (c th mo tu ep es : Int) (h : Bool) (m n now rtt : Int) (k : Nat) (hk : 50 ≤ k) : cubic_Ack.f k c th mo tu ep es h m n now rtt = some (AckF c th mo tu ep es h m n now rtt) := by
  obtain ⟨k, rfl⟩ : ∃ j, k = j + 1 + 1 := ⟨k - 2, by omega⟩
  unfold cubic_Ack.f AckF
  rw [Check_eq _ _ _ _ _ _ _ _ _ (by omega)]
  simp only [Option.bind_some]
  by_cases h1 : CheckF c th mo tu ep es m = 0
  · obtain ⟨hm, hs⟩ := check_zero.1 h1
    rw [if_pos h1, if_pos h1, in2 _ _ _ _ _ (by omega), in1 _ _ _ _ (by omega)]
    simp only [Option.bind_some, decide_eq_true_eq]
    by_cases h2 : (0 ≤ n ∧ n ≤ 1073741824) ∧ 0 ≤ rtt ∧ rtt ≤ 1073741824
    · rw [if_pos h2]
      by_cases h3 : 0 ≤ now ∧ now ≤ 1099511627776
      · have hn : okN n now rtt := ⟨h2, h3⟩
        rw [if_pos hn, decide_eq_true h3]
        simp only [cubic_Ack.j0]
        rw [if_neg (by decide)]
        obtain ⟨⟨c0, c1⟩, ⟨th0, th1⟩, ⟨⟨mo0, mo1⟩, es0, es1⟩, ⟨tu0, tu1⟩, ep0, ep1⟩ := id hs
        obtain ⟨m0, m1⟩ := id hm
        by_cases h4 : c < th
        · have hx := mn_or n m
          rw [if_pos h4, if_pos h4, wrap_id (by omega) (by omega)]
        · rw [if_neg h4, if_neg h4]
          cases h
          · rw [if_neg (by decide), if_neg (by decide), turn_eq mo c m mo1 (by omega) m0 m1 _ (by omega)]
            simp only [Option.bind_some]
            exact j1_eq _ _ _ _ _ _ _ _ _ _ _ hm (ok_begun hm hs h3.1 h3.2) hn _
          · rw [if_pos rfl, if_pos rfl]
            exact j1_eq _ _ _ _ _ _ _ _ _ _ _ hm hs hn _
      · rw [if_neg (fun q : okN n now rtt => h3 q.2), decide_eq_false h3]
        simp only [cubic_Ack.j0]
        rw [if_pos (by decide)]
    · rw [if_neg h2, if_neg (fun q : okN n now rtt => h2 q.1)]
      simp only [cubic_Ack.j0, if_true_eq]
  · rw [if_neg h1, if_neg h1]
def LossF (c th mo tu ep es m : Int) : St :=
  if CheckF c th mo tu ep es m = 0 then
    (mn (mx (c * 7 / 10) (2 * m)) 1073741824, mn (mx (c * 7 / 10) (2 * m)) 1073741824, (if mo > c then c * 17 / 20 else c), tu, ep, es, false, 0)
  else (0, 0, 0, 0, 0, 0, false, CheckF c th mo tu ep es m)
theorem Loss_eq (c th mo tu ep es : Int) (h : Bool) (m : Int) (k : Nat) (hk : 5 ≤ k) : cubic_Loss.f k c th mo tu ep es h m = some (LossF c th mo tu ep es m) := by
  unfold cubic_Loss.f LossF
  rw [Check_eq _ _ _ _ _ _ _ _ _ hk]
  simp only [Option.bind_some]
  by_cases h1 : CheckF c th mo tu ep es m = 0
  · obtain ⟨hm, hs⟩ := check_zero.1 h1
    obtain ⟨⟨c0, c1⟩, ⟨th0, th1⟩, ⟨⟨mo0, mo1⟩, es0, es1⟩, ⟨tu0, tu1⟩, ep0, ep1⟩ := hs
    obtain ⟨m0, m1⟩ := hm
    rw [if_pos h1, if_pos h1, wrap_id (x := c * 7) (by omega) (by omega), tdiv_pos (by omega), wrap_id (x := c * 7 / 10) (by omega) (by omega), wrap_id (x := 2 * m) (by omega) (by omega), clamp_f, wrap_id (x := c * 17) (by omega) (by omega), tdiv_pos (by omega), wrap_id (x := c * 17 / 20) (by omega) (by omega)]
    simp only [Option.bind_some]
    by_cases h2 : mo > c
    · rw [if_pos h2, if_pos h2]
    · rw [if_neg h2, if_neg h2]
  · rw [if_neg h1, if_neg h1]
def TimeoutF (c th mo tu ep es m : Int) : St :=
  if (LossF c th mo tu ep es m).2.2.2.2.2.2.2 = 0 then (m, (LossF c th mo tu ep es m).2) else LossF c th mo tu ep es m
theorem Timeout_eq (c th mo tu ep es : Int) (h : Bool) (m : Int) (k : Nat) (hk : 5 ≤ k) : cubic_Timeout.f k c th mo tu ep es h m = some (TimeoutF c th mo tu ep es m) := by
  unfold cubic_Timeout.f TimeoutF
  rw [Loss_eq _ _ _ _ _ _ _ _ _ hk]
  simp only [Option.bind_some]
  generalize LossF c th mo tu ep es m = s
  obtain ⟨s0, s1, s2, s3, s4, s5, s6, s7⟩ := s
  dsimp only
  by_cases h1 : s7 = 0
  · rw [if_pos h1, if_pos h1, h1]
  · rw [if_neg h1, if_neg h1]
end Go.Proofs.Ytolgfodpkeopgaa.PureC
