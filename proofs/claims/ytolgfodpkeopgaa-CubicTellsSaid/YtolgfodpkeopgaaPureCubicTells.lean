import Derived.Test.YtolgfodpkeopgaaMovesC
import Derived.Test.YtolgfodpkeopgaaPCx23
namespace Go.Proofs.Ytolgfodpkeopgaa.Pure
open Go.RowKit Go.Proofs.Ytolgfodpkeopgaa.PC Go.Proofs.YtolgfodpkeopgaaW.PrintWords Go.Proofs.YtolgfodpkeopgaaW.PrintLast Go.Proofs.YtolgfodpkeopgaaW.PrintMore Go.Proofs.Ytolgfodpkeopgaa.Util Go.Proofs.Ytolgfodpkeopgaa.PureC
set_option linter.unusedVariables false
set_option linter.unusedSimpArgs false

theorem rcheck_eq (c th mo tu ep es : Int) (h : Bool) (m : Int) : stopcockref21_Check.f c th mo tu ep es h m = some (CheckF c th mo tu ep es m) := by
  unfold stopcockref21_Check.f CheckF
  simp only [within_eq, Option.bind_some, decide_eq_true_eq]
  by_cases h1 : 1 ≤ m ∧ m ≤ 65535
  · rw [if_pos h1, if_pos (show okM m from h1)]
    by_cases h2 : m ≤ c ∧ c ≤ 1073741824
    · rw [if_pos h2]
      by_cases h3 : 1 ≤ th ∧ th ≤ 1073741824
      · rw [if_pos h3]
        by_cases h4 : 0 ≤ mo ∧ mo ≤ 1073741824
        · rw [if_pos h4]
          by_cases h4' : 0 ≤ es ∧ es ≤ 1073741824
          · rw [if_pos h4']
            by_cases h5 : 0 ≤ tu ∧ tu ≤ 4194304
            · rw [if_pos h5]
              by_cases h6 : 0 ≤ ep ∧ ep ≤ 1099511627776
              · rw [if_pos h6, if_pos (show okS c th mo tu ep es m from ⟨h2, h3, ⟨h4, h4'⟩, h5, h6⟩)]
              · rw [if_neg h6, if_neg (fun q : okS c th mo tu ep es m => h6 q.2.2.2.2)]
            · rw [if_neg h5, if_neg (fun q : okS c th mo tu ep es m => h5 q.2.2.2.1)]
          · rw [if_neg h4', if_neg (fun q : okS c th mo tu ep es m => h4' q.2.2.1.2)]
        · rw [if_neg h4, if_neg (fun q : okS c th mo tu ep es m => h4 q.2.2.1.1)]
      · rw [if_neg h3, if_neg (fun q : okS c th mo tu ep es m => h3 q.2.1)]
    · rw [if_neg h2, if_neg (fun q : okS c th mo tu ep es m => h2 q.1)]
  · rw [if_neg h1, if_neg (show ¬ okM m from h1)]
theorem rloss_eq (c th mo tu ep es : Int) (h : Bool) (m : Int) : stopcockref21_Loss.f c th mo tu ep es h m = some (LossF c th mo tu ep es m) := by
  unfold stopcockref21_Loss.f LossF
  rw [rcheck_eq]
  simp only [Option.bind_some]
  by_cases h1 : CheckF c th mo tu ep es m = 0
  · obtain ⟨hm, hs⟩ := check_zero.1 h1
    obtain ⟨⟨c0, c1⟩, ⟨th0, th1⟩, ⟨⟨mo0, mo1⟩, es0, es1⟩, ⟨tu0, tu1⟩, ep0, ep1⟩ := hs
    obtain ⟨m0, m1⟩ := hm
    rw [if_pos h1, if_pos h1, wrap_id (x := c * 7) (by omega) (by omega), tdiv_pos (by omega), wrap_id (x := c * 7 / 10) (by omega) (by omega), wrap_id (x := 2 * m) (by omega) (by omega), wrap_id (x := c * 17) (by omega) (by omega), tdiv_pos (by omega), wrap_id (x := c * 17 / 20) (by omega) (by omega)]
    by_cases h2 : c < mo
    · rw [if_pos h2, if_pos (show mo > c from h2)]
    · rw [if_neg h2, if_neg (show ¬ mo > c from h2)]
  · rw [if_neg h1, if_neg h1]
theorem rtime_eq (c th mo tu ep es : Int) (h : Bool) (m : Int) : stopcockref21_Timeout.f c th mo tu ep es h m = some (TimeoutF c th mo tu ep es m) := by
  unfold stopcockref21_Timeout.f TimeoutF
  rw [rloss_eq]
  simp only [Option.bind_some]
  generalize LossF c th mo tu ep es m = s
  obtain ⟨s0, s1, s2, s3, s4, s5, s6, s7⟩ := s
  dsimp only
  by_cases h1 : s7 = 0
  · rw [if_pos h1, if_pos h1]
  · rw [if_neg h1, if_neg h1]
theorem aim_ref {x c : Int} (c0 : 1 ≤ c) : mx c (mn x (c * 3 / 2)) = mn (mx x c) (c * 3 / 2) := by
  have h1 := mx_or c (mn x (c * 3 / 2)); have h2 := mn_or x (c * 3 / 2); have h3 := mx_or x c; have h4 := mn_or (mx x c) (c * 3 / 2)
  omega
theorem go_ref (c th mo tu ep es : Int) (h : Bool) (m n now rtt : Int) (hm : okM m) (hs : okS c th mo tu ep es m) (hn : okN n now rtt) (a : Int) (ha : a = mx 0 (now - ep) + rtt - tu) :
    ((stopcockref21_Curve.f mo m a).bind fun bt => (if (wrap64 (17 * c)) = 0 then (none) else (if (mn (wrap64 (es + (wrap64 (Int.tdiv (wrap64 ((wrap64 (9 * m)) * n)) (wrap64 (17 * c)))))) 1073741824) > bt.1 then (some (mx c (mn (wrap64 (es + (wrap64 (Int.tdiv (wrap64 ((wrap64 (9 * m)) * n)) (wrap64 (17 * c)))))) 1073741824), th, mo, tu, ep, mn (wrap64 (es + (wrap64 (Int.tdiv (wrap64 ((wrap64 (9 * m)) * n)) (wrap64 (17 * c)))))) 1073741824, h, (0 : Int))) else (if c = 0 then (none) else (some (mn (wrap64 (c + (wrap64 (Int.tdiv (wrap64 ((wrap64 ((mx c (mn bt.1 (wrap64 (Int.tdiv (wrap64 (c * 3)) 2)))) - c)) * n)) c)))) 1073741824, th, mo, tu, ep, mn (wrap64 (es + (wrap64 (Int.tdiv (wrap64 ((wrap64 (9 * m)) * n)) (wrap64 (17 * c)))))) 1073741824, h, (0 : Int))))))) = some (goF c th mo tu ep es h m n now rtt) := by
  obtain ⟨⟨c0, c1⟩, ⟨th0, th1⟩, ⟨⟨mo0, mo1⟩, es0, es1⟩, ⟨tu0, tu1⟩, ep0, ep1⟩ := hs
  obtain ⟨⟨⟨n0, n1⟩, r0, r1⟩, w0, w1⟩ := hn
  obtain ⟨e1, e2, e3, e4⟩ := est_bd (n := n) hm c0 n0 n1
  have hok : okA mo m := ⟨⟨mo0, mo1⟩, hm⟩
  obtain ⟨m0, m1⟩ := hm
  rw [rCurve_eq]
  simp only [Option.bind_some]
  unfold CurveF
  rw [if_pos hok, wrap_id (x := 17 * c) (by omega) (by omega), wrap_id (x := 9 * m) (by omega) (by omega), wrap_id (x := 9 * m * n) (by omega) (by omega), tdiv_pos e1, wrap_id (x := 9 * m * n / (17 * c)) (by omega) (by omega), wrap_id (x := es + 9 * m * n / (17 * c)) (by omega) (by omega), if_neg (show ¬ 17 * c = 0 by omega), ha]
  unfold goF
  dsimp only
  generalize curveF mo m (mx 0 (now - ep) + rtt - tu) = aim
  generalize mn (es + 9 * m * n / (17 * c)) 1073741824 = e
  by_cases g : e > aim
  · rw [if_pos g, if_pos g]
  · rw [if_neg g, if_neg g, if_neg (show ¬ c = 0 by omega), wrap_id (x := c * 3) (by omega) (by omega), tdiv_pos (show 0 ≤ c * 3 by omega), wrap_id (x := c * 3 / 2) (by omega) (by omega), aim_ref (by omega)]
    obtain ⟨g1, g2, g3, g4⟩ := grow_bd (x := aim) (c := c) (n := n) (by omega) c1 n0 n1
    have g5 := clamp_aim (x := aim) (c := c) (by omega)
    rw [wrap_id (x := mn (mx aim c) (c * 3 / 2) - c) (by omega) (by omega), wrap_id (x := (mn (mx aim c) (c * 3 / 2) - c) * n) (by omega) (by omega), tdiv_pos g1, wrap_id (x := (mn (mx aim c) (c * 3 / 2) - c) * n / c) (by omega) (by omega), wrap_id (x := c + (mn (mx aim c) (c * 3 / 2) - c) * n / c) (by omega) (by omega)]
theorem rack_eq (c th mo tu ep es : Int) (h : Bool) (m n now rtt : Int) (k : Nat) (hk : 50 ≤ k) : stopcockref21_Ack.f k c th mo tu ep es h m n now rtt = some (AckF c th mo tu ep es h m n now rtt) := by
  obtain ⟨k, rfl⟩ : ∃ j, k = j + 1 := ⟨k - 1, by omega⟩
  unfold stopcockref21_Ack.f AckF
  rw [rcheck_eq]
  simp only [Option.bind_some, within_eq, decide_eq_true_eq, stopcockref21_Ack.j0, if_true_eq, reduceIte]
  by_cases h1 : CheckF c th mo tu ep es m = 0
  · obtain ⟨hm, hs⟩ := check_zero.1 h1
    rw [if_pos h1, if_pos h1]
    by_cases h2 : 0 ≤ n ∧ n ≤ 1073741824
    · rw [if_pos h2]
      by_cases h3 : 0 ≤ now ∧ now ≤ 1099511627776
      · rw [if_pos h3]
        by_cases h3' : 0 ≤ rtt ∧ rtt ≤ 1073741824
        · have hn : okN n now rtt := ⟨⟨h2, h3'⟩, h3⟩
          rw [if_pos hn, decide_eq_true h3', if_neg (by decide)]
          obtain ⟨⟨c0, c1⟩, ⟨th0, th1⟩, ⟨⟨mo0, mo1⟩, es0, es1⟩, ⟨tu0, tu1⟩, ep0, ep1⟩ := id hs
          obtain ⟨m0, m1⟩ := id hm
          by_cases h4 : c < th
          · have hx := mn_or n m
            rw [if_pos h4, if_pos h4, wrap_id (by omega) (by omega)]
          · rw [if_neg h4, if_neg h4]
            have hx := mx_or 0 (now - ep)
            cases h
            · rw [if_neg (by decide), if_neg (by decide), rTurn_eq mo c m _ (by omega)]
              simp only [Option.bind_some]
              have hot : okT mo c m := ⟨⟨⟨mo0, mo1⟩, by omega, c1⟩, hm⟩
              unfold TurnF
              rw [if_pos hot]
              dsimp only
              have hb := turn_bd (a := mo) (c := c) (m := m) mo1 (by omega) m0
              rw [wrap_id (x := rtt) (by omega) (by omega), wrap_id (x := rtt - turnF mo c m) (by omega) (by omega)]
              have hz := mx_or 0 (now - now)
              exact go_ref _ _ _ _ _ _ _ _ _ _ _ hm (ok_begun hm hs h3.1 h3.2) hn _ (by omega)
            · rw [if_pos rfl, if_pos rfl, wrap_id (x := now - ep) (by omega) (by omega), wrap_id (x := mx 0 (now - ep) + rtt) (by omega) (by omega), wrap_id (x := mx 0 (now - ep) + rtt - tu) (by omega) (by omega)]
              exact go_ref _ _ _ _ _ _ _ _ _ _ _ hm hs hn _ rfl
        · rw [if_neg (fun q : okN n now rtt => h3' q.1.2), decide_eq_false h3', if_pos (by decide)]
      · rw [if_neg h3, if_neg (fun q : okN n now rtt => h3 q.2)]
    · rw [if_neg h2, if_neg (fun q : okN n now rtt => h2 q.1.1)]
  · rw [if_neg h1, if_neg h1]
def NewF (m : Int) : St := if 1 ≤ m ∧ m ≤ 65535 then (mn (10 * m) (mx (2 * m) 14600), 1073741824, 0, 0, 0, 0, false, 0) else (0, 0, 0, 0, 0, 0, false, 4)
theorem new_eq (m : Int) : cubic_New.f m = some (NewF m) := by
  unfold cubic_New.f reno_New.f reno_size.f NewF
  by_cases h : 1 ≤ m ∧ m ≤ 65535
  · rw [if_pos h, if_neg (by omega), if_neg (by omega)]
    simp only [Option.bind_some]
    rw [if_pos trivial, wrap_id (x := 10 * m) (by omega) (by omega), wrap_id (x := 2 * m) (by omega) (by omega)]
    rfl
  · have e : (if m < 1 then some 4 else if m > 65535 then some 4 else some 0) = some (4 : Int) := by
      refine ite_to (fun _ => rfl) fun q1 => ite_to (fun _ => rfl) fun q2 => by omega
    rw [if_neg h, e]
    rfl
theorem rnew_eq (m : Int) : stopcockref21_New.f m = some (NewF m) := by
  unfold stopcockref21_New.f stopcockref20_Begin.f NewF
  simp only [within_eq, Option.bind_some, decide_eq_true_eq]
  by_cases h : 1 ≤ m ∧ m ≤ 65535
  · rw [if_pos h, if_pos h, wrap_id (x := 10 * m) (by omega) (by omega), wrap_id (x := 2 * m) (by omega) (by omega)]
  · rw [if_neg h, if_neg h]
theorem CubicTells : stopcocklaw21_CubicTells.Pure := by
  intro c th mo tu ep es h m n now rtt _ _ _ _ _ _ _ _ _ _
  refine ⟨60, ?_⟩
  unfold stopcocklaw21_CubicTells.f
  rw [Ack_eq _ _ _ _ _ _ _ _ _ _ _ 60 (by omega), rack_eq _ _ _ _ _ _ _ _ _ _ _ 60 (by omega), Loss_eq _ _ _ _ _ _ _ _ 60 (by omega), rloss_eq, Timeout_eq _ _ _ _ _ _ _ _ 60 (by omega), rtime_eq, new_eq, rnew_eq, Check_eq _ _ _ _ _ _ _ _ 60 (by omega), rcheck_eq, alive 60 (by omega)]
  simp only [Option.bind_some, num_eq, beq_self_eq_true, Bool.and_self, if_true_eq, Bool.not_true, Bool.or_self, Bool.false_eq_true, if_false]
end Go.Proofs.Ytolgfodpkeopgaa.Pure
