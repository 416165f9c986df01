/- Startup goes on as long as each three rounds bring a fourth more; behind three that don't it ends: of any rates and times. -/
import Derived.Test.YtodlibmnmjopbaaPlainK
import Derived.Test.YtodlibmnmjopbaaPAx7
namespace Go.Proofs.Ytodlibmnmjopbaa.Pure
open Go.RowKit Go.Proofs.Ytodlibmnmjopbaa.PA Go.Proofs.YtodlibmnmjopbaaW.PrintWords Go.Proofs.YtodlibmnmjopbaaW.PrintLast Go.Proofs.YtodlibmnmjopbaaW.PrintMore Go.Proofs.Ytodlibmnmjopbaa.Util Go.Proofs.Ytodlibmnmjopbaa.Hand
set_option linter.unusedVariables false
set_option linter.unusedSimpArgs false

/-- The list behind i rounds: the last pair alone. -/
def lst (i old : Int) : List S36 := if i = 0 then [] else [⟨i, old⟩]
theorem put_lst (i old new : Int) (hi : 0 ≤ i ∧ i ≤ 100) (h : old ≤ new) : putL (lst i old) (i + 1) new = [⟨i + 1, new⟩] := by
  unfold lst
  by_cases c : i = 0
  · rw [if_pos c]
    unfold putL bump
    simp
  · rw [if_neg c]
    have hb : bump [⟨i, old⟩] (i + 1) new = new := by
      unfold bump
      rw [if_neg]
      intro x
      have : (rd_T36 [(⟨i, old⟩ : S36)] (((([(⟨i, old⟩ : S36)] : List S36).length : Nat) : Int) - 1)).f0 = i := rfl
      rw [this] at x
      omega
    unfold putL
    rw [hb]
    have hk : keep (i + 1) new ⟨i, old⟩ = false := by
      unfold keep del
      simp [h]
    simp [hk]
theorem may_lst (i old : Int) (hi : 0 ≤ i ∧ i ≤ 100) (h : 0 ≤ old ∧ old ≤ 1073741824) : mayV (lst i old) = true := by
  unfold lst
  split
  · exact may_nil
  · exact may_one _ _ (by omega) h
theorem last_lst (i old : Int) : lastR (lst i old) = i := by
  unfold lst
  split
  · rename_i c; rw [c]; rfl
  · rfl
/-- An event of the law of Startup. -/
theorem start_ack (hr : Bool) (t ra i old new best flat : Int) (hi : 0 ≤ i ∧ i < 8) (ho : 0 ≤ old ∧ old ≤ new) (hn : 1000 ≤ new ∧ new ≤ 1000000) (ht : 1 ≤ t ∧ t ≤ 100) (rt : Int) (hrt : (hr = false ∧ rt = 0) ∨ (hr = true ∧ rt = t)) (hra : 0 ≤ ra ∧ ra ≤ 100) (hb : 0 ≤ best ∧ best ≤ 1000000) (hf : 0 ≤ flat ∧ flat ≤ 2) :
    bbr_Ack.f 0 (lst i old) hr rt ra false best flat 0 0 0 i 1000 i (i + 1) new t 1073741824 true true =
      some ((if 5 * best ≤ 4 * new then 0 else if flat + 1 < 3 then 0 else 1), [⟨i + 1, new⟩], true, t, i, (if 5 * best ≤ 4 * new then false else decide (3 ≤ flat + 1)), (if 5 * best ≤ 4 * new then new else best), (if 5 * best ≤ 4 * new then 0 else flat + 1), 0, 0, 0, i + 1, 0) := by
  unfold bbr_Ack.f ackF
  have hok : okS (lst i old) 0 rt ra best flat 0 0 0 i ∧ okE ⟨0, lst i old, hr, rt, ra, false, best, flat, 0, 0, 0, i⟩ ⟨i, i + 1, new, t, 1073741824, true, true⟩ 1000 := by
    have hrb : 0 ≤ rt ∧ rt ≤ 100 := by rcases hrt with ⟨_, h⟩ | ⟨_, h⟩ <;> omega
    refine ⟨⟨by omega, by omega, may_lst i old (by omega) (by omega), by omega, by omega, by omega, by omega, by omega, by omega, by omega⟩, ⟨by omega, ?_, ?_, ?_, ?_, ?_, ?_, ?_⟩⟩
    all_goals simp [last_lst]
    all_goals omega
  rw [if_pos hok]
  have e1 : st1 ⟨0, lst i old, hr, rt, ra, false, best, flat, 0, 0, 0, i⟩ ⟨i, i + 1, new, t, 1073741824, true, true⟩ = ⟨0, [⟨i + 1, new⟩], hr, rt, ra, false, best, flat, 0, 0, 0, i⟩ := by
    unfold st1
    simp [put_lst i old new (by omega) ho.2]
  have hg : gr [(⟨i + 1, new⟩ : S36)] = new := rfl
  have e2 : st2 ⟨0, [⟨i + 1, new⟩], hr, rt, ra, false, best, flat, 0, 0, 0, i⟩ ⟨i, i + 1, new, t, 1073741824, true, true⟩ = ⟨0, [⟨i + 1, new⟩], hr, rt, ra, (if 5 * best ≤ 4 * new then false else decide (3 ≤ flat + 1)), (if 5 * best ≤ 4 * new then new else best), (if 5 * best ≤ 4 * new then 0 else flat + 1), 0, 0, 0, i + 1⟩ := by
    unfold st2 roundS
    rw [if_pos ⟨by show i < i + 1; omega, rfl⟩]
    simp only [hg]
    by_cases c : 5 * best ≤ 4 * new
    · simp only [if_pos c]
    · simp only [if_neg c]
      rw [if_pos (by omega)]
  have hfr : fresher hr rt ra i t = true := by
    unfold fresher
    rcases hrt with ⟨rfl, _⟩ | ⟨rfl, rfl⟩
    · simp
    · simp
  have hst : stale hr ra i = false := by unfold stale; rw [decide_eq_false (by omega)]; simp
  have e3 : ∀ (fu : Bool) (a b : Int), st3 ⟨0, [⟨i + 1, new⟩], hr, rt, ra, fu, a, b, 0, 0, 0, i + 1⟩ ⟨i, i + 1, new, t, 1073741824, true, true⟩ = ⟨0, [⟨i + 1, new⟩], true, t, i, fu, a, b, 0, 0, 0, i + 1⟩ := fun fu a b => by
    unfold st3
    rw [if_pos ⟨rfl, hfr⟩]
  have eo : ∀ (fu : Bool) (a b : Int), oldS ⟨0, [⟨i + 1, new⟩], hr, rt, ra, fu, a, b, 0, 0, 0, i + 1⟩ ⟨i, i + 1, new, t, 1073741824, true, true⟩ = false := fun fu a b => by unfold oldS; simp [hst]
  have e4 : ∀ (fu : Bool) (a b : Int), st4 ⟨0, [⟨i + 1, new⟩], true, t, i, fu, a, b, 0, 0, 0, i + 1⟩ ⟨i, i + 1, new, t, 1073741824, true, true⟩ = ⟨(if fu = true then 1 else 0), [⟨i + 1, new⟩], true, t, i, fu, a, b, 0, 0, 0, i + 1⟩ := fun fu a b => by
    unfold st4
    cases fu
    · simp
    · simp
  have hp : new * t ≤ 1000000 * 100 := Int.mul_le_mul hn.2 ht.2 (by omega) (by decide)
  have e5 : ∀ (fu : Bool) (p a b : Int), st5 ⟨p, [⟨i + 1, new⟩], true, t, i, fu, a, b, 0, 0, 0, i + 1⟩ ⟨i, i + 1, new, t, 1073741824, true, true⟩ = ⟨p, [⟨i + 1, new⟩], true, t, i, fu, a, b, 0, 0, 0, i + 1⟩ := fun fu p a b => by
    unfold st5
    rw [if_neg]
    rintro ⟨_, h⟩
    have h' : 1073741824 ≤ new * t / 1024 := h
    omega
  have e6 : ∀ (fu : Bool) (p a b : Int), p = 0 ∨ p = 1 → st6 ⟨p, [⟨i + 1, new⟩], true, t, i, fu, a, b, 0, 0, 0, i + 1⟩ ⟨i, i + 1, new, t, 1073741824, true, true⟩ false = ⟨p, [⟨i + 1, new⟩], true, t, i, fu, a, b, 0, 0, 0, i + 1⟩ := fun fu p a b hp => by
    unfold st6
    rw [if_neg (by show ¬ p = 3; omega), if_neg (by decide)]
  unfold ackB
  rw [e1, e2, eo, e3, e4, e5, e6 _ _ _ _ (by by_cases z : ((if 5 * best ≤ 4 * new then false else decide (3 ≤ flat + 1)) = true) <;> simp [z])]
  by_cases c : 5 * best ≤ 4 * new
  · simp [c]
  · by_cases c2 : flat + 1 < 3
    · have c3 : ¬ 3 ≤ flat + 1 := by omega
      simp [c, c2, c3]
    · have c3 : 3 ≤ flat + 1 := by omega
      simp [c, c2, c3]
theorem start_ev (l : List Int) (hl : l.length ≤ 100000000000000) (t : Int) (ht : 1 ≤ t ∧ t ≤ 100) : ∀ (d i : Nat) (rate best flat : Int) (hr : Bool) (rt ra : Int), i + d = 8 → (1000 ≤ rate ∧ rate ≤ 2000 * (2 ^ i : Nat)) → (0 ≤ best ∧ best ≤ rate) → (0 ≤ flat ∧ flat ≤ 2) → (0 ≤ ra ∧ ra ≤ 100) → ((hr = false ∧ rt = 0) ∨ (hr = true ∧ rt = t)) →
    Ev (fun k => stopcocklaw23_BbrStartup.l0 k rate l t best flat (i : Int) 0 (lst (i : Int) rate) hr rt ra false best flat 0 0 0 (i : Int)) true := by
  intro d
  induction d with
  | zero =>
    intro i rate best flat hr rt ra hi hrate hb hf hra hrt
    refine evEnd 2 (fun k hk => ?_)
    obtain ⟨m, rfl⟩ : ∃ m, k = m + 2 := ⟨k - 2, by omega⟩
    simp only [stopcocklaw23_BbrStartup.l0]
    by_cases h : (i : Int) < (l.length : Int)
    · rw [if_pos h, decide_eq_false (by omega)]
      simp only [stopcocklaw23_BbrStartup.j1]
      rw [if_neg (by decide)]
    · rw [if_neg h]
      simp only [stopcocklaw23_BbrStartup.j1]
      rw [if_neg (by decide)]
  | succ d ih =>
    intro i rate best flat hr rt ra hi hrate hb hf hra hrt
    have hpow : ((2 ^ i : Nat) : Int) ≤ 128 := by
      have : 2 ^ i ≤ 2 ^ 7 := Nat.pow_le_pow_right (by decide) (by omega)
      omega
    by_cases h : (i : Int) < (l.length : Int)
    · obtain ⟨u, hu1, hu2, hu3⟩ := gmod' (rd l (i : Int)) 60 (by decide) (by decide)
      obtain ⟨g, hg⟩ : ∃ g, rate * u / 100 = g := ⟨_, rfl⟩
      have hru : rate * u ≤ rate * 60 := Int.mul_le_mul_of_nonneg_left (by omega) (by omega)
      have hru0 : 0 ≤ rate * u := Int.mul_nonneg (by omega) hu2
      have hgb : 0 ≤ g ∧ g ≤ rate := by rw [← hg]; omega
      obtain ⟨new, hnew⟩ : ∃ n, rate + g = n := ⟨_, rfl⟩
      have hp2 : ((2 ^ (i + 1) : Nat) : Int) = 2 * ((2 ^ i : Nat) : Int) := by rw [Nat.pow_succ]; simp; omega
      have hnb : 1000 ≤ new ∧ new ≤ 2000 * ((2 ^ (i + 1) : Nat) : Int) := by rw [hp2]; omega
      have ha := start_ack hr t ra i rate new best flat (by omega) ⟨by omega, by omega⟩ (by omega) ht rt hrt hra (by omega) hf
      have e1 : (wrap64 (rate + (wrap64 (Int.tdiv (wrap64 (rate * (Int.tmod (wrap64 ((Int.tmod (rd l (i : Int)) 60) + 60)) 60))) 100)))) = new := by
        rw [hu1, wrap_id (x := rate * u) (by omega) (by omega), tdiv_pos hru0, hg, wrap_id (x := g) (by omega) (by omega), wrap_id (x := rate + g) (by omega) (by omega), hnew]
      have hls : lst ((i + 1 : Nat) : Int) new = [⟨(i : Int) + 1, new⟩] := by unfold lst; rw [if_neg (by omega)]; simp
      have hj : Ev (fun k => stopcocklaw23_BbrStartup.j1 k rate l t best flat (i : Int) true 0 (lst (i : Int) rate) hr rt ra false best flat 0 0 0 (i : Int)) true := by
        by_cases c : 5 * best ≤ 4 * new
        · have hn := ih (i + 1) new new 0 true t (i : Int) (by omega) hnb (by omega) (by omega) (by omega) (.inr ⟨rfl, rfl⟩)
          rw [hls] at hn
          have hj2 : Ev (fun k => stopcocklaw23_BbrStartup.j2 k new l t new 0 (i : Int) 0 [⟨(i : Int) + 1, new⟩] true t (i : Int) false new 0 0 0 0 ((i : Int) + 1)) true := by
            refine evStep 0 (fun k _ => ?_) hn
            simp only [stopcocklaw23_BbrStartup.j2]
            rw [if_neg (by decide), if_neg (by decide), wrap_id (x := (i : Int) + 1) (by omega) (by omega)]
            rfl
          refine evStep 0 (fun k _ => ?_) hj2
          simp only [stopcocklaw23_BbrStartup.j1]
          rw [if_pos trivial, if_pos (by omega), if_pos h, e1, wrap_id (x := (i : Int) + 1) (by omega) (by omega), ha]
          simp only [Option.bind_some, stopcocklaw23_num.f, if_true, if_pos c]
          rw [wrap_id (x := 4 * new) (by omega) (by omega), wrap_id (x := 5 * best) (by omega) (by omega), if_pos (by omega)]
        · by_cases c2 : flat + 1 < 3
          · have c3 : decide (3 ≤ flat + 1) = false := decide_eq_false (by omega)
            have hn := ih (i + 1) new best (flat + 1) true t (i : Int) (by omega) hnb (by omega) (by omega) (by omega) (.inr ⟨rfl, rfl⟩)
            rw [hls] at hn
            have hj2 : Ev (fun k => stopcocklaw23_BbrStartup.j2 k new l t best (flat + 1) (i : Int) 0 [⟨(i : Int) + 1, new⟩] true t (i : Int) false best (flat + 1) 0 0 0 ((i : Int) + 1)) true := by
              refine evStep 0 (fun k _ => ?_) hn
              simp only [stopcocklaw23_BbrStartup.j2]
              rw [decide_eq_true c2, if_neg (by decide), if_neg (by omega), wrap_id (x := (i : Int) + 1) (by omega) (by omega)]
              rfl
            refine evStep 0 (fun k _ => ?_) hj2
            simp only [stopcocklaw23_BbrStartup.j1]
            rw [if_pos trivial, if_pos (by omega), if_pos h, e1, wrap_id (x := (i : Int) + 1) (by omega) (by omega), ha]
            simp only [Option.bind_some, stopcocklaw23_num.f, if_true, if_neg c, if_pos c2, c3]
            rw [wrap_id (x := 4 * new) (by omega) (by omega), wrap_id (x := 5 * best) (by omega) (by omega), if_neg (by omega), wrap_id (x := flat + 1) (by omega) (by omega)]
          · have c3 : decide (3 ≤ flat + 1) = true := decide_eq_true (by omega)
            have hj2 : Ev (fun k => stopcocklaw23_BbrStartup.j2 k new l t best (flat + 1) (i : Int) 1 [⟨(i : Int) + 1, new⟩] true t (i : Int) true best (flat + 1) 0 0 0 ((i : Int) + 1)) true := by
              refine evEnd 1 (fun k hk => ?_)
              obtain ⟨m, rfl⟩ : ∃ m, k = m + 1 := ⟨k - 1, by omega⟩
              simp only [stopcocklaw23_BbrStartup.j2]
              rw [decide_eq_false c2, if_neg (by decide), if_pos (by omega), if_pos trivial]
            refine evStep 0 (fun k _ => ?_) hj2
            simp only [stopcocklaw23_BbrStartup.j1]
            rw [if_pos trivial, if_pos (by omega), if_pos h, e1, wrap_id (x := (i : Int) + 1) (by omega) (by omega), ha]
            simp only [Option.bind_some, stopcocklaw23_num.f, if_true, if_neg c, if_neg c2, c3]
            rw [wrap_id (x := 4 * new) (by omega) (by omega), wrap_id (x := 5 * best) (by omega) (by omega), if_neg (by omega), wrap_id (x := flat + 1) (by omega) (by omega)]
      refine evStep 0 (fun k _ => ?_) hj
      simp only [stopcocklaw23_BbrStartup.l0]
      rw [if_pos h, decide_eq_true (by omega)]
    · refine evEnd 2 (fun k hk => ?_)
      obtain ⟨m, rfl⟩ : ∃ m, k = m + 2 := ⟨k - 2, by omega⟩
      simp only [stopcocklaw23_BbrStartup.l0]
      rw [if_neg h]
      simp only [stopcocklaw23_BbrStartup.j1]
      rw [if_neg (by decide)]
theorem BbrStartup : stopcocklaw23_BbrStartup.Pure := by
  intro a0 l1 a2 h0 h1 h2 h3 h4
  obtain ⟨r, hr1, hr2, hr3⟩ := gmod' a0 1000 (by decide) (by decide)
  obtain ⟨t, ht1, ht2, ht3⟩ := gmod' a2 100 (by decide) (by decide)
  obtain ⟨K1, e1⟩ := alive_ev'
  obtain ⟨K2, e2⟩ := start_ev l1 (by omega) (1 + t) (by omega) 8 0 (1000 + r) 0 0 false 0 0 (by omega) (by simp; omega) (by omega) (by omega) (by omega) (.inl ⟨rfl, rfl⟩)
  refine ⟨K1 + K2, ?_⟩
  unfold stopcocklaw23_BbrStartup.f
  rw [show stopcocklaw23_alive.f (K1 + K2) = _ from e1 _ (by omega), Option.bind_some, if_pos rfl, hr1, ht1, wrap_id (x := 1000 + r) (by omega) (by omega), wrap_id (x := 1 + t) (by omega) (by omega)]
  exact e2 _ (by omega)
end Go.Proofs.Ytodlibmnmjopbaa.Pure
