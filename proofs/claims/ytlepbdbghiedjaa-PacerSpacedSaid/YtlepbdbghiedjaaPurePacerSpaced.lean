/- No packet leaves ahead of now, nor ahead of an earlier one, and no more leaves in a stretch than rate, quantum and a packet give: for all lists and numbers. -/
import Derived.Test.YtlepbdbghiedjaaPAx2
import Derived.Test.YtlepbdbghiedjaaPurePacerTells
namespace Go.Proofs.Ytlepbdbghiedjaa.Pure
open Go.RowKit Go.Proofs.Ytlepbdbghiedjaa.PA Go.Proofs.YtlepbdbghiedjaaW.PrintWords Go.Proofs.YtlepbdbghiedjaaW.PrintLast Go.Proofs.YtlepbdbghiedjaaW.PrintMore Go.Proofs.Ytlepbdbghiedjaa.Util

def sumL : List Int → Int
  | [] => 0
  | x :: t => x + sumL t
theorem sumL_append (a b : List Int) : sumL (a ++ b) = sumL a + sumL b := by
  induction a with
  | nil => simp [sumL]
  | cons x t ih => simp [sumL, ih]; omega
theorem sumL_bd (a : List Int) (h : ∀ x ∈ a, 1 ≤ x ∧ x ≤ 1500) : 0 ≤ sumL a ∧ sumL a ≤ 1500 * a.length := by
  induction a with
  | nil => simp [sumL]
  | cons x t ih =>
    have h1 := h x (by simp)
    have h2 := ih (fun y hy => h y (by simp [hy]))
    simp [sumL]; omega
def S (l : List Int) (k : Nat) : Int := sumL (l.drop k)
theorem S_at (l : List Int) (k : Nat) (h : k < l.length) : S l k = l.getD k 0 + S l (k + 1) := by
  unfold S; rw [List.drop_eq_getElem_cons h, getD_eq l k 0 h]; rfl
theorem S_end (l : List Int) (k : Nat) (h : l.length ≤ k) : S l k = 0 := by
  unfold S; rw [List.drop_of_length_le h]; rfl
theorem S_snoc (l : List Int) (n : Int) (k : Nat) (h : k ≤ l.length) : S (l ++ [n]) k = S l k + n := by
  unfold S; rw [List.drop_append_of_le_length h, sumL_append]; simp [sumL]
theorem S_bd (l : List Int) (k : Nat) (h : ∀ x ∈ l, 1 ≤ x ∧ x ≤ 1500) : 0 ≤ S l k ∧ S l k ≤ 1500 * l.length := by
  have h1 := sumL_bd (l.drop k) (fun x hx => h x (List.mem_of_mem_drop hx))
  have h2 : ((l.drop k).length : Int) ≤ l.length := by simp
  unfold S; omega

structure Inv (rate q : Int) (ats szs : List Int) (now next : Int) : Prop where
  len : ats.length = szs.length
  n0 : 0 ≤ now
  n1 : now ≤ 2000 * szs.length
  x0 : 0 ≤ next
  x1 : next ≤ 1539000 * szs.length
  gap : ∀ k, k < szs.length → 1024 * (S szs k - q) ≤ rate * (next - ats.getD k 0)
  hi : ∀ k, k < szs.length → ats.getD k 0 ≤ mx next now
  lo : ∀ k, k < szs.length → 0 ≤ ats.getD k 0
  sz : ∀ x ∈ szs, 1 ≤ x ∧ x ≤ 1500

theorem cost_facts (n rate : Int) (hn : 1 ≤ n) (hn2 : n ≤ 1500) (hr : 1 ≤ rate) : 1024 * n ≤ rate * Hand.cost n rate ∧ 0 ≤ Hand.cost n rate ∧ Hand.cost n rate ≤ 1536001 := by
  have h1 := Int.mul_ediv_add_emod (n * 1024) rate
  have h2 := Int.emod_lt_of_pos (n * 1024) (by omega : 0 < rate)
  have h3 : 0 ≤ n * 1024 / rate := Int.ediv_nonneg (by omega) (by omega)
  have h4 : n * 1024 / rate ≤ n * 1024 := Int.ediv_le_self _ (by omega)
  have h5 := Int.emod_nonneg (n * 1024) (by omega : rate ≠ 0)
  unfold Hand.cost
  generalize n * 1024 / rate = c at *
  have hc : rate * c = c * rate := Int.mul_comm _ _
  by_cases h : c * rate < n * 1024
  · rw [if_pos h, Int.mul_add, Int.mul_one]; omega
  · rw [if_neg h]; omega

/-- One packet more. -/
theorem Inv.step {rate q : Int} {ats szs : List Int} {now next : Int} (I : Inv rate q ats szs now next) (hr : 1 ≤ rate) (hq : 0 ≤ q) (hlen : szs.length < 60)
    (t n : Int) (ht : now ≤ t) (ht2 : t ≤ now + 2000) (hn : 1 ≤ n) (hn2 : n ≤ 1500) (base d nx : Int) (hbase : base = mx next (t - q * 1024 / rate)) (hd : d = mx base t) (hnx : nx = mn (base + Hand.cost n rate) 1099511627776) :
    t ≤ d ∧ 0 ≤ d ∧ d ≤ 100000000 ∧ (∀ k, k < szs.length → ats.getD k 0 ≤ d ∧ 1024 * (S szs k - q) ≤ rate * (d - ats.getD k 0)) ∧ Inv rate q (ats ++ [d]) (szs ++ [n]) t nx := by
  obtain ⟨c1, c2, c3⟩ := cost_facts n rate hn hn2 hr
  obtain ⟨len, n0, n1, x0, x1, gap, hi, lo, sz⟩ := I
  have hr1 : 0 ≤ q * 1024 / rate := Int.ediv_nonneg (by omega) (by omega)
  have hr2 : q * 1024 / rate * rate ≤ q * 1024 := Int.ediv_mul_le _ (by omega)
  have hb1 : next ≤ base := by subst hbase; unfold mx; split <;> omega
  have hb2 : t - q * 1024 / rate ≤ base := by subst hbase; unfold mx; split <;> omega
  have hb3 : base ≤ mx next t := by subst hbase; unfold mx; split <;> split <;> omega
  have hb4 : mx next t ≤ 1539000 * szs.length + 2000 := by unfold mx; split <;> omega
  have hd1 : base ≤ d := by subst hd; unfold mx; split <;> omega
  have hd2 : t ≤ d := by subst hd; unfold mx; split <;> omega
  have hd3 : d ≤ mx next t := by subst hd; unfold mx at *; split <;> split at hb3 <;> omega
  have hnx' : nx = base + Hand.cost n rate := by subst hnx; unfold mn; rw [if_neg (by omega)]
  clear hnx
  generalize Hand.cost n rate = c at *
  generalize q * 1024 / rate = g at *
  have hmx : mx next now ≤ d := by unfold mx; split <;> omega
  have up : ∀ {x y : Int}, x ≤ y → rate * x ≤ rate * y := fun h => Int.mul_le_mul_of_nonneg_left h (by omega)
  refine ⟨hd2, by omega, by omega, fun k hk => ⟨by have := hi k hk; omega, ?_⟩, ⟨by simp [len], by omega, by simp; omega, by omega, by simp; omega, fun k hk => ?_, fun k hk => ?_, fun k hk => ?_, ?_⟩⟩
  · have h1 := gap k hk
    have h2 := up (show next - ats.getD k 0 ≤ d - ats.getD k 0 by omega)
    omega
  · by_cases hki : k < szs.length
    · rw [getD_append_left _ _ _ _ (by omega), S_snoc _ _ _ (by omega)]
      have h1 := gap k hki
      have h2 := up (show (next - ats.getD k 0) + c ≤ nx - ats.getD k 0 by omega)
      rw [Int.mul_add] at h2
      omega
    · have e : k = szs.length := by simp at hk; omega
      subst e
      rw [← len, getD_append_last, len, S_snoc _ _ _ (Nat.le_refl _), S_end _ _ (Nat.le_refl _)]
      by_cases hbt : base < t
      · have e : d = t := by subst hd; unfold mx; rw [if_pos hbt]
        have h2 := up (show c - g ≤ nx - d by omega)
        rw [Int.mul_sub, Int.mul_comm rate g] at h2
        omega
      · have e : d = base := by subst hd; unfold mx; rw [if_neg hbt]
        have h2 := up (show c ≤ nx - d by omega)
        omega
  · by_cases hki : k < szs.length
    · rw [getD_append_left _ _ _ _ (by omega)]
      have h1 := hi k hki
      have h3 : d ≤ mx nx t := by subst hd; unfold mx; split <;> split <;> omega
      omega
    · have e : k = szs.length := by simp at hk; omega
      subst e
      rw [← len, getD_append_last]
      subst hd; unfold mx; split <;> split <;> omega
  · by_cases hki : k < szs.length
    · rw [getD_append_left _ _ _ _ (by omega)]; exact lo k hki
    · have e : k = szs.length := by simp at hk; omega
      subst e
      rw [← len, getD_append_last]; omega
  · intro x hx
    rcases List.mem_append.1 hx with h | h
    · exact sz x h
    · simp at h; omega

theorem depart_some (a0 a1 a2 a3 a4 : Int) (h : Hand.may a0 a1 a2 a3 a4) : pacer_Depart.f a0 a1 a2 a3 a4 = some (mn (mx a0 (a4 - a3 * 1024 / a2) + Hand.cost a1 a2) 1099511627776, mx (mx a0 (a4 - a3 * 1024 / a2)) a4, 0) := by
  unfold pacer_Depart.f Hand.departF; rw [if_pos h]

section
variable (x0 x1 : List Int) (rate q : Int) (hr : 1 ≤ rate) (hr2 : rate ≤ 100000) (hq : 0 ≤ q) (hq2 : q < 5000)
include hr hr2 hq hq2

theorem l1_ev (ats szs : List Int) (now d n s : Int) (hlen : ats.length = szs.length) (hl : szs.length < 60) (hsz : ∀ x ∈ szs, 1 ≤ x ∧ x ≤ 1500) (hd0 : 0 ≤ d) (hd1 : d ≤ 100000000)
    (hlo : ∀ k, k < szs.length → 0 ≤ ats.getD k 0) (hgap : ∀ k, k < szs.length → ats.getD k 0 ≤ d ∧ 1024 * (S szs k - q) ≤ rate * (d - ats.getD k 0))
    (hnext : Ev (fun k => stopcocklaw14_PacerSpaced.l0 k x0 x1 rate q (ats ++ [d]) (szs ++ [n]) now ((szs.length : Int) + 1) s) true) :
    ∀ K : Nat, K ≤ szs.length + 1 → Ev (fun k => stopcocklaw14_PacerSpaced.l1 k x0 x1 rate q (ats ++ [d]) (szs ++ [n]) now szs.length d (S szs K) ((K : Int) - 1) s) true := by
  intro K
  induction K with
  | zero =>
    intro _
    refine Ev.step (f := fun k => stopcocklaw14_PacerSpaced.l0 k x0 x1 rate q (ats ++ [d]) (szs ++ [n]) now ((szs.length : Int) + 1) s) (fun k => ?_) hnext
    simp only [stopcocklaw14_PacerSpaced.l1]
    rw [if_neg (by omega), wrap_id (by omega) (by omega)]
  | succ K ih =>
    intro hK
    have hbd := S_bd szs K hsz
    have ih' := ih (by omega)
    refine Ev.step (fun k => ?_) ih'
    simp only [stopcocklaw14_PacerSpaced.l1]
    have e : ((K + 1 : Nat) : Int) - 1 = (K : Int) := by omega
    rw [e, if_pos (by omega)]
    have hw : wrap64 ((K : Int) - 1) = (K : Int) - 1 := wrap_id (by omega) (by omega)
    by_cases hKi : K < szs.length
    · obtain ⟨g1, g2⟩ := hgap K hKi
      have g0 := hlo K hKi
      have hS := S_at szs K hKi
      have hrd : rd (szs ++ [n]) (K : Int) = szs.getD K 0 := by unfold rd; rw [Int.toNat_natCast, getD_append_left _ _ _ _ hKi]
      have hra : rd (ats ++ [d]) (K : Int) = ats.getD K 0 := by unfold rd; rw [Int.toNat_natCast, getD_append_left _ _ _ _ (by omega)]
      have hm0 : 0 ≤ rate * (d - ats.getD K 0) := Int.mul_nonneg (by omega) (by omega)
      have hm1 : rate * (d - ats.getD K 0) ≤ 100000 * (d - ats.getD K 0) := Int.mul_le_mul_of_nonneg_right hr2 (by omega)
      rw [if_pos (by omega), if_pos (by omega), if_pos (by simp; omega), if_pos (by simp; omega), hrd, hra, hw]
      rw [wrap_id (x := S szs (K + 1) + szs.getD K 0) (by omega) (by omega), wrap_id (x := d - ats.getD K 0) (by omega) (by omega), wrap_id (x := rate * (d - ats.getD K 0)) (by omega) (by omega)]
      rw [wrap_id (x := rate * (d - ats.getD K 0) + 1023) (by omega) (by omega), tdiv_pos (by omega), wrap_id (x := (rate * (d - ats.getD K 0) + 1023) / 1024) (by omega) (by omega), wrap_id (x := (rate * (d - ats.getD K 0) + 1023) / 1024 + q) (by omega) (by omega)]
      rw [if_neg (by omega)]
      rw [show S szs (K + 1) + szs.getD K 0 = S szs K by omega]
    · have e2 : K = szs.length := by omega
      subst e2
      have hra : rd (ats ++ [d]) ((szs.length : Nat) : Int) = d := by unfold rd; rw [Int.toNat_natCast, ← hlen, getD_append_last]
      have hS0 : S szs szs.length = 0 := S_end _ _ (Nat.le_refl _)
      have hS1 : S szs (szs.length + 1) = 0 := S_end _ _ (by omega)
      rw [if_neg (by omega), if_pos (by omega), if_pos (by simp; omega), hra, hw, hS1, hS0]
      rw [show d - d = 0 by omega]
      rw [wrap_id (x := 0) (by omega) (by omega), Int.mul_zero, wrap_id (x := 0) (by omega) (by omega), wrap_id (x := 0 + 1023) (by omega) (by omega), show (0 + 1023 : Int) = 1023 by rfl, show Int.tdiv 1023 1024 = 0 by rfl, wrap_id (x := 0) (by omega) (by omega), wrap_id (x := 0 + q) (by omega) (by omega)]
      rw [if_neg (by omega)]

theorem l0_ev (_h0 : x0.length ≤ 17592186044416) : ∀ (m : Nat) (ats szs : List Int) (now next : Int), szs.length + m = 60 → szs.length ≤ x0.length → Inv rate q ats szs now next →
    Ev (fun k => stopcocklaw14_PacerSpaced.l0 k x0 x1 rate q ats szs now szs.length next) true := by
  intro m
  induction m with
  | zero =>
    intro ats szs now next hm hx I
    refine Ev.step (f := fun k => stopcocklaw14_PacerSpaced.j1 k x0 x1 rate q ats szs now szs.length false next) (fun k => ?_) (Ev.step (f := fun _ => some true) (fun k => ?_) (Ev.now _))
    · simp only [stopcocklaw14_PacerSpaced.l0]
      have hd : decide ((szs.length : Int) < 60) = false := by simp; omega
      rw [hd, ite_self]
    · simp only [stopcocklaw14_PacerSpaced.j1]; rfl
  | succ m ih =>
    intro ats szs now next hm hx I
    by_cases hlt : szs.length < x0.length
    · have hd : decide ((szs.length : Int) < 60) = true := by simp; omega
      refine Ev.step (f := fun k => stopcocklaw14_PacerSpaced.j1 k x0 x1 rate q ats szs now szs.length true next) (fun k => ?_) ?_
      · simp only [stopcocklaw14_PacerSpaced.l0]
        rw [if_pos (by omega), hd]
      have hnow := I.n0
      have hnow2 := I.n1
      have hj1 : ∃ t, now ≤ t ∧ t ≤ now + 2000 ∧ ∀ k, stopcocklaw14_PacerSpaced.j1 (k + 1) x0 x1 rate q ats szs now szs.length true next = stopcocklaw14_PacerSpaced.j2 k x0 x1 rate q ats szs t szs.length next := by
        by_cases h1 : szs.length < x1.length
        · obtain ⟨r, hr', r0, r1⟩ := gomod (rd x1 szs.length) 2000 (by omega) (by omega)
          refine ⟨now + r, by omega, by omega, fun k => ?_⟩
          simp only [stopcocklaw14_PacerSpaced.j1]
          rw [if_pos trivial, if_pos (by omega), if_pos (by omega), hr', wrap_id (by omega) (by omega)]
        · refine ⟨now, by omega, by omega, fun k => ?_⟩
          simp only [stopcocklaw14_PacerSpaced.j1]
          rw [if_pos trivial, if_neg (by omega)]
      obtain ⟨t, ht, ht2, hj1⟩ := hj1
      refine Ev.step hj1 ?_
      obtain ⟨r, hr', r0, r1⟩ := gomod (rd x0 szs.length) 1500 (by omega) (by omega)
      have hn1 : 1 ≤ 1 + r := by omega
      have hn2 : 1 + r ≤ 1500 := by omega
      have hx0 := I.x0
      have hx1 := I.x1
      have hmay : Hand.may next (1 + r) rate q t := ⟨by omega, by omega, by omega, by omega, by omega, by omega, by omega, by omega, by omega, by omega⟩
      obtain ⟨base, hbase⟩ : ∃ b, b = mx next (t - q * 1024 / rate) := ⟨_, rfl⟩
      obtain ⟨d, hd'⟩ : ∃ b, b = mx base t := ⟨_, rfl⟩
      obtain ⟨nx, hnx⟩ : ∃ b, b = mn (base + Hand.cost (1 + r) rate) 1099511627776 := ⟨_, rfl⟩
      obtain ⟨s1, s2, s3, s4, I'⟩ := I.step hr hq (by omega) t (1 + r) ht ht2 hn1 hn2 base d nx hbase hd' hnx
      have hdep := depart_some next (1 + r) rate q t hmay
      rw [← hbase, ← hd', ← hnx] at hdep
      refine Ev.step (f := fun k => stopcocklaw14_PacerSpaced.j3 k x0 x1 rate q ats szs t szs.length (1 + r) d false nx) (fun k => ?_) ?_
      · simp only [stopcocklaw14_PacerSpaced.j2]
        rw [if_pos (by omega), if_pos (by omega), hr', wrap_id (by omega) (by omega), hdep]
        simp only [Option.bind_some, stopcocklaw14_num.f]
        rw [if_pos trivial, if_neg (by omega)]
        have hl := I.len
        by_cases hz : 0 < szs.length
        · have hlast := (s4 (szs.length - 1) (by omega)).1
          have e : wrap64 ((ats.length : Int) - 1) = ((szs.length - 1 : Nat) : Int) := by rw [wrap_id (by omega) (by omega)]; omega
          rw [if_pos (by omega), if_pos (by rw [e]; omega), if_pos (by rw [e]; omega), e]
          have hrd : rd ats ((szs.length - 1 : Nat) : Int) = ats.getD (szs.length - 1) 0 := by unfold rd; rw [Int.toNat_natCast]
          rw [hrd]
          have hdd : decide (d < ats.getD (szs.length - 1) 0) = false := by simp only [decide_eq_false_iff_not]; omega
          rw [hdd]
        · rw [if_neg (by omega)]
      have hl := I.len
      refine Ev.step (f := fun k => stopcocklaw14_PacerSpaced.l1 k x0 x1 rate q (ats ++ [d]) (szs ++ [1 + r]) t szs.length d (S szs (szs.length + 1)) (((szs.length + 1 : Nat) : Int) - 1) nx) (fun k => ?_) ?_
      · simp only [stopcocklaw14_PacerSpaced.j3]
        rw [if_neg (by simp), if_pos (by omega), if_pos (by omega), S_end _ _ (by omega)]
        rw [show ((szs.length + 1 : Nat) : Int) - 1 = (szs.length : Int) by omega]
      · refine l1_ev x0 x1 rate q hr hr2 hq hq2 ats szs t d (1 + r) nx hl (by omega) I.sz s2 s3 I.lo s4 ?_ (szs.length + 1) (Nat.le_refl _)
        have := ih (ats ++ [d]) (szs ++ [1 + r]) t nx (by simp; omega) (by simp; omega) I'
        rw [show ((szs ++ [1 + r]).length : Int) = (szs.length : Int) + 1 by simp] at this
        exact this
    · refine Ev.step (f := fun k => stopcocklaw14_PacerSpaced.j1 k x0 x1 rate q ats szs now szs.length false next) (fun k => ?_) (Ev.step (f := fun _ => some true) (fun k => ?_) (Ev.now _))
      · simp only [stopcocklaw14_PacerSpaced.l0]
        rw [if_neg (by omega)]
      · simp only [stopcocklaw14_PacerSpaced.j1]; rfl
end

theorem PacerSpaced : stopcocklaw14_PacerSpaced.Pure := by
  intro l0 l1 a2 a3 _ hl0 _ _ _ _ _ _
  obtain ⟨r, hr, r0, r1⟩ := gomod a2 100000 (by omega) (by omega)
  obtain ⟨q, hq, q0, q1⟩ := gomod a3 5000 (by omega) (by omega)
  have h := l0_ev l0 l1 (1 + r) q (by omega) (by omega) q0 q1 (by omega) 60 [] [] 0 0 rfl (by simp) ⟨rfl, by omega, by simp, by omega, by simp, by simp, by simp, by simp, by simp⟩
  obtain ⟨k, hk⟩ := h.rounds
  refine ⟨k, ?_⟩
  unfold stopcocklaw14_PacerSpaced.f
  rw [alive_true]
  simp only [Option.bind_some]
  rw [if_pos trivial, hr, hq, wrap_id (by omega) (by omega)]
  exact hk

end Go.Proofs.Ytlepbdbghiedjaa.Pure
