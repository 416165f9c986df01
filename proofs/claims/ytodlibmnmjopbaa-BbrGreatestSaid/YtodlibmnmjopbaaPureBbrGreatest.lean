/- The first of bbr's filter is the greatest rate of the last ten rounds: for all rounds and rates. -/
import Derived.Test.YtodlibmnmjopbaaPlainF
namespace Go.Proofs.Ytodlibmnmjopbaa.Pure
open Go.RowKit Go.Proofs.Ytodlibmnmjopbaa.PA Go.Proofs.YtodlibmnmjopbaaW.PrintWords Go.Proofs.YtodlibmnmjopbaaW.PrintLast Go.Proofs.YtodlibmnmjopbaaW.PrintMore Go.Proofs.Ytodlibmnmjopbaa.Util Go.Proofs.Ytodlibmnmjopbaa.Hand
set_option linter.unusedVariables false
set_option linter.unusedSimpArgs false

def Desc (L : List S36) : Prop := L.Pairwise fun x y => x.f0 < y.f0 ∧ y.f1 < x.f1
theorem desc_valid {L : List S36} (h : Desc L) (hl : L.length ≤ 10) (hb : ∀ q ∈ L, (0 ≤ q.f0 ∧ q.f0 ≤ 1099511627776) ∧ (0 ≤ q.f1 ∧ q.f1 ≤ 1073741824)) : Valid L := by
  refine ⟨hl, fun i hi => ?_, fun i hi => ?_⟩
  · unfold A0 A1; rw [rd_get36 L i hi]; exact hb _ (List.getElem_mem hi)
  · unfold A0 A1; rw [rd_get36 L i (by omega), rd_get36 L (i + 1) hi]
    exact List.pairwise_iff_getElem.1 h i (i + 1) (by omega) hi (by omega)
theorem valid_desc {L : List S36} (h : Valid L) : Desc L := List.pairwise_iff_getElem.2 fun i j hi hj hij => by
  have := h.lt hij hj
  unfold A0 A1 at this
  rwa [rd_get36 L i hi, rd_get36 L j hj] at this
theorem desc_len : ∀ (L : List S36) (lo hi : Int), Desc L → (∀ q ∈ L, lo ≤ q.f0 ∧ q.f0 ≤ hi) → lo ≤ hi + 1 → (L.length : Int) ≤ hi - lo + 1
  | [], lo, hi, _, _, h => by simp; omega
  | x :: xs, lo, hi, hd, hb, h => by
    have hd' := List.pairwise_cons.1 hd
    have hx := hb x (by simp)
    have := desc_len xs (lo + 1) hi hd'.2 (fun q hq => by have h1 := hd'.1 q hq; have h2 := hb q (by simp [hq]); omega) (by omega)
    simp only [List.length_cons]; omega
theorem last_mem {L : List S36} (h : 0 < L.length) : rd_T36 L ((L.length : Int) - 1) ∈ L := by
  have e : ((L.length - 1 : Nat) : Int) = (L.length : Int) - 1 := by omega
  rw [← e, rd_get36 L (L.length - 1) (by omega)]
  exact List.getElem_mem _
theorem le_last {L : List S36} (h : Valid L) (q : S36) (hq : q ∈ L) : q.f0 ≤ lastV L ∧ (q.f0 = lastV L → q = rd_T36 L ((L.length : Int) - 1)) := by
  obtain ⟨i, hi, rfl⟩ := List.getElem_of_mem hq
  have e : ((L.length - 1 : Nat) : Int) = (L.length : Int) - 1 := by omega
  unfold lastV
  rw [if_neg (by omega)]
  rcases (by omega : i = L.length - 1 ∨ i < L.length - 1) with h1 | h1
  · have e2 : rd_T36 L ((L.length : Int) - 1) = L[i] := by rw [← e, ← h1, rd_get36 L i hi]
    unfold A0
    rw [e2]
    exact ⟨Int.le_refl _, fun _ => rfl⟩
  · have := (h.lt h1 (by omega)).1
    rw [e] at this
    unfold A0 at this ⊢
    rw [rd_get36 L i hi] at this
    exact ⟨by omega, fun h => by omega⟩
theorem bump_facts {L : List S36} (h : Valid L) (a b : Int) (hl : ¬ a < lastV L) : b ≤ bump L a b ∧ (∀ q ∈ L, q.f0 = a → q.f1 ≤ bump L a b) ∧ (bump L a b = b ∨ ∃ q ∈ L, q.f0 = a ∧ q.f1 = bump L a b) := by
  unfold bump
  by_cases h1 : 0 < L.length ∧ (rd_T36 L ((L.length : Int) - 1)).f0 = a
  · rw [if_pos h1]
    have hm := last_mem h1.1
    refine ⟨by unfold mx; split <;> omega, fun q hq ha => ?_, ?_⟩
    · have hq2 := le_last h q hq
      have hlv : lastV L = a := by unfold lastV; rw [if_neg (by omega)]; exact h1.2
      rw [hq2.2 (by rw [hlv]; exact ha)]
      unfold mx; split <;> omega
    · unfold mx
      split
      · exact .inr ⟨_, hm, h1.2, rfl⟩
      · exact .inl rfl
  · rw [if_neg h1]
    refine ⟨Int.le_refl _, fun q hq ha => ?_, .inl rfl⟩
    have hq2 := le_last h q hq
    have hn : 0 < L.length := List.length_pos_of_mem hq
    have hlv : lastV L = (rd_T36 L ((L.length : Int) - 1)).f0 := by unfold lastV; rw [if_neg (by omega)]
    exact absurd ⟨hn, by rw [← hlv]; omega⟩ h1
/-- What has come, and what is kept. -/
structure Inv (H : List (Int × Int)) (L : List S36) (now : Int) (i : Nat) : Prop where
  len : H.length = i
  valid : Valid L
  last : lastV L ≤ now
  now0 : 0 ≤ now
  now1 : now ≤ 3 * i
  old : ∀ h ∈ H, 0 ≤ h.1 ∧ h.1 ≤ now ∧ 0 ≤ h.2
  w1 : ∀ h ∈ H, now - h.1 < 10 → ∃ q ∈ L, h.1 ≤ q.f0 ∧ h.2 ≤ q.f1
  w2 : ∀ q ∈ L, (q.f0, q.f1) ∈ H
  w3 : ∀ q ∈ L, now - q.f0 < 10
theorem Inv.step {H : List (Int × Int)} {L : List S36} {now : Int} {i : Nat} (h : Inv H L now i) (hi : i ≤ 1000) (dl r : Int) (d0 : 0 ≤ dl) (d1 : dl ≤ 3) (r0 : 0 ≤ r) (r1 : r ≤ 999) :
    filtV L (now + dl) r = (putV L (now + dl) r, 0) ∧ Inv (H ++ [(now + dl, r)]) (putV L (now + dl) r) (now + dl) (i + 1) := by
  have hnow0 := h.now0
  have hnow1 := h.now1
  have hlast := h.last
  have hnl : ¬ now + dl < lastV L := by omega
  obtain ⟨b1, b2, b3⟩ := bump_facts h.valid (now + dl) r hnl
  have hbd : ∀ q ∈ L, (0 ≤ q.f0 ∧ q.f0 ≤ now) ∧ (0 ≤ q.f1 ∧ q.f1 ≤ 1073741824) := fun q hq => by
    obtain ⟨j, hj, rfl⟩ := List.getElem_of_mem hq
    have hv := h.valid.bd j hj
    unfold A0 A1 at hv
    rw [rd_get36 L j hj] at hv
    have := (le_last h.valid _ hq).1
    exact ⟨⟨hv.1.1, by omega⟩, hv.2⟩
  have hB : bump L (now + dl) r ≤ 1073741824 := by
    rcases b3 with e | ⟨q, hq, _, e⟩
    · omega
    · have := hbd q hq; omega
  have hk : ∀ q ∈ L, (keep (now + dl) (bump L (now + dl) r) q = true ↔ bump L (now + dl) r < q.f1 ∧ now + dl - q.f0 < 10) := fun q hq => by
    have := hbd q hq
    unfold keep del
    rw [wrap_id (by omega) (by omega)]
    simp only [Bool.not_eq_true', Bool.or_eq_false_iff, decide_eq_false_iff_not]
    omega
  have hf : filtV L (now + dl) r = (putV L (now + dl) r, 0) := by
    unfold filtV
    rw [if_pos (may_of h.valid), if_pos (by omega), if_pos (by omega), if_neg hnl]
  refine ⟨hf, ?_⟩
  unfold putV
  obtain ⟨B, hBe⟩ : ∃ B, bump L (now + dl) r = B := ⟨_, rfl⟩
  rw [hBe] at b1 b2 b3 hB hk ⊢
  have hmem : ∀ q, q ∈ L.filter (keep (now + dl) B) ↔ q ∈ L ∧ B < q.f1 ∧ now + dl - q.f0 < 10 := fun q => by
    rw [List.mem_filter]
    constructor
    · intro e; exact ⟨e.1, (hk q e.1).1 e.2⟩
    · intro e; exact ⟨e.1, (hk q e.1).2 e.2⟩
  have hdesc : Desc (L.filter (keep (now + dl) B) ++ [⟨now + dl, B⟩]) := by
    refine List.pairwise_append.2 ⟨List.Pairwise.filter _ (valid_desc h.valid), List.pairwise_singleton _ _, fun x hx y hy => ?_⟩
    obtain rfl := List.mem_singleton.1 hy
    obtain ⟨hxL, hx1, hx2⟩ := (hmem x).1 hx
    have hx3 := hbd x hxL
    refine ⟨?_, hx1⟩
    show x.f0 < now + dl
    rcases (by omega : x.f0 < now + dl ∨ x.f0 = now + dl) with e | e
    · exact e
    · have := b2 x hxL e; omega
  have hall : ∀ q ∈ L.filter (keep (now + dl) B) ++ [⟨now + dl, B⟩], (0 ≤ q.f0 ∧ now + dl - 9 ≤ q.f0 ∧ q.f0 ≤ now + dl) ∧ (0 ≤ q.f1 ∧ q.f1 ≤ 1073741824) := fun q hq => by
    rcases List.mem_append.1 hq with hq | hq
    · obtain ⟨hqL, q1, q2⟩ := (hmem q).1 hq
      have := hbd q hqL
      omega
    · obtain rfl := List.mem_singleton.1 hq
      show (0 ≤ now + dl ∧ now + dl - 9 ≤ now + dl ∧ now + dl ≤ now + dl) ∧ (0 ≤ B ∧ B ≤ 1073741824)
      omega
  have hlen := desc_len _ (now + dl - 9) (now + dl) hdesc (fun q hq => ⟨(hall q hq).1.2.1, (hall q hq).1.2.2⟩) (by omega)
  have hval := desc_valid hdesc (by omega) (fun q hq => ⟨⟨(hall q hq).1.1, by have := (hall q hq).1.2.2; omega⟩, (hall q hq).2⟩)
  refine ⟨by simp [h.len], hval, ?_, by omega, by omega, fun g hg => ?_, fun g hg hw => ?_, fun q hq => ?_, fun q hq => by have := (hall q hq).1; omega⟩
  · have hne : 0 < (L.filter (keep (now + dl) B) ++ [(⟨now + dl, B⟩ : S36)]).length := by simp
    have := (hall _ (last_mem hne)).1.2.2
    unfold lastV
    rw [if_neg (by omega)]
    exact this
  · rcases List.mem_append.1 hg with hg | hg
    · have := h.old g hg; omega
    · obtain rfl := List.mem_singleton.1 hg
      show 0 ≤ now + dl ∧ now + dl ≤ now + dl ∧ 0 ≤ r
      omega
  · rcases List.mem_append.1 hg with hg | hg
    · obtain ⟨q, hq, q1, q2⟩ := h.w1 g hg (by omega)
      by_cases hB2 : B < q.f1
      · exact ⟨q, List.mem_append.2 (.inl ((hmem q).2 ⟨hq, hB2, by omega⟩)), q1, q2⟩
      · refine ⟨⟨now + dl, B⟩, List.mem_append.2 (.inr (List.mem_singleton.2 rfl)), ?_, ?_⟩
        · show g.1 ≤ now + dl
          have := h.old g hg; omega
        · show g.2 ≤ B
          omega
    · obtain rfl := List.mem_singleton.1 hg
      exact ⟨⟨now + dl, B⟩, List.mem_append.2 (.inr (List.mem_singleton.2 rfl)), Int.le_refl _, b1⟩
  · rcases List.mem_append.1 hq with hq | hq
    · exact List.mem_append.2 (.inl (h.w2 q ((hmem q).1 hq).1))
    · obtain rfl := List.mem_singleton.1 hq
      rcases b3 with e | ⟨p, hp, p1, p2⟩
      · rw [e]; exact List.mem_append.2 (.inr (List.mem_singleton.2 rfl))
      · have := h.w2 p hp
        rw [p1, p2] at this
        exact List.mem_append.2 (.inl this)
/-- The greatest rate of the last ten rounds. -/
def bestF (now : Int) (m : Int) (h : Int × Int) : Int := if wrap64 (now - h.1) < 10 then mx m h.2 else m
theorem best_facts (now : Int) : ∀ (H : List (Int × Int)) (m : Int), m ≤ H.foldl (bestF now) m ∧ (∀ h ∈ H, wrap64 (now - h.1) < 10 → h.2 ≤ H.foldl (bestF now) m) ∧ (H.foldl (bestF now) m = m ∨ ∃ h ∈ H, wrap64 (now - h.1) < 10 ∧ h.2 = H.foldl (bestF now) m)
  | [], m => ⟨Int.le_refl _, fun h hh => by simp at hh, .inl rfl⟩
  | x :: H, m => by
    obtain ⟨a1, a2, a3⟩ := best_facts now H (bestF now m x)
    have hx : m ≤ bestF now m x ∧ (wrap64 (now - x.1) < 10 → x.2 ≤ bestF now m x) ∧ (bestF now m x = m ∨ (wrap64 (now - x.1) < 10 ∧ x.2 = bestF now m x)) := by
      unfold bestF mx
      split
      · rename_i hw
        split
        · exact ⟨by omega, fun _ => Int.le_refl _, .inr ⟨hw, rfl⟩⟩
        · exact ⟨Int.le_refl _, fun _ => by omega, .inl rfl⟩
      · rename_i hw
        exact ⟨Int.le_refl _, fun e => absurd e hw, .inl rfl⟩
    rw [List.foldl_cons]
    refine ⟨by omega, fun h hh hw => ?_, ?_⟩
    · rcases List.mem_cons.1 hh with rfl | hh
      · have := hx.2.1 hw; omega
      · exact a2 h hh hw
    · rcases a3 with e | ⟨h, hh, hw, e⟩
      · rcases hx.2.2 with e2 | ⟨hw, e2⟩
        · exact .inl (e.trans e2)
        · exact .inr ⟨x, by simp, hw, e2.trans e.symm⟩
      · exact .inr ⟨h, by simp [hh], hw, e⟩
theorem Inv.best {H : List (Int × Int)} {L : List S36} {now : Int} {i : Nat} (h : Inv H L now i) (hi : i ≤ 1000) (hn : 0 < L.length) : A1 L 0 = H.foldl (bestF now) 0 := by
  obtain ⟨a1, a2, a3⟩ := best_facts now H 0
  have hnow1 := h.now1
  have hw : ∀ g ∈ H, wrap64 (now - g.1) = now - g.1 := fun g hg => by have := h.old g hg; exact wrap_id (by omega) (by omega)
  have e0 : rd_T36 L 0 = L[0] := rd_get36 L 0 hn
  have hm : L[0] ∈ L := List.getElem_mem hn
  have h2 := h.w2 _ hm
  have h3 := h.w3 _ hm
  have h4 := a2 _ h2 (by rw [hw _ h2]; exact h3)
  have hb := (h.valid.bd 0 hn).2.1
  unfold A1 at hb ⊢
  have hb' : 0 ≤ L[0].f1 := by rw [show ((0 : Nat) : Int) = 0 from rfl, e0] at hb; exact hb
  rw [e0]
  rcases a3 with e | ⟨g, hg, hgw, e⟩
  · rw [e] at h4 ⊢
    have h5 : L[0].f1 ≤ 0 := h4
    omega
  · obtain ⟨q, hq, q1, q2⟩ := h.w1 g hg (by rw [hw g hg] at hgw; exact hgw)
    obtain ⟨j, hj, rfl⟩ := List.getElem_of_mem hq
    have hle : L[j].f1 ≤ L[0].f1 := by
      rcases Nat.eq_zero_or_pos j with h0 | h0
      · subst h0; exact Int.le_refl _
      · have := (List.pairwise_iff_getElem.1 (valid_desc h.valid) 0 j hn hj h0).2; omega
    have h5 : L[0].f1 ≤ H.foldl (bestF now) 0 := h4
    omega
theorem rd_fst (H : List (Int × Int)) (j : Nat) (h : j < H.length) : rd (H.map Prod.fst) (j : Int) = H[j].1 := by simp [rd, List.getD, h]
theorem rd_snd (H : List (Int × Int)) (j : Nat) (h : j < H.length) : rd (H.map Prod.snd) (j : Int) = H[j].2 := by simp [rd, List.getD, h]
theorem inner_ev (x0 x1 : List Int) (L : List S36) (H : List (Int × Int)) (now : Int) (i : Nat) (hn : 0 < L.length) (hH : H.length ≤ 1000) (hi : i ≤ 1000) (hc : Ev (fun k => stopcocklaw23_BbrGreatest.l0 k x0 x1 L (H.map Prod.fst) (H.map Prod.snd) now ((i + 1 : Nat) : Int)) true) :
    ∀ (d j : Nat) (m : Int), j + d = H.length → (H.drop j).foldl (bestF now) m = A1 L 0 → Ev (fun k => stopcocklaw23_BbrGreatest.l1 k x0 x1 L (H.map Prod.fst) (H.map Prod.snd) now (i : Int) m (j : Int)) true := by
  intro d
  induction d with
  | zero =>
    intro j m hj hf
    rw [List.drop_eq_nil_of_le (by omega), List.foldl_nil] at hf
    refine evStep 0 (fun k _ => ?_) hc
    simp only [stopcocklaw23_BbrGreatest.l1]
    rw [if_neg (by simp; omega), if_pos (by omega), if_pos hf.symm, wrap_id (by omega) (by omega)]
    rfl
  | succ d ih =>
    intro j m hj hf
    have hjl : j < H.length := by omega
    rw [List.drop_eq_getElem_cons hjl, List.foldl_cons] at hf
    refine evStep 0 (fun k _ => ?_) (ih (j + 1) (bestF now m H[j]) (by omega) hf)
    simp only [stopcocklaw23_BbrGreatest.l1]
    rw [if_pos (by simp; omega), if_pos (by omega), rd_fst H j hjl, rd_snd H j hjl, wrap_id (x := (j : Int) + 1) (by omega) (by omega)]
    unfold bestF
    by_cases h : wrap64 (now - H[j].1) < 10
    · rw [if_pos h, if_pos (by simp; omega), if_pos h]; rfl
    · rw [if_neg h, if_neg h]; rfl
theorem outer_ev (x0 x1 : List Int) : ∀ (d i : Nat) (H : List (Int × Int)) (L : List S36) (now : Int), i + d = 200 → Inv H L now i → Ev (fun k => stopcocklaw23_BbrGreatest.l0 k x0 x1 L (H.map Prod.fst) (H.map Prod.snd) now (i : Int)) true := by
  have stop : ∀ (i : Nat) (H : List (Int × Int)) (L : List S36) (now : Int), (¬ (i < x0.length) ∨ ¬ (i < x1.length) ∨ ¬ i < 200) → Ev (fun k => stopcocklaw23_BbrGreatest.l0 k x0 x1 L (H.map Prod.fst) (H.map Prod.snd) now (i : Int)) true := by
    intro i H L now h
    refine evEnd 2 (fun k hk => ?_)
    obtain ⟨m, rfl⟩ : ∃ m, k = m + 1 + 1 := ⟨k - 2, by omega⟩
    have hj : stopcocklaw23_BbrGreatest.j1 (m + 1) x0 x1 L (H.map Prod.fst) (H.map Prod.snd) now (i : Int) false = some true := by
      simp only [stopcocklaw23_BbrGreatest.j1]; rw [if_neg (by decide)]
    simp only [stopcocklaw23_BbrGreatest.l0]
    by_cases h0 : (i : Int) < (x0.length : Int)
    · rw [if_pos h0]
      by_cases h1 : (i : Int) < (x1.length : Int)
      · rw [if_pos h1, decide_eq_false (by omega), hj]
      · rw [if_neg h1, hj]
    · rw [if_neg h0, hj]
  intro d
  induction d with
  | zero => intro i H L now hi _; exact stop i H L now (by omega)
  | succ d ih =>
    intro i H L now hi hinv
    by_cases hgo : i < x0.length ∧ i < x1.length
    · obtain ⟨dl, hdl, d0, d1⟩ := gomod (rd x0 (i : Int)) 4 (by decide) (by decide)
      obtain ⟨r, hr, r0, r1⟩ := gomod (rd x1 (i : Int)) 1000 (by decide) (by decide)
      obtain ⟨hf, hinv2⟩ := hinv.step (by omega) dl r d0 (by omega) r0 (by omega)
      have hn : 0 < (putV L (now + dl) r).length := by unfold putV; simp
      have hb := hinv2.best (by omega) hn
      have hin := inner_ev x0 x1 (putV L (now + dl) r) (H ++ [(now + dl, r)]) (now + dl) i hn (by rw [hinv2.len]; omega) (by omega) (ih (i + 1) _ _ _ (by omega) hinv2) (H ++ [(now + dl, r)]).length 0 0 (by omega) (by rw [List.drop_zero]; exact hb.symm)
      obtain ⟨K1, e1⟩ := filt_ev L (now + dl) r (by have := hinv.valid.len; omega)
      obtain ⟨K2, e2⟩ := hin
      have hw : wrap64 (now + dl) = now + dl := by have := hinv.now0; have := hinv.now1; exact wrap_id (by omega) (by omega)
      refine evEnd (K1 + K2 + 2) (fun k hk => ?_)
      obtain ⟨m, rfl⟩ : ∃ m, k = m + 1 + 1 := ⟨k - 2, by omega⟩
      simp only [stopcocklaw23_BbrGreatest.l0]
      rw [if_pos (by omega), if_pos (by omega), decide_eq_true (by omega)]
      simp only [stopcocklaw23_BbrGreatest.j1]
      rw [if_pos trivial, if_pos (by omega), if_pos (by omega), if_pos (by omega), hdl, hr, hw, show bbr_Filter.f m L (now + dl) r = _ from e1 m (by omega), Option.bind_some, hf]
      simp only [stopcocklaw23_num.f, Option.bind_some, if_true_eq]
      have hl10 := hinv2.valid.len
      rw [if_neg (by omega), if_neg (by omega), if_pos (by simp [hinv.len]; omega), if_pos (by simp [hinv.len]; omega)]
      have := e2 m (by omega)
      rw [List.map_append, List.map_append] at this
      exact this
    · exact stop i H L now (by omega)
theorem inv0 : Inv [] [] 0 0 := by
  refine ⟨rfl, ⟨by decide, fun i hi => absurd hi (by simp), fun i hi => absurd hi (by simp)⟩, by decide, by decide, by decide, fun h hh => by simp at hh, fun h hh => by simp at hh, fun q hq => by simp at hq, fun q hq => by simp at hq⟩
theorem BbrGreatest : stopcocklaw23_BbrGreatest.Pure := by
  intro x0 x1 _ _ _ _ _ _
  obtain ⟨K1, e1⟩ := alive_ev
  obtain ⟨K2, e2⟩ := outer_ev x0 x1 200 0 [] [] 0 rfl inv0
  refine ⟨K1 + K2, ?_⟩
  unfold stopcocklaw23_BbrGreatest.f
  rw [show stopcocklaw23_alive.f (K1 + K2) = _ from e1 _ (by omega), Option.bind_some, if_pos rfl]
  exact e2 (K1 + K2) (by omega)
end Go.Proofs.Ytodlibmnmjopbaa.Pure
