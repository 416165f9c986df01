/- The reading of decimal digits: both programs take the digits of a number, and nothing else. -/
import Derived.Test.YtpadboidkpembaaPlain
namespace Go.Proofs.Ytpadboidkpembaa.Pure
open Go.RowKit Go.Proofs.Ytpadboidkpembaa.PA Go.Proofs.YtpadboidkpembaaW.PrintWords Go.Proofs.YtpadboidkpembaaW.PrintLast Go.Proofs.YtpadboidkpembaaW.PrintMore Go.Proofs.Ytpadboidkpembaa.Util Go.Proofs.Ytpadboidkpembaa.Hand
set_option linter.unusedVariables false
set_option linter.unusedSimpArgs false

theorem inI_wrap (x : Int) : inI (wrap64 x) := by unfold inI wrap64; omega
def chk (s : ByteArray) (v : Int) : Int × Int := if (strOfNums (digs v)).toList = s.toList then (v, 0) else (0, 11)
/-! ### the program's -/
def stepP (n c : Int) : Int := if c = 45 then n else wrap64 (wrap64 (10 * n) - (c - 48) % 256)
theorem stepP_in (n c : Int) (h : inI n) : inI (stepP n c) := by unfold stepP; split; exact h; exact inI_wrap _
def pv (s : ByteArray) (n : Int) : Int × Int := chk s (if bt s 0 = 45 then n else wrap64 (-n))
theorem j1_ev (s : ByteArray) (n : Int) (h : inI n) : Ev (fun k => octets_ParseInt.j1 k s n (bt s 0 != 45)) (pv s n) := by
  refine evEnd 1 (fun k hk => ?_)
  obtain ⟨j, rfl⟩ : ∃ j, k = j + 1 := ⟨k - 1, by omega⟩
  simp only [octets_ParseInt.j1]
  unfold pv chk
  by_cases c : bt s 0 = 45
  · rw [if_neg (by simp [c]), if_pos c, decimal_eq n h, Option.bind_some]
    split <;> rfl
  · rw [if_pos (by simp [c]), if_neg c, decimal_eq _ (inI_wrap _), Option.bind_some]
    split <;> rfl
theorem empty_of (s : ByteArray) : s.toList = ([] : List UInt8) ↔ s.size = 0 := by
  rw [ByteArray.toList_eq]
  constructor
  · intro h
    show s.data.size = 0
    rw [← Array.length_toList, h]
    rfl
  · intro h
    exact List.eq_nil_of_length_eq_zero (by rw [Array.length_toList]; exact h)
theorem bt_none (s : ByteArray) (h : s.size = 0) : bt s 0 = 0 := by unfold bt; exact dif_neg (by rw [h]; simp)
theorem drop_cons (s : ByteArray) (i : Nat) (h : i < s.size) : (bytesOf s).drop i = bt s (i : Int) :: (bytesOf s).drop (i + 1) := by
  rw [bt_get s i h]
  exact List.drop_eq_getElem_cons (by rw [bytesOf_length]; exact h)
theorem l0_ev (s : ByteArray) (hs : s.size ≤ 1000) : ∀ (d i : Nat) (n : Int), i + d = s.size → inI n →
    Ev (fun k => octets_ParseInt.l0 k s n (s.size : Int) (i : Int)) (pv s (((bytesOf s).drop i).foldl stepP n)) := by
  intro d
  induction d with
  | zero =>
    intro i n h hn
    rw [List.drop_eq_nil_of_le (by rw [bytesOf_length]; omega), List.foldl_nil]
    refine evStep 0 (fun k _ => ?_) (j1_ev s n hn)
    simp only [octets_ParseInt.l0]
    rw [if_neg (by omega)]
    by_cases he : s.toList = ([] : List UInt8)
    · rw [if_pos he]
      have := bt_none s ((empty_of s).1 he)
      rw [this]
      rfl
    · rw [if_neg he, if_pos (by have := mt (empty_of s).2 he; omega)]
  | succ d ih =>
    intro i n h hn
    rw [drop_cons s i (by omega), List.foldl_cons]
    refine evStep 0 (fun k _ => ?_) (ih (i + 1) (stepP n (bt s (i : Int))) (by omega) (stepP_in _ _ hn))
    simp only [octets_ParseInt.l0]
    rw [if_pos (by omega), if_pos (by omega), if_pos (by omega), wrap_id (x := (i : Int) + 1) (by omega) (by omega)]
    have ei : ((i + 1 : Nat) : Int) = (i : Int) + 1 := by simp
    rw [ei]
    unfold stepP
    by_cases c : bt s (i : Int) = 45
    · rw [if_pos c, if_pos c]
    · rw [if_neg c, if_neg c]
def parseV (s : ByteArray) : Int × Int := if (s.size : Int) > 20 then (0, 11) else pv s ((bytesOf s).foldl stepP 0)
theorem parse_ev (s : ByteArray) : Ev (fun k => octets_ParseInt.f k s) (parseV s) := by
  unfold octets_ParseInt.f parseV
  by_cases c : (s.size : Int) > 20
  · simp only [if_pos c]
    exact Ev.now _
  · simp only [if_neg c]
    exact l0_ev s (by omega) s.size 0 0 (by omega) (by unfold inI; omega)

/-! ### the page's -/
def re (s : ByteArray) (f m : Int) : Int × Int := if f = 1 then (if 0 < m ∧ m ≤ 9223372036854775808 then chk s (-m) else (0, 11)) else if 9223372036854775808 ≤ m then (0, 11) else chk s m
theorem j5_ev (s : ByteArray) (v : Int) (h : inI v) : Ev (fun k => stopcockref01_ParseInt.j5 k s v false) (chk s v) := by
  obtain ⟨K, e⟩ := rdec_ev v h
  refine evEnd (K + 1) (fun k hk => ?_)
  obtain ⟨j, rfl⟩ : ∃ j, k = j + 1 := ⟨k - 1, by omega⟩
  simp only [stopcockref01_ParseInt.j5]
  rw [if_neg (by simp), show stopcockref01_Decimal.f j v = _ from e j (by omega), Option.bind_some]
  unfold chk
  split <;> rfl
theorem j5_bad (s : ByteArray) (v : Int) : Ev (fun k => stopcockref01_ParseInt.j5 k s v true) (0, 11) := by
  refine evEnd 1 (fun k hk => ?_)
  obtain ⟨j, rfl⟩ : ∃ j, k = j + 1 := ⟨k - 1, by omega⟩
  simp only [stopcockref01_ParseInt.j5]
  rw [if_pos trivial]
theorem j4_neg (s : ByteArray) (f m n : Int) (h0 : 0 < m) (h1 : m ≤ 9223372036854775808) : Ev (fun k => stopcockref01_ParseInt.j4 k s f m n true) (chk s (-m)) := by
  have e1 : wrap64 (wrap64 (-(wrap64 (IntKind.u64.wrap (m - 1)))) - 1) = -m := by
    rw [wrap_u64, wrap_id (x := (m - 1) % 18446744073709551616) (by omega) (by omega), wrap_id (x := -((m - 1) % 18446744073709551616)) (by omega) (by omega), wrap_id (by omega) (by omega)]
    omega
  obtain ⟨K, e⟩ := rdec_ev (-m) (by unfold inI; omega)
  refine evEnd (K + 1) (fun k hk => ?_)
  obtain ⟨j, rfl⟩ : ∃ j, k = j + 1 := ⟨k - 1, by omega⟩
  simp only [stopcockref01_ParseInt.j4]
  rw [if_pos trivial, e1, show stopcockref01_Decimal.f j (-m) = _ from e j (by omega), Option.bind_some]
  unfold chk
  split <;> rfl
theorem re_ev (s : ByteArray) (f m i : Int) (h0 : 0 ≤ m) (h1 : m ≤ 18446744073709551615) (hi : ¬ i < (s.size : Int)) : Ev (fun k => stopcockref01_ParseInt.l0 k s f m i) (re s f m) := by
  unfold re
  by_cases hf : f = 1
  · rw [if_pos hf]
    by_cases hm : 0 < m ∧ m ≤ 9223372036854775808
    · rw [if_pos hm]
      refine evStep 0 (fun k _ => ?_) (j4_neg s f m (wrap64 m) hm.1 hm.2)
      simp only [stopcockref01_ParseInt.l0]
      rw [if_neg hi, if_pos hf, if_pos hm.1, decide_eq_true hm.2]
    · rw [if_neg hm]
      have h5 : Ev (fun k => stopcockref01_ParseInt.j4 k s f m (wrap64 m) false) (0, 11) := by
        refine evStep 0 (fun k _ => ?_) (j5_bad s (wrap64 m))
        simp only [stopcockref01_ParseInt.j4]
        rw [if_neg (by simp), if_pos hf]
      refine evStep 0 (fun k _ => ?_) h5
      simp only [stopcockref01_ParseInt.l0]
      rw [if_neg hi, if_pos hf]
      by_cases hp : 0 < m
      · rw [if_pos hp, decide_eq_false (by omega)]
      · rw [if_neg hp]
  · rw [if_neg hf]
    by_cases hm : 9223372036854775808 ≤ m
    · rw [if_pos hm]
      have h5 : Ev (fun k => stopcockref01_ParseInt.j4 k s f m (wrap64 m) false) (0, 11) := by
        refine evStep 0 (fun k _ => ?_) (j5_bad s (wrap64 m))
        simp only [stopcockref01_ParseInt.j4]
        rw [if_neg (by simp), if_neg hf, decide_eq_true (show m ≥ 9223372036854775808 from hm)]
      refine evStep 0 (fun k _ => ?_) h5
      simp only [stopcockref01_ParseInt.l0]
      rw [if_neg hi, if_neg hf]
    · rw [if_neg hm]
      have h5 : Ev (fun k => stopcockref01_ParseInt.j4 k s f m (wrap64 m) false) (chk s m) := by
        rw [wrap_id (x := m) (by omega) (by omega)]
        refine evStep 0 (fun k _ => ?_) (j5_ev s m (by unfold inI; omega))
        simp only [stopcockref01_ParseInt.j4]
        rw [if_neg (by simp), if_neg hf, decide_eq_false (show ¬ m ≥ 9223372036854775808 from hm)]
      refine evStep 0 (fun k _ => ?_) h5
      simp only [stopcockref01_ParseInt.l0]
      rw [if_neg hi, if_neg hf]
def rl (s : ByteArray) (f : Int) : Int → List Int → Int × Int
  | m, [] => re s f m
  | m, c :: r => if c < 48 ∨ 57 < c then (0, 11) else rl s f ((m * 10 + (c - 48)) % 18446744073709551616) r
theorem rl_ev (s : ByteArray) (hs : s.size ≤ 140737488351232) (f : Int) : ∀ (d i : Nat) (m : Int), i + d = s.size → 0 ≤ m → m ≤ 18446744073709551615 →
    Ev (fun k => stopcockref01_ParseInt.l0 k s f m (i : Int)) (rl s f m ((bytesOf s).drop i)) := by
  intro d
  induction d with
  | zero =>
    intro i m h h0 h1
    rw [List.drop_eq_nil_of_le (by rw [bytesOf_length]; omega), rl]
    exact re_ev s f m i h0 h1 (by omega)
  | succ d ih =>
    intro i m h h0 h1
    rw [drop_cons s i (by omega), rl]
    by_cases c : bt s (i : Int) < 48 ∨ 57 < bt s (i : Int)
    · rw [if_pos c]
      refine evEnd 1 (fun k hk => ?_)
      obtain ⟨j, rfl⟩ : ∃ j, k = j + 1 := ⟨k - 1, by omega⟩
      simp only [stopcockref01_ParseInt.l0]
      rw [if_pos (by omega), if_pos (by omega)]
      by_cases c1 : bt s (i : Int) < 48
      · rw [if_pos c1]
      · rw [if_neg c1, if_pos (by omega)]
    · rw [if_neg c]
      refine evStep 0 (fun k _ => ?_) (ih (i + 1) _ (by omega) (by omega) (by omega))
      simp only [stopcockref01_ParseInt.l0]
      rw [if_pos (by omega), if_pos (by omega), if_neg (by omega), if_neg (by omega), wrap_id (x := (i : Int) + 1) (by omega) (by omega)]
      have e : IntKind.u64.wrap (IntKind.u64.wrap (m * 10) + (bt s (i : Int) - 48) % 256) = (m * 10 + (bt s (i : Int) - 48)) % 18446744073709551616 := by
        rw [wrap_u64, wrap_u64]; omega
      rw [e]
      rfl
def frm (s : ByteArray) : Nat := if bt s 0 = 45 then 1 else 0
def refV (s : ByteArray) : Int × Int := if s.size < frm s + 1 ∨ frm s + 19 < s.size then (0, 11) else rl s (frm s : Nat) 0 ((bytesOf s).drop (frm s))
theorem rparse_ev (s : ByteArray) (hs : s.size ≤ 140737488351232) : Ev (fun k => stopcockref01_ParseInt.f k s) (refV s) := by
  have h2 : Ev (fun k => stopcockref01_ParseInt.j1 k s (frm s : Nat)) (refV s) := by
    unfold refV
    by_cases c : s.size < frm s + 1 ∨ frm s + 19 < s.size
    · rw [if_pos c]
      refine evEnd 2 (fun k hk => ?_)
      obtain ⟨j, rfl⟩ : ∃ j, k = j + 2 := ⟨k - 2, by omega⟩
      simp only [stopcockref01_ParseInt.j1]
      have hf : frm s ≤ 1 := by unfold frm; split <;> omega
      rw [wrap_id (by omega) (by omega)]
      by_cases c1 : (s.size : Int) - (frm s : Nat) < 1
      · rw [if_pos c1]
        simp only [stopcockref01_ParseInt.j2]
        rw [if_pos trivial]
      · rw [if_neg c1, decide_eq_true (by omega)]
        simp only [stopcockref01_ParseInt.j2]
        rw [if_pos trivial]
    · rw [if_neg c]
      have hf : frm s ≤ 1 := by unfold frm; split <;> omega
      have h3 : Ev (fun k => stopcockref01_ParseInt.j2 k s (frm s : Nat) false) (rl s (frm s : Nat) 0 ((bytesOf s).drop (frm s))) := by
        refine evStep 0 (fun k _ => ?_) (rl_ev s hs (frm s : Nat) (s.size - frm s) (frm s) 0 (by omega) (by omega) (by omega))
        simp only [stopcockref01_ParseInt.j2]
        rw [if_neg (by simp)]
      refine evStep 0 (fun k _ => ?_) h3
      simp only [stopcockref01_ParseInt.j1]
      rw [wrap_id (by omega) (by omega), if_neg (by omega), decide_eq_false (by omega)]
  have h4 : Ev (fun k => stopcockref01_ParseInt.j0 k s 0 (bt s 0 == 45)) (refV s) := by
    refine evStep 0 (fun k _ => ?_) h2
    simp only [stopcockref01_ParseInt.j0]
    unfold frm
    by_cases c : bt s 0 = 45
    · rw [if_pos (by simp [c]), if_pos c]; rfl
    · rw [if_neg (by simp [c]), if_neg c]; rfl
  refine evSame 0 (fun k _ => ?_) h4
  unfold stopcockref01_ParseInt.f
  by_cases c : (s.size : Int) > 0
  · rw [if_pos c, if_pos (by omega)]
  · rw [if_neg c, bt_none s (by omega)]
    rfl

/-! ### both take just the digits of a number -/
theorem chk_digs (a : Int) : chk (strOfNums (digs a)) a = (a, 0) := by unfold chk; rw [if_pos rfl]
theorem chk_none (s : ByteArray) (h : ∀ v, inI v → strOfNums (digs v) ≠ s) (v : Int) (hv : inI v) : chk s v = (0, 11) := by
  unfold chk
  rw [if_neg (fun e => h v hv (toList_inj e))]
theorem foldl_dl (n : Nat) : n ≤ 9223372036854775808 → (dl n).reverse.foldl stepP 0 = -(n : Int) := by
  induction n using dl.induct with
  | case1 n h =>
    intro hn
    rw [dl_small n h]
    simp only [List.reverse_cons, List.reverse_nil, List.nil_append, List.foldl_cons, List.foldl_nil]
    unfold stepP
    rw [if_neg (by omega), wrap_id (x := 10 * 0) (by omega) (by omega), wrap_id (by omega) (by omega)]
    omega
  | case2 n h ih =>
    intro hn
    rw [dl_big n (by omega), List.reverse_cons, List.foldl_append, ih (by omega), List.foldl_cons, List.foldl_nil]
    unfold stepP
    rw [if_neg (by omega), wrap_id (x := 10 * -((n / 10 : Nat) : Int)) (by omega) (by omega), wrap_id (by omega) (by omega)]
    omega
theorem rl_dl (s : ByteArray) (f : Int) (n : Nat) : ∀ rest, n ≤ 18446744073709551615 → rl s f 0 ((dl n).reverse ++ rest) = rl s f (n : Int) rest := by
  induction n using dl.induct with
  | case1 n h =>
    intro rest hn
    rw [dl_small n h]
    simp only [List.reverse_cons, List.reverse_nil, List.nil_append, List.cons_append]
    rw [rl, if_neg (by omega)]
    congr 1
    omega
  | case2 n h ih =>
    intro rest hn
    rw [dl_big n (by omega), List.reverse_cons, List.append_assoc, ih _ (by omega), List.cons_append, List.nil_append, rl, if_neg (by omega)]
    congr 1
    omega
theorem digs_len (a : Int) (h : inI a) : (dl a.natAbs).length ≤ 19 := dl_len a.natAbs 18 (by unfold inI at h; omega)
theorem bt_head (l : List Int) (h : oct l) (x : Int) (r : List Int) (e : l = x :: r) : bt (strOfNums l) 0 = x := by
  have hs : 0 < (strOfNums l).size := by rw [str_size, e]; simp
  have := bt_get (strOfNums l) 0 hs
  rw [show ((0 : Nat) : Int) = 0 from rfl] at this
  rw [this]
  subst e
  have e2 := str_bytes (x :: r) h
  simp only [e2]
  rfl
theorem dl_head (n : Nat) : ∃ x r, (dl n).reverse = x :: r ∧ 48 ≤ x ∧ x ≤ 57 := by
  have h1 := dl_pos n
  have h2 := dl_oct n
  cases hr : (dl n).reverse with
  | nil => have := congrArg List.length hr; rw [List.length_reverse, List.length_nil] at this; omega
  | cons x r => exact ⟨x, r, rfl, h2 x (by have : x ∈ (dl n).reverse := by rw [hr]; exact List.mem_cons_self
                                           simpa using this)⟩
theorem parse_digs (a : Int) (h : inI a) : parseV (strOfNums (digs a)) = (a, 0) := by
  have hl := digs_len a h
  have hp := dl_pos a.natAbs
  have hd := digs_oct a
  unfold inI at h
  unfold parseV
  rw [str_size, str_bytes _ hd]
  by_cases hn : a < 0
  · have e : digs a = 45 :: (dl a.natAbs).reverse := by unfold digs; rw [if_pos hn]
    rw [if_neg (by rw [e]; simp; omega)]
    unfold pv
    rw [bt_head _ hd _ _ e, if_pos rfl]
    have e2 : (digs a).foldl stepP 0 = a := by
      rw [e, List.foldl_cons, show stepP 0 45 = 0 from by unfold stepP; rw [if_pos rfl], foldl_dl _ (by omega)]
      omega
    rw [e2]
    exact chk_digs a
  · have e : digs a = (dl a.natAbs).reverse := by unfold digs; rw [if_neg hn]
    rw [if_neg (by rw [e]; simp; omega)]
    unfold pv
    obtain ⟨x, r, ex, h1, h2⟩ := dl_head a.natAbs
    rw [bt_head _ hd x r (e.trans ex), if_neg (by omega)]
    have e2 : (digs a).foldl stepP 0 = -a := by
      rw [e, foldl_dl _ (by omega)]
      omega
    rw [e2, Int.neg_neg, wrap_id (by omega) (by omega)]
    exact chk_digs a
theorem ref_digs (a : Int) (h : inI a) : refV (strOfNums (digs a)) = (a, 0) := by
  have hl := digs_len a h
  have hp := dl_pos a.natAbs
  have hd := digs_oct a
  unfold inI at h
  unfold refV frm
  rw [str_size, str_bytes _ hd]
  by_cases hn : a < 0
  · have e : digs a = 45 :: (dl a.natAbs).reverse := by unfold digs; rw [if_pos hn]
    rw [bt_head _ hd _ _ e, if_pos rfl, if_neg (by rw [e]; simp; omega)]
    have e3 : (digs a).drop 1 = (dl a.natAbs).reverse ++ [] := by rw [e]; simp
    rw [e3, rl_dl _ _ _ _ (by omega), rl]
    unfold re
    rw [if_pos (show ((1 : Nat) : Int) = 1 from rfl), if_pos (by omega), show -((a.natAbs : Nat) : Int) = a from by omega]
    exact chk_digs a
  · have e : digs a = (dl a.natAbs).reverse := by unfold digs; rw [if_neg hn]
    obtain ⟨x, r, ex, h1, h2⟩ := dl_head a.natAbs
    rw [bt_head _ hd x r (e.trans ex), if_neg (by omega : ¬ x = 45), if_neg (by rw [e, List.length_reverse]; omega)]
    have e3 : (digs a).drop 0 = (dl a.natAbs).reverse ++ [] := by rw [e]; simp
    rw [e3, rl_dl _ _ _ _ (by omega), rl]
    unfold re
    rw [if_neg (by omega), if_neg (by omega), show ((a.natAbs : Nat) : Int) = a from by omega]
    exact chk_digs a
theorem rl_none (s : ByteArray) (h : ∀ v, inI v → strOfNums (digs v) ≠ s) (f : Int) : ∀ (l : List Int) (m : Int), 0 ≤ m → rl s f m l = (0, 11) := by
  intro l
  induction l with
  | nil =>
    intro m h0
    rw [rl]
    unfold re
    by_cases hf : f = 1
    · rw [if_pos hf]
      by_cases hm : 0 < m ∧ m ≤ 9223372036854775808
      · rw [if_pos hm]
        exact chk_none s h _ (by unfold inI; omega)
      · rw [if_neg hm]
    · rw [if_neg hf]
      by_cases hm : 9223372036854775808 ≤ m
      · rw [if_pos hm]
      · rw [if_neg hm]
        exact chk_none s h _ (by unfold inI; omega)
  | cons c r ih =>
    intro m h0
    rw [rl]
    split
    · rfl
    · exact ih _ (by omega)
theorem foldl_in (l : List Int) : ∀ n, inI n → inI (l.foldl stepP n) := by
  induction l with
  | nil => intro n h; exact h
  | cons c r ih => intro n h; exact ih _ (stepP_in n c h)
theorem parse_same (s : ByteArray) : parseV s = refV s := by
  by_cases h : ∃ v, inI v ∧ strOfNums (digs v) = s
  · obtain ⟨v, hv, rfl⟩ := h
    rw [parse_digs v hv, ref_digs v hv]
  · have h' : ∀ v, inI v → strOfNums (digs v) ≠ s := fun v hv e => h ⟨v, hv, e⟩
    have e1 : parseV s = (0, 11) := by
      unfold parseV pv
      split
      · rfl
      · split
        · exact chk_none s h' _ (foldl_in _ _ (by unfold inI; omega))
        · exact chk_none s h' _ (inI_wrap _)
    have e2 : refV s = (0, 11) := by
      unfold refV
      split
      · rfl
      · exact rl_none s h' _ _ _ (by omega)
    rw [e1, e2]
end Go.Proofs.Ytpadboidkpembaa.Pure
