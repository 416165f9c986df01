/- Hashes, tuples, tables and shards of toeplitz are the page's: for all octets and whole numbers. -/
import Derived.Test.YtgfghinjjidcoaaPureToeplitzOwn
namespace Go.Proofs.Ytgfghinjjidcoaa.Pure
open Go.RowKit Go.Proofs.Ytgfghinjjidcoaa.PA Go.Proofs.YtgfghinjjidcoaaW.PrintWords Go.Proofs.YtgfghinjjidcoaaW.PrintLast Go.Proofs.YtgfghinjjidcoaaW.PrintMore Go.Proofs.Ytgfghinjjidcoaa.Util
set_option linter.unusedVariables false
set_option linter.unusedSimpArgs false

theorem shard_ev (l : List Int) (hs : l.length ≤ 140737488351232) (h : Int) (h0 : 0 ≤ h) (h1 : h ≤ 4294967295) : ∃ v, toeplitz_Shard.f l h = some v ∧ Ev (fun k => stopcockref07_Shard.f k l h) v := by
  obtain ⟨c, e1, ⟨K, e2⟩, e3⟩ := check_ev l hs
  by_cases hc : c = 0
  · obtain ⟨hl, _⟩ := e3 hc
    have hm : Int.tmod h 128 = h % 128 := tmod_pos h0
    refine ⟨(rd l (h % 128), 0), ?_, evEnd K (fun k hk => ?_)⟩
    · unfold toeplitz_Shard.f
      rw [e1, Option.bind_some, if_pos hc, and127 h h0 (by omega), if_pos (by omega), if_pos (by omega)]
    · unfold stopcockref07_Shard.f
      rw [show stopcockref07_CheckTable.f k l = _ from e2 k hk, Option.bind_some, if_pos hc, hm, if_pos (by omega), if_pos (by omega)]
  · refine ⟨(0, c), ?_, evEnd K (fun k hk => ?_)⟩
    · unfold toeplitz_Shard.f
      rw [e1, Option.bind_some, if_neg hc]
    · unfold stopcockref07_Shard.f
      rw [show stopcockref07_CheckTable.f k l = _ from e2 k hk, Option.bind_some, if_neg hc]
theorem checkB_ev (key l : List Int) (hs : l.length ≤ 140737488351232) : ∃ c, toeplitz_Check.f key l = some c ∧ Ev (fun k => stopcockref07_Check.f k key l) c := by
  obtain ⟨c, e1, ⟨K, e2⟩, _⟩ := check_ev l hs
  unfold toeplitz_Check.f
  by_cases hk : (key.length : Int) = 40
  · rw [if_pos hk, e1]
    refine ⟨c, rfl, evEnd K (fun k h => ?_)⟩
    unfold stopcockref07_Check.f
    rw [if_pos hk, show stopcockref07_CheckTable.f k l = _ from e2 k h]
    rfl
  · rw [if_neg hk]
    refine ⟨3, rfl, evEnd 0 (fun k h => ?_)⟩
    unfold stopcockref07_Check.f
    rw [if_neg hk]
theorem ToeplitzTells : stopcocklaw07_ToeplitzTells.Pure := by
  intro key inp t h src dst p hk1 hk2 hk3 hi1 hi2 hi3 ht1 ht2 ht3 hh hs hd hp
  have ok := oct_wf hk3
  have oi := oct_wf hi3
  have bh := wf32 hh
  have bs := wf32 hs
  have bd := wf32 hd
  have bp := wf32 hp
  obtain ⟨K1, e1⟩ := alive_ev
  obtain ⟨K2, e2⟩ := hash_ev key inp ok oi
  obtain ⟨K3, e3⟩ := rhash_ev key inp ok oi
  obtain ⟨v, e4, K5, e5⟩ := shard_ev t (by omega) h bh.1 bh.2
  obtain ⟨c, e6, K7, e7⟩ := checkB_ev key t (by omega)
  have ep : IntKind.u16.wrap p = p % 65536 := by simp [IntKind.wrap, IntKind.bits, IntKind.signed]
  have eq : IntKind.u16.wrap (p / 65536) = p / 65536 := by simp [IntKind.wrap, IntKind.bits, IntKind.signed]; omega
  obtain ⟨l, hl⟩ : ∃ l, Hand.four src ++ Hand.four dst ++ Hand.four (p % 65536 * 65536 + p / 65536) = l := ⟨_, rfl⟩
  have hlen : l.length = 12 := by rw [← hl]; rfl
  have et : toeplitz_Tuple.f src dst (p % 65536) (p / 65536) = some l := by rw [tup_eq src dst _ _ (by omega) (by omega) (by omega) (by omega) (by omega) (by omega) (by omega) (by omega), hl]
  obtain ⟨K8, e8⟩ := rtup_ev src dst (p % 65536) (p / 65536) (by omega) (by omega) (by omega) (by omega) (by omega) (by omega) (by omega) (by omega)
  rw [hl] at e8
  obtain ⟨K9, e9⟩ := same_ev l (by omega)
  obtain ⟨K10, e10⟩ := same_ev key (by omega)
  obtain ⟨K11, e11⟩ := same_ev inp (by omega)
  obtain ⟨K12, e12⟩ := sameI_ev t (by omega)
  obtain ⟨K, hK⟩ : ∃ K, K = K1 + K2 + K3 + K5 + K7 + K8 + K9 + K10 + K11 + K12 := ⟨_, rfl⟩
  refine ⟨K, ?_⟩
  unfold stopcocklaw07_ToeplitzTells.f
  rw [copy_eq key (by omega), Option.bind_some, copy_eq inp (by omega), Option.bind_some, copyI_eq t (by omega), Option.bind_some]
  rw [show toeplitz_Hash.f K key inp = _ from e2 _ (by omega), Option.bind_some, show stopcockref07_Hash.f K key inp = _ from e3 _ (by omega), Option.bind_some, e4, Option.bind_some, show stopcockref07_Shard.f K t h = _ from e5 _ (by omega), Option.bind_some]
  simp only [stopcocklaw07_num.f, Option.bind_some]
  rw [if_pos trivial, if_pos trivial, if_pos trivial, e6, Option.bind_some, show stopcockref07_Check.f K key t = _ from e7 _ (by omega), Option.bind_some, if_pos rfl, ep, eq, et, Option.bind_some, show stopcockref07_Tuple.f K src dst (p % 65536) (p / 65536) = _ from e8 _ (by omega), Option.bind_some]
  rw [show stopcockplain_SameBytes.f K l l = _ from e9 _ (by omega), Option.bind_some, if_pos rfl, show stopcockplain_SameBytes.f K key key = _ from e10 _ (by omega), Option.bind_some, if_pos rfl, show stopcockplain_SameBytes.f K inp inp = _ from e11 _ (by omega), Option.bind_some, if_pos rfl]
  rw [show stopcockplain_SameInts.f K t t = _ from e12 _ (by omega), Option.bind_some, if_pos rfl, show stopcocklaw07_alive.f K = _ from e1 _ (by omega)]
  rfl
end Go.Proofs.Ytgfghinjjidcoaa.Pure
