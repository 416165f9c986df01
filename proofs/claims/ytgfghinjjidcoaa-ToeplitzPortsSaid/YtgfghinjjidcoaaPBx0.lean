-- Written by a program of this session (wip/tools/mkprint.py, mp.sh) for this claim.
import Derived.Test.YtgfghinjjidcoaaProg
import Derived.Test.YtgfghinjjidcoaaOpen
import Derived.Test.YtgfghinjjidcoaaSkip
import Derived.Below
import Derived.Deep.Draws
import Derived.Deep.AppendLies
import Derived.Maps.AppendAt
import Derived.OwnWalk
import Derived.Laws.BytesArg
import Derived.Laws.MakeOwn
import Derived.Laws.OwnMore
import Derived.Deep.OwnRows
import Derived.Tactics
import Derived.Lib.ConvBytes
import Derived.Laws.Slices
import Derived.WalkKit
import Derived.KernelRfl
import Derived.RowKit3
import Derived.Deep.LoopGhost
import Derived.Deep.QuietTactic
import Derived.BigQuiet
import Derived.WideLaws
import Derived.Deep.DeepCutAuto
import Derived.Deep.CutBlock
import Derived.Deep.RegionHeld3
import Derived.Laws.Rows
import Derived.Lib.AppendStr
import Derived.ArgAppend
import Derived.Laws.IdiomCopy
import Derived.OrdersHeld
import Derived.Laws.BitsLemmas
import Derived.RowKit
import Derived.Test.YtgfghinjjidcoaaHandP
import Derived.Test.YtgfghinjjidcoaaWWords
import Derived.Test.YtgfghinjjidcoaaWLast
import Derived.Test.YtgfghinjjidcoaaWTab
import Derived.Test.YtgfghinjjidcoaaWQPut
import Derived.Test.YtgfghinjjidcoaaWApart
import Derived.Test.YtgfghinjjidcoaaWArr
import Derived.Test.YtgfghinjjidcoaaWZeros
import Derived.Test.YtgfghinjjidcoaaWFoot
import Derived.Test.YtgfghinjjidcoaaWKept
import Derived.Test.YtgfghinjjidcoaaWShare
import Derived.Test.YtgfghinjjidcoaaWN
import Derived.Test.YtgfghinjjidcoaaWRepsOne
import Derived.Test.YtgfghinjjidcoaaWNEv
import Derived.Test.YtgfghinjjidcoaaWMore
namespace Go.Proofs.Ytgfghinjjidcoaa.PB
open Go.RowKit Go.Proofs.YtgfghinjjidcoaaW.PrintWords Go.Proofs.YtgfghinjjidcoaaW.PrintLast Go.Proofs.YtgfghinjjidcoaaW.PrintMore
attribute [local go_sem] max2_int min2_int max_two min_two max_three min_three max_four min_four   -- for this text's walks alone
set_option linter.unusedVariables false
set_option linter.unusedSimpArgs false



def errW : Option Int → Value
  | none => .nilIface
  | some c => .iface 0 (.int .i64 c)
theorem errW_none : errW none = .nilIface := rfl
theorem errW_some (c : Int) : errW (some c) = .iface 0 (.int .i64 c) := rfl

theorem info5 : (Try.prog.info? 5).map (fun i => (i.zero, i.size, i.bytes)) = some (some (.int .u8 0), 1, 1) := by kernel_rfl
-- the values' own types
def rd_L2 (xs : List (List Int)) (i : Int) : (List Int) := xs.getD i.toNat ([] : List Int)
theorem at_L2 {w : World} {A : Option Addr} {n : Nat} {xs : List (List Int)} (h : Kd.C (Kd.slice 5 (Kd.int .u8)) w A n xs) (i : Int) (h0 : 0 ≤ i) (h1 : i < n) : ∃ ad A0 c0, A = some ad ∧ w.cell? (ad.add i.toNat) = some (.slice A0 (rd_L2 xs i).length c0) ∧ (rd_L2 xs i).length ≤ c0 ∧ (Kd.int .u8).C w A0 (rd_L2 xs i).length (rd_L2 xs i) := by
  obtain ⟨ad, c, e, _, hK, hc0⟩ := Kd.C_get h ([] : List Int) i h0 h1; have hc : ∀ j u, c[j]? = some u → w.cell? (ad.add (i.toNat * 1 + j)) = some u := hc0; obtain ⟨A0, c0, rfl, l0, g0⟩ := hK; exact ⟨ad, A0, c0, e, by have hq := hc 0 _ rfl; rwa [Nat.mul_one, Nat.add_zero] at hq, l0, g0⟩

def rd_L3 (xs : List (List Int)) (i : Int) : (List Int) := xs.getD i.toNat ([] : List Int)
theorem at_L3 {w : World} {A : Option Addr} {n : Nat} {xs : List (List Int)} (h : Kd.C (Kd.slice 3 (Kd.int .i64)) w A n xs) (i : Int) (h0 : 0 ≤ i) (h1 : i < n) : ∃ ad A0 c0, A = some ad ∧ w.cell? (ad.add i.toNat) = some (.slice A0 (rd_L3 xs i).length c0) ∧ (rd_L3 xs i).length ≤ c0 ∧ (Kd.int .i64).C w A0 (rd_L3 xs i).length (rd_L3 xs i) := by
  obtain ⟨ad, c, e, _, hK, hc0⟩ := Kd.C_get h ([] : List Int) i h0 h1; have hc : ∀ j u, c[j]? = some u → w.cell? (ad.add (i.toNat * 1 + j)) = some u := hc0; obtain ⟨A0, c0, rfl, l0, g0⟩ := hK; exact ⟨ad, A0, c0, e, by have hq := hc 0 _ rfl; rwa [Nat.mul_one, Nat.add_zero] at hq, l0, g0⟩

/-! #### struct type 50 -/
structure S50 where
  f0 : Int
  f1 : Int
  f2 : Int
  f3 : Int
  f4 : Int
def z50 : S50 := ⟨(0 : Int), (0 : Int), (0 : Int), (0 : Int), (0 : Int)⟩
def k50 : Kd S50 := Kd.iso (Kd.pair (Kd.int .u32) (Kd.pair (Kd.int .u32) (Kd.pair (Kd.int .u16) (Kd.pair (Kd.int .i64) (Kd.int .u16))))) (fun x : S50 => (x.f0, x.f1, x.f2, x.f3, x.f4))
theorem k50_open {w : World} {x : S50} {cs : List Value} (h : k50.K w x cs) : cs = [.int .u32 x.f0, .int .u32 x.f1, .int .u16 x.f2, .int .i64 x.f3, .int .u16 x.f4] := by
  obtain ⟨_, _, rfl, rfl, ⟨_, _, rfl, rfl, ⟨_, _, rfl, rfl, ⟨_, _, rfl, rfl, rfl⟩⟩⟩⟩ := h; exact rfl
theorem k50_openM {w : World} {base : Nat} {ok : Nat → Prop} {x : S50} {cs : List Value} (h : k50.M w base ok x cs) : cs = [.int .u32 x.f0, .int .u32 x.f1, .int .u16 x.f2, .int .i64 x.f3, .int .u16 x.f4] := by
  obtain ⟨_, _, rfl, rfl, ⟨_, _, rfl, rfl, ⟨_, _, rfl, rfl, ⟨_, _, rfl, rfl, rfl⟩⟩⟩⟩ := h; exact rfl
theorem k50_mk (w : World) (x : S50)  : k50.K w x [.int .u32 x.f0, .int .u32 x.f1, .int .u16 x.f2, .int .i64 x.f3, .int .u16 x.f4] := ⟨[.int .u32 x.f0], [.int .u32 x.f1, .int .u16 x.f2, .int .i64 x.f3, .int .u16 x.f4], rfl, rfl, ⟨[.int .u32 x.f1], [.int .u16 x.f2, .int .i64 x.f3, .int .u16 x.f4], rfl, rfl, ⟨[.int .u16 x.f2], [.int .i64 x.f3, .int .u16 x.f4], rfl, rfl, ⟨[.int .i64 x.f3], [.int .u16 x.f4], rfl, rfl, rfl⟩⟩⟩⟩
theorem k50_mkM (w : World) (base : Nat) (ok : Nat → Prop) (x : S50)  : k50.M w base ok x [.int .u32 x.f0, .int .u32 x.f1, .int .u16 x.f2, .int .i64 x.f3, .int .u16 x.f4] := ⟨[.int .u32 x.f0], [.int .u32 x.f1, .int .u16 x.f2, .int .i64 x.f3, .int .u16 x.f4], rfl, rfl, ⟨[.int .u32 x.f1], [.int .u16 x.f2, .int .i64 x.f3, .int .u16 x.f4], rfl, rfl, ⟨[.int .u16 x.f2], [.int .i64 x.f3, .int .u16 x.f4], rfl, rfl, ⟨[.int .i64 x.f3], [.int .u16 x.f4], rfl, rfl, rfl⟩⟩⟩⟩
def rd_T50 (xs : List S50) (i : Int) : S50 := xs.getD i.toNat z50
theorem at_T50 {w : World} {A : Option Addr} {n : Nat} {xs : List S50} (h : Kd.C k50 w A n xs) (i : Int) (h0 : 0 ≤ i) (h1 : i < n) : ∃ ad , A = some ad ∧ w.cell? (ad.add (i.toNat * 5)) = some (.int .u32 (rd_T50 xs i).f0) ∧ w.cell? ⟨(ad.add (i.toNat * 5)).block, (ad.add (i.toNat * 5)).off + 1, none⟩ = some (.int .u32 (rd_T50 xs i).f1) ∧ w.cell? ⟨(ad.add (i.toNat * 5)).block, (ad.add (i.toNat * 5)).off + 2, none⟩ = some (.int .u16 (rd_T50 xs i).f2) ∧ w.cell? ⟨(ad.add (i.toNat * 5)).block, (ad.add (i.toNat * 5)).off + 3, none⟩ = some (.int .i64 (rd_T50 xs i).f3) ∧ w.cell? ⟨(ad.add (i.toNat * 5)).block, (ad.add (i.toNat * 5)).off + 4, none⟩ = some (.int .u16 (rd_T50 xs i).f4) := by
  obtain ⟨ad, c, e, _, hK, hc0⟩ := Kd.C_get h z50 i h0 h1; have hc : ∀ j u, c[j]? = some u → w.cell? (ad.add (i.toNat * 5 + j)) = some u := hc0; obtain rfl := k50_open hK; exact ⟨ad, e, hc 0 _ rfl, by rw [← add_field _ _ 1 (by omega)]; exact hc 1 _ rfl, by rw [← add_field _ _ 2 (by omega)]; exact hc 2 _ rfl, by rw [← add_field _ _ 3 (by omega)]; exact hc 3 _ rfl, by rw [← add_field _ _ 4 (by omega)]; exact hc 4 _ rfl⟩

/-- What is known of a value of type 50 that came in. -/
def okT50 (x : S50) : Prop := ((Lit.int .u32 x.f0).wf = true) ∧ (((Lit.int .u32 x.f1).wf = true) ∧ (((Lit.int .u16 x.f2).wf = true) ∧ (((Lit.int .i64 x.f3).wf = true) ∧ ((Lit.int .u16 x.f4).wf = true))))
theorem tellsT50 : Open.Tells Try.prog 50 k50 okT50 :=
  Open.tells_struct (P := Try.prog) (t := 50) (d := (Kd.pair (Kd.int .u32) (Kd.pair (Kd.int .u32) (Kd.pair (Kd.int .u16) (Kd.pair (Kd.int .i64) (Kd.int .u16)))))) (ok := fun p => ((Lit.int .u32 p.1).wf = true) ∧ (((Lit.int .u32 p.2.1).wf = true) ∧ (((Lit.int .u16 p.2.2.1).wf = true) ∧ (((Lit.int .i64 p.2.2.2.1).wf = true) ∧ ((Lit.int .u16 p.2.2.2.2).wf = true))))) (f := fun x : S50 => (x.f0, x.f1, x.f2, x.f3, x.f4)) (fun p => (⟨p.1, p.2.1, p.2.2.1, p.2.2.2.1, p.2.2.2.2⟩ : S50)) (fun _ => rfl) Try.underlying50 (by kernel_rfl) (Open.tellsF_cons rfl (by kernel_rfl) (Open.tells_int Try.underlying24) (Open.tellsF_cons rfl (by kernel_rfl) (Open.tells_int Try.underlying24) (Open.tellsF_cons rfl (by kernel_rfl) (Open.tells_int Try.underlying31) (Open.tellsF_cons rfl (by kernel_rfl) (Open.tells_int Try.underlying3) (Open.tellsF_one rfl (by kernel_rfl) (Open.tells_int Try.underlying31))))))
end Go.Proofs.Ytgfghinjjidcoaa.PB
