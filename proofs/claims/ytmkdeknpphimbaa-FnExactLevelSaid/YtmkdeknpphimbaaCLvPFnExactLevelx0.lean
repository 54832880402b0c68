import Derived.Test.YtmkdeknpphimbaaProg
import Derived.Below
import Derived.Deep.Draws
import Derived.Deep.AppendLies
import Derived.Maps.AppendAt
import Derived.OwnWalk
import Derived.Laws.BytesArg
import Derived.Laws.MakeOwn
import Derived.Laws.OwnMore
import Derived.Deep.OwnRows
import Derived.Tactics
import Derived.Lib.ConvBytes
import Derived.Laws.Slices
import Derived.WalkKit
import Derived.KernelRfl
import Derived.RowKit3
import Derived.Deep.LoopGhost
import Derived.Deep.QuietTactic
import Derived.BigQuiet
import Derived.WideLaws
import Derived.Deep.DeepCutAuto
import Derived.Deep.CutBlock
import Derived.Deep.RegionHeld3
import Derived.Laws.Rows
import Derived.Lib.AppendStr
import Derived.ArgAppend
import Derived.Laws.IdiomCopy
import Derived.OrdersHeld
import Derived.Laws.BitsLemmas
import Derived.RowKit
import Derived.Test.YtmkdeknpphimbaaCLvWWords
import Derived.Test.YtmkdeknpphimbaaCLvWLast
import Derived.Test.YtmkdeknpphimbaaCLvWTab
import Derived.Test.YtmkdeknpphimbaaCLvWFour
import Derived.Test.YtmkdeknpphimbaaCLvWQPut
import Derived.Test.YtmkdeknpphimbaaCLvWApart
import Derived.Test.YtmkdeknpphimbaaCLvWArr
import Derived.Test.YtmkdeknpphimbaaCLvWZeros
import Derived.Test.YtmkdeknpphimbaaCLvWFoot
import Derived.Test.YtmkdeknpphimbaaCLvWKept
import Derived.Test.YtmkdeknpphimbaaCLvWShare
import Derived.Test.YtmkdeknpphimbaaCLvWN
import Derived.Test.YtmkdeknpphimbaaCLvWFootNe
import Derived.Test.YtmkdeknpphimbaaCLvWAt
import Derived.Test.YtmkdeknpphimbaaCLvWEqStruct
import Derived.Test.YtmkdeknpphimbaaCLvWRepsOne
import Derived.Test.YtmkdeknpphimbaaCLvWInv
import Derived.Test.YtmkdeknpphimbaaCLvWInvWords
import Derived.Test.YtmkdeknpphimbaaCLvWGuard
import Derived.Test.YtmkdeknpphimbaaCLvWNEv
import Derived.Test.YtmkdeknpphimbaaCLvWMore
namespace Go.Proofs.Ytmkdeknpphimbaa.PFnExactLevel
open Go.RowKit Go.Proofs.YtmkdeknpphimbaaW.PrintWords Go.Proofs.YtmkdeknpphimbaaW.PrintLast Go.Proofs.YtmkdeknpphimbaaW.PrintMore
attribute [local go_sem] max2_int min2_int max_two min_two max_three min_three max_four min_four
set_option linter.unusedVariables false
set_option linter.unusedSimpArgs false
def errW : Option Int → Value
  | none => .nilIface
  | some c => .iface 0 (.int .i64 c)
theorem errW_none : errW none = .nilIface := rfl
theorem errW_some (c : Int) : errW (some c) = .iface 0 (.int .i64 c) := rfl
theorem info3 : (Try.prog.info? 3).map (fun i => (i.zero, i.size, i.bytes)) = some (some (.int .i64 0), 1, 8) := by kernel_rfl
theorem info5 : (Try.prog.info? 5).map (fun i => (i.zero, i.size, i.bytes)) = some (some (.int .u8 0), 1, 1) := by kernel_rfl
theorem info9 : (Try.prog.info? 9).map (fun i => (i.zero, i.size, i.bytes)) = some (some (.string ⟨#[]⟩), 1, 16) := by kernel_rfl
theorem info91 : (Try.prog.info? 91).map (fun i => (i.zero, i.size, i.bytes)) = some (some (.agg #[(.int .i64 0), (.string ⟨#[]⟩)]), 2, 24) := by kernel_rfl
theorem info110 : (Try.prog.info? 110).map (fun i => (i.zero, i.size, i.bytes)) = some (some (.agg #[(.int .i64 0), (.slice none 0 0), (.int .i64 0), (.string ⟨#[]⟩), (.slice none 0 0), (.int .i64 0), (.int .i64 0), (.string ⟨#[]⟩)]), 8, 112) := by kernel_rfl
theorem info128 : (Try.prog.info? 128).map (fun i => (i.zero, i.size, i.bytes)) = some (some (.agg #[(.int .i64 0), (.int .i64 0), (.int .i64 0), (.int .i64 0), (.string ⟨#[]⟩), (.int .i64 0), (.slice none 0 0)]), 7, 80) := by kernel_rfl
structure S114 where
  f0 : Int
  f1 : ByteArray
def z114 : S114 := ⟨(0 : Int), (⟨#[]⟩ : ByteArray)⟩
def k114 : Kd S114 := Kd.iso (Kd.pair (Kd.int .i64) Kd.string) (fun x : S114 => (x.f0, x.f1))
theorem k114_open {w : World} {x : S114} {cs : List Value} (h : k114.K w x cs) : cs = [.int .i64 x.f0, .string x.f1] := by
  obtain ⟨_, _, rfl, rfl, rfl⟩ := h
  exact rfl
theorem k114_openM {w : World} {base : Nat} {ok : Nat → Prop} {x : S114} {cs : List Value} (h : k114.M w base ok x cs) : cs = [.int .i64 x.f0, .string x.f1] := by
  obtain ⟨_, _, rfl, rfl, rfl⟩ := h
  exact rfl
theorem k114_mk (w : World) (x : S114)  : k114.K w x [.int .i64 x.f0, .string x.f1] := ⟨[.int .i64 x.f0], [.string x.f1], rfl, rfl, rfl⟩
theorem k114_mkM (w : World) (base : Nat) (ok : Nat → Prop) (x : S114)  : k114.M w base ok x [.int .i64 x.f0, .string x.f1] := ⟨[.int .i64 x.f0], [.string x.f1], rfl, rfl, rfl⟩
def rd_T114 (xs : List S114) (i : Int) : S114 := xs.getD i.toNat z114
theorem at_T114 {w : World} {A : Option Addr} {n : Nat} {xs : List S114} (h : Kd.C k114 w A n xs) (i : Int) (h0 : 0 ≤ i) (h1 : i < n) : ∃ ad , A = some ad ∧ w.cell? (ad.add (i.toNat * 2)) = some (.int .i64 (rd_T114 xs i).f0) ∧ w.cell? ⟨(ad.add (i.toNat * 2)).block, (ad.add (i.toNat * 2)).off + 1, none⟩ = some (.string (rd_T114 xs i).f1) := by
  obtain ⟨ad, c, e, _, hK, hc0⟩ := Kd.C_get h z114 i h0 h1
  have hc : ∀ j u, c[j]? = some u → w.cell? (ad.add (i.toNat * 2 + j)) = some u := hc0
  obtain rfl := k114_open hK
  exact ⟨ad, e, hc 0 _ rfl, by rw [← add_field _ _ 1 (by omega)]; exact hc 1 _ rfl⟩
def rd_L4 (xs : List (List ByteArray)) (i : Int) : (List ByteArray) := xs.getD i.toNat ([] : List ByteArray)
theorem at_L4 {w : World} {A : Option Addr} {n : Nat} {xs : List (List ByteArray)} (h : Kd.C (Kd.slice 9 Kd.string) w A n xs) (i : Int) (h0 : 0 ≤ i) (h1 : i < n) : ∃ ad A0 c0, A = some ad ∧ w.cell? (ad.add i.toNat) = some (.slice A0 (rd_L4 xs i).length c0) ∧ (rd_L4 xs i).length ≤ c0 ∧ Kd.string.C w A0 (rd_L4 xs i).length (rd_L4 xs i) := by
  obtain ⟨ad, c, e, _, hK, hc0⟩ := Kd.C_get h ([] : List ByteArray) i h0 h1
  have hc : ∀ j u, c[j]? = some u → w.cell? (ad.add (i.toNat * 1 + j)) = some u := hc0
  obtain ⟨A0, c0, rfl, l0, g0⟩ := hK
  exact ⟨ad, A0, c0, e, by have hq := hc 0 _ rfl; rwa [Nat.mul_one, Nat.add_zero] at hq, l0, g0⟩
structure S117 where
  f0 : (List ByteArray)
  f1 : S114
def z117 : S117 := ⟨([] : List ByteArray), z114⟩
def k117 : Kd S117 := Kd.iso (Kd.pair (Kd.slice 9 Kd.string) k114) (fun x : S117 => (x.f0, x.f1))
theorem k117_open {w : World} {x : S117} {cs : List Value} (h : k117.K w x cs) : ∃ A0 c0, cs = [.slice A0 x.f0.length c0, .int .i64 x.f1.f0, .string x.f1.f1] ∧ x.f0.length ≤ c0 ∧ Kd.string.C w A0 x.f0.length x.f0 := by
  obtain ⟨_, _, rfl, ⟨A0, c0, rfl, l0, g0⟩, s1⟩ := h
  obtain rfl := k114_open s1
  exact ⟨A0, c0, rfl, l0, g0⟩
theorem k117_openM {w : World} {base : Nat} {ok : Nat → Prop} {x : S117} {cs : List Value} (h : k117.M w base ok x cs) : ∃ v0, cs = [v0, .int .i64 x.f1.f0, .string x.f1.f1] ∧ Kd.string.R 9 w base ok v0 x.f0 := by
  obtain ⟨_, _, rfl, ⟨v0, rfl, g0⟩, s1⟩ := h
  obtain rfl := k114_openM s1
  exact ⟨v0, rfl, g0⟩
theorem k117_mk (w : World) (x : S117) {A0 : Option Addr} {c0 : Nat} (l0 : x.f0.length ≤ c0) (g0 : Kd.string.C w A0 x.f0.length x.f0) : k117.K w x [.slice A0 x.f0.length c0, .int .i64 x.f1.f0, .string x.f1.f1] := ⟨[.slice A0 x.f0.length c0], [.int .i64 x.f1.f0, .string x.f1.f1], rfl, ⟨A0, c0, rfl, l0, g0⟩, (k114_mk w x.f1 )⟩
theorem k117_mkM (w : World) (base : Nat) (ok : Nat → Prop) (x : S117) {v0 : Value} (g0 : Kd.string.R 9 w base ok v0 x.f0) : k117.M w base ok x [v0, .int .i64 x.f1.f0, .string x.f1.f1] := ⟨[v0], [.int .i64 x.f1.f0, .string x.f1.f1], rfl, ⟨v0, rfl, g0⟩, (k114_mkM w base ok x.f1 )⟩
def rd_T117 (xs : List S117) (i : Int) : S117 := xs.getD i.toNat z117
theorem at_T117 {w : World} {A : Option Addr} {n : Nat} {xs : List S117} (h : Kd.C k117 w A n xs) (i : Int) (h0 : 0 ≤ i) (h1 : i < n) : ∃ ad A0 c0, A = some ad ∧ w.cell? (ad.add (i.toNat * 3)) = some (.slice A0 (rd_T117 xs i).f0.length c0) ∧ w.cell? ⟨(ad.add (i.toNat * 3)).block, (ad.add (i.toNat * 3)).off + 1, none⟩ = some (.int .i64 (rd_T117 xs i).f1.f0) ∧ w.cell? ⟨(ad.add (i.toNat * 3)).block, (ad.add (i.toNat * 3)).off + 2, none⟩ = some (.string (rd_T117 xs i).f1.f1) ∧ (rd_T117 xs i).f0.length ≤ c0 ∧ Kd.string.C w A0 (rd_T117 xs i).f0.length (rd_T117 xs i).f0 := by
  obtain ⟨ad, c, e, _, hK, hc0⟩ := Kd.C_get h z117 i h0 h1
  have hc : ∀ j u, c[j]? = some u → w.cell? (ad.add (i.toNat * 3 + j)) = some u := hc0
  obtain ⟨A0, c0, rfl, l0, g0⟩ := k117_open hK
  exact ⟨ad, A0, c0, e, hc 0 _ rfl, by rw [← add_field _ _ 1 (by omega)]; exact hc 1 _ rfl, by rw [← add_field _ _ 2 (by omega)]; exact hc 2 _ rfl, l0, g0⟩
def rd_L6 (xs : List (List Int)) (i : Int) : (List Int) := xs.getD i.toNat ([] : List Int)
theorem at_L6 {w : World} {A : Option Addr} {n : Nat} {xs : List (List Int)} (h : Kd.C (Kd.slice 5 (Kd.int .u8)) w A n xs) (i : Int) (h0 : 0 ≤ i) (h1 : i < n) : ∃ ad A0 c0, A = some ad ∧ w.cell? (ad.add i.toNat) = some (.slice A0 (rd_L6 xs i).length c0) ∧ (rd_L6 xs i).length ≤ c0 ∧ (Kd.int .u8).C w A0 (rd_L6 xs i).length (rd_L6 xs i) := by
  obtain ⟨ad, c, e, _, hK, hc0⟩ := Kd.C_get h ([] : List Int) i h0 h1
  have hc : ∀ j u, c[j]? = some u → w.cell? (ad.add (i.toNat * 1 + j)) = some u := hc0
  obtain ⟨A0, c0, rfl, l0, g0⟩ := hK
  exact ⟨ad, A0, c0, e, by have hq := hc 0 _ rfl; rwa [Nat.mul_one, Nat.add_zero] at hq, l0, g0⟩
structure S119 where
  f0 : S117
  f1 : (List Int)
  f2 : Int
def z119 : S119 := ⟨z117, ([] : List Int), (0 : Int)⟩
def k119 : Kd S119 := Kd.iso (Kd.pair k117 (Kd.pair (Kd.slice 5 (Kd.int .u8)) (Kd.int .i64))) (fun x : S119 => (x.f0, x.f1, x.f2))
theorem k119_open {w : World} {x : S119} {cs : List Value} (h : k119.K w x cs) : ∃ A0 c0 A3 c3, cs = [.slice A0 x.f0.f0.length c0, .int .i64 x.f0.f1.f0, .string x.f0.f1.f1, .slice A3 x.f1.length c3, .int .i64 x.f2] ∧ x.f0.f0.length ≤ c0 ∧ Kd.string.C w A0 x.f0.f0.length x.f0.f0 ∧ x.f1.length ≤ c3 ∧ (Kd.int .u8).C w A3 x.f1.length x.f1 := by
  obtain ⟨_, _, rfl, s0, ⟨_, _, rfl, ⟨A3, c3, rfl, l3, g3⟩, rfl⟩⟩ := h
  obtain ⟨A0, c0, rfl, l0, g0⟩ := k117_open s0
  exact ⟨A0, c0, A3, c3, rfl, l0, g0, l3, g3⟩
theorem k119_openM {w : World} {base : Nat} {ok : Nat → Prop} {x : S119} {cs : List Value} (h : k119.M w base ok x cs) : ∃ v0 v3, cs = [v0, .int .i64 x.f0.f1.f0, .string x.f0.f1.f1, v3, .int .i64 x.f2] ∧ Kd.string.R 9 w base ok v0 x.f0.f0 ∧ (Kd.int .u8).R 5 w base ok v3 x.f1 := by
  obtain ⟨_, _, rfl, s0, ⟨_, _, rfl, ⟨v3, rfl, g3⟩, rfl⟩⟩ := h
  obtain ⟨v0, rfl, g0⟩ := k117_openM s0
  exact ⟨v0, v3, rfl, g0, g3⟩
theorem k119_mk (w : World) (x : S119) {A0 : Option Addr} {c0 : Nat} (l0 : x.f0.f0.length ≤ c0) (g0 : Kd.string.C w A0 x.f0.f0.length x.f0.f0) {A3 : Option Addr} {c3 : Nat} (l3 : x.f1.length ≤ c3) (g3 : (Kd.int .u8).C w A3 x.f1.length x.f1) : k119.K w x [.slice A0 x.f0.f0.length c0, .int .i64 x.f0.f1.f0, .string x.f0.f1.f1, .slice A3 x.f1.length c3, .int .i64 x.f2] := ⟨[.slice A0 x.f0.f0.length c0, .int .i64 x.f0.f1.f0, .string x.f0.f1.f1], [.slice A3 x.f1.length c3, .int .i64 x.f2], rfl, (k117_mk w x.f0 l0 g0), ⟨[.slice A3 x.f1.length c3], [.int .i64 x.f2], rfl, ⟨A3, c3, rfl, l3, g3⟩, rfl⟩⟩
theorem k119_mkM (w : World) (base : Nat) (ok : Nat → Prop) (x : S119) {v0 : Value} (g0 : Kd.string.R 9 w base ok v0 x.f0.f0) {v3 : Value} (g3 : (Kd.int .u8).R 5 w base ok v3 x.f1) : k119.M w base ok x [v0, .int .i64 x.f0.f1.f0, .string x.f0.f1.f1, v3, .int .i64 x.f2] := ⟨[v0, .int .i64 x.f0.f1.f0, .string x.f0.f1.f1], [v3, .int .i64 x.f2], rfl, (k117_mkM w base ok x.f0 g0), ⟨[v3], [.int .i64 x.f2], rfl, ⟨v3, rfl, g3⟩, rfl⟩⟩
def rd_T119 (xs : List S119) (i : Int) : S119 := xs.getD i.toNat z119
theorem at_T119 {w : World} {A : Option Addr} {n : Nat} {xs : List S119} (h : Kd.C k119 w A n xs) (i : Int) (h0 : 0 ≤ i) (h1 : i < n) : ∃ ad A0 c0 A3 c3, A = some ad ∧ w.cell? (ad.add (i.toNat * 5)) = some (.slice A0 (rd_T119 xs i).f0.f0.length c0) ∧ w.cell? ⟨(ad.add (i.toNat * 5)).block, (ad.add (i.toNat * 5)).off + 1, none⟩ = some (.int .i64 (rd_T119 xs i).f0.f1.f0) ∧ w.cell? ⟨(ad.add (i.toNat * 5)).block, (ad.add (i.toNat * 5)).off + 2, none⟩ = some (.string (rd_T119 xs i).f0.f1.f1) ∧ w.cell? ⟨(ad.add (i.toNat * 5)).block, (ad.add (i.toNat * 5)).off + 3, none⟩ = some (.slice A3 (rd_T119 xs i).f1.length c3) ∧ w.cell? ⟨(ad.add (i.toNat * 5)).block, (ad.add (i.toNat * 5)).off + 4, none⟩ = some (.int .i64 (rd_T119 xs i).f2) ∧ (rd_T119 xs i).f0.f0.length ≤ c0 ∧ Kd.string.C w A0 (rd_T119 xs i).f0.f0.length (rd_T119 xs i).f0.f0 ∧ (rd_T119 xs i).f1.length ≤ c3 ∧ (Kd.int .u8).C w A3 (rd_T119 xs i).f1.length (rd_T119 xs i).f1 := by
  obtain ⟨ad, c, e, _, hK, hc0⟩ := Kd.C_get h z119 i h0 h1
  have hc : ∀ j u, c[j]? = some u → w.cell? (ad.add (i.toNat * 5 + j)) = some u := hc0
  obtain ⟨A0, c0, A3, c3, rfl, l0, g0, l3, g3⟩ := k119_open hK
  exact ⟨ad, A0, c0, A3, c3, e, hc 0 _ rfl, by rw [← add_field _ _ 1 (by omega)]; exact hc 1 _ rfl, by rw [← add_field _ _ 2 (by omega)]; exact hc 2 _ rfl, by rw [← add_field _ _ 3 (by omega)]; exact hc 3 _ rfl, by rw [← add_field _ _ 4 (by omega)]; exact hc 4 _ rfl, l0, g0, l3, g3⟩
structure S121 where
  f0 : Int
  f1 : S119
  f2 : S114
def z121 : S121 := ⟨(0 : Int), z119, z114⟩
def k121 : Kd S121 := Kd.iso (Kd.pair (Kd.int .i64) (Kd.pair k119 k114)) (fun x : S121 => (x.f0, x.f1, x.f2))
theorem k121_open {w : World} {x : S121} {cs : List Value} (h : k121.K w x cs) : ∃ A1 c1 A4 c4, cs = [.int .i64 x.f0, .slice A1 x.f1.f0.f0.length c1, .int .i64 x.f1.f0.f1.f0, .string x.f1.f0.f1.f1, .slice A4 x.f1.f1.length c4, .int .i64 x.f1.f2, .int .i64 x.f2.f0, .string x.f2.f1] ∧ x.f1.f0.f0.length ≤ c1 ∧ Kd.string.C w A1 x.f1.f0.f0.length x.f1.f0.f0 ∧ x.f1.f1.length ≤ c4 ∧ (Kd.int .u8).C w A4 x.f1.f1.length x.f1.f1 := by
  obtain ⟨_, _, rfl, rfl, ⟨_, _, rfl, s1, s6⟩⟩ := h
  obtain ⟨A1, c1, A4, c4, rfl, l1, g1, l4, g4⟩ := k119_open s1
  obtain rfl := k114_open s6
  exact ⟨A1, c1, A4, c4, rfl, l1, g1, l4, g4⟩
theorem k121_openM {w : World} {base : Nat} {ok : Nat → Prop} {x : S121} {cs : List Value} (h : k121.M w base ok x cs) : ∃ v1 v4, cs = [.int .i64 x.f0, v1, .int .i64 x.f1.f0.f1.f0, .string x.f1.f0.f1.f1, v4, .int .i64 x.f1.f2, .int .i64 x.f2.f0, .string x.f2.f1] ∧ Kd.string.R 9 w base ok v1 x.f1.f0.f0 ∧ (Kd.int .u8).R 5 w base ok v4 x.f1.f1 := by
  obtain ⟨_, _, rfl, rfl, ⟨_, _, rfl, s1, s6⟩⟩ := h
  obtain ⟨v1, v4, rfl, g1, g4⟩ := k119_openM s1
  obtain rfl := k114_openM s6
  exact ⟨v1, v4, rfl, g1, g4⟩
theorem k121_mk (w : World) (x : S121) {A1 : Option Addr} {c1 : Nat} (l1 : x.f1.f0.f0.length ≤ c1) (g1 : Kd.string.C w A1 x.f1.f0.f0.length x.f1.f0.f0) {A4 : Option Addr} {c4 : Nat} (l4 : x.f1.f1.length ≤ c4) (g4 : (Kd.int .u8).C w A4 x.f1.f1.length x.f1.f1) : k121.K w x [.int .i64 x.f0, .slice A1 x.f1.f0.f0.length c1, .int .i64 x.f1.f0.f1.f0, .string x.f1.f0.f1.f1, .slice A4 x.f1.f1.length c4, .int .i64 x.f1.f2, .int .i64 x.f2.f0, .string x.f2.f1] := ⟨[.int .i64 x.f0], [.slice A1 x.f1.f0.f0.length c1, .int .i64 x.f1.f0.f1.f0, .string x.f1.f0.f1.f1, .slice A4 x.f1.f1.length c4, .int .i64 x.f1.f2, .int .i64 x.f2.f0, .string x.f2.f1], rfl, rfl, ⟨[.slice A1 x.f1.f0.f0.length c1, .int .i64 x.f1.f0.f1.f0, .string x.f1.f0.f1.f1, .slice A4 x.f1.f1.length c4, .int .i64 x.f1.f2], [.int .i64 x.f2.f0, .string x.f2.f1], rfl, (k119_mk w x.f1 l1 g1 l4 g4), (k114_mk w x.f2 )⟩⟩
theorem k121_mkM (w : World) (base : Nat) (ok : Nat → Prop) (x : S121) {v1 : Value} (g1 : Kd.string.R 9 w base ok v1 x.f1.f0.f0) {v4 : Value} (g4 : (Kd.int .u8).R 5 w base ok v4 x.f1.f1) : k121.M w base ok x [.int .i64 x.f0, v1, .int .i64 x.f1.f0.f1.f0, .string x.f1.f0.f1.f1, v4, .int .i64 x.f1.f2, .int .i64 x.f2.f0, .string x.f2.f1] := ⟨[.int .i64 x.f0], [v1, .int .i64 x.f1.f0.f1.f0, .string x.f1.f0.f1.f1, v4, .int .i64 x.f1.f2, .int .i64 x.f2.f0, .string x.f2.f1], rfl, rfl, ⟨[v1, .int .i64 x.f1.f0.f1.f0, .string x.f1.f0.f1.f1, v4, .int .i64 x.f1.f2], [.int .i64 x.f2.f0, .string x.f2.f1], rfl, (k119_mkM w base ok x.f1 g1 g4), (k114_mkM w base ok x.f2 )⟩⟩
def rd_T121 (xs : List S121) (i : Int) : S121 := xs.getD i.toNat z121
theorem at_T121 {w : World} {A : Option Addr} {n : Nat} {xs : List S121} (h : Kd.C k121 w A n xs) (i : Int) (h0 : 0 ≤ i) (h1 : i < n) : ∃ ad A1 c1 A4 c4, A = some ad ∧ w.cell? (ad.add (i.toNat * 8)) = some (.int .i64 (rd_T121 xs i).f0) ∧ w.cell? ⟨(ad.add (i.toNat * 8)).block, (ad.add (i.toNat * 8)).off + 1, none⟩ = some (.slice A1 (rd_T121 xs i).f1.f0.f0.length c1) ∧ w.cell? ⟨(ad.add (i.toNat * 8)).block, (ad.add (i.toNat * 8)).off + 2, none⟩ = some (.int .i64 (rd_T121 xs i).f1.f0.f1.f0) ∧ w.cell? ⟨(ad.add (i.toNat * 8)).block, (ad.add (i.toNat * 8)).off + 3, none⟩ = some (.string (rd_T121 xs i).f1.f0.f1.f1) ∧ w.cell? ⟨(ad.add (i.toNat * 8)).block, (ad.add (i.toNat * 8)).off + 4, none⟩ = some (.slice A4 (rd_T121 xs i).f1.f1.length c4) ∧ w.cell? ⟨(ad.add (i.toNat * 8)).block, (ad.add (i.toNat * 8)).off + 5, none⟩ = some (.int .i64 (rd_T121 xs i).f1.f2) ∧ w.cell? ⟨(ad.add (i.toNat * 8)).block, (ad.add (i.toNat * 8)).off + 6, none⟩ = some (.int .i64 (rd_T121 xs i).f2.f0) ∧ w.cell? ⟨(ad.add (i.toNat * 8)).block, (ad.add (i.toNat * 8)).off + 7, none⟩ = some (.string (rd_T121 xs i).f2.f1) ∧ (rd_T121 xs i).f1.f0.f0.length ≤ c1 ∧ Kd.string.C w A1 (rd_T121 xs i).f1.f0.f0.length (rd_T121 xs i).f1.f0.f0 ∧ (rd_T121 xs i).f1.f1.length ≤ c4 ∧ (Kd.int .u8).C w A4 (rd_T121 xs i).f1.f1.length (rd_T121 xs i).f1.f1 := by
  obtain ⟨ad, c, e, _, hK, hc0⟩ := Kd.C_get h z121 i h0 h1
  have hc : ∀ j u, c[j]? = some u → w.cell? (ad.add (i.toNat * 8 + j)) = some u := hc0
  obtain ⟨A1, c1, A4, c4, rfl, l1, g1, l4, g4⟩ := k121_open hK
  exact ⟨ad, A1, c1, A4, c4, e, hc 0 _ rfl, by rw [← add_field _ _ 1 (by omega)]; exact hc 1 _ rfl, by rw [← add_field _ _ 2 (by omega)]; exact hc 2 _ rfl, by rw [← add_field _ _ 3 (by omega)]; exact hc 3 _ rfl, by rw [← add_field _ _ 4 (by omega)]; exact hc 4 _ rfl, by rw [← add_field _ _ 5 (by omega)]; exact hc 5 _ rfl, by rw [← add_field _ _ 6 (by omega)]; exact hc 6 _ rfl, by rw [← add_field _ _ 7 (by omega)]; exact hc 7 _ rfl, l1, g1, l4, g4⟩
structure S124 where
  f0 : Int
  f1 : Int
  f2 : Int
  f3 : S114
  f4 : Int
  f5 : (List ByteArray)
def z124 : S124 := ⟨(0 : Int), (0 : Int), (0 : Int), z114, (0 : Int), ([] : List ByteArray)⟩
def k124 : Kd S124 := Kd.iso (Kd.pair (Kd.int .i64) (Kd.pair (Kd.int .i64) (Kd.pair (Kd.int .i64) (Kd.pair k114 (Kd.pair (Kd.int .i64) (Kd.slice 9 Kd.string)))))) (fun x : S124 => (x.f0, x.f1, x.f2, x.f3, x.f4, x.f5))
theorem k124_open {w : World} {x : S124} {cs : List Value} (h : k124.K w x cs) : ∃ A6 c6, cs = [.int .i64 x.f0, .int .i64 x.f1, .int .i64 x.f2, .int .i64 x.f3.f0, .string x.f3.f1, .int .i64 x.f4, .slice A6 x.f5.length c6] ∧ x.f5.length ≤ c6 ∧ Kd.string.C w A6 x.f5.length x.f5 := by
  obtain ⟨_, _, rfl, rfl, ⟨_, _, rfl, rfl, ⟨_, _, rfl, rfl, ⟨_, _, rfl, s3, ⟨_, _, rfl, rfl, ⟨A6, c6, rfl, l6, g6⟩⟩⟩⟩⟩⟩ := h
  obtain rfl := k114_open s3
  exact ⟨A6, c6, rfl, l6, g6⟩
theorem k124_openM {w : World} {base : Nat} {ok : Nat → Prop} {x : S124} {cs : List Value} (h : k124.M w base ok x cs) : ∃ v6, cs = [.int .i64 x.f0, .int .i64 x.f1, .int .i64 x.f2, .int .i64 x.f3.f0, .string x.f3.f1, .int .i64 x.f4, v6] ∧ Kd.string.R 9 w base ok v6 x.f5 := by
  obtain ⟨_, _, rfl, rfl, ⟨_, _, rfl, rfl, ⟨_, _, rfl, rfl, ⟨_, _, rfl, s3, ⟨_, _, rfl, rfl, ⟨v6, rfl, g6⟩⟩⟩⟩⟩⟩ := h
  obtain rfl := k114_openM s3
  exact ⟨v6, rfl, g6⟩
theorem k124_mk (w : World) (x : S124) {A6 : Option Addr} {c6 : Nat} (l6 : x.f5.length ≤ c6) (g6 : Kd.string.C w A6 x.f5.length x.f5) : k124.K w x [.int .i64 x.f0, .int .i64 x.f1, .int .i64 x.f2, .int .i64 x.f3.f0, .string x.f3.f1, .int .i64 x.f4, .slice A6 x.f5.length c6] := ⟨[.int .i64 x.f0], [.int .i64 x.f1, .int .i64 x.f2, .int .i64 x.f3.f0, .string x.f3.f1, .int .i64 x.f4, .slice A6 x.f5.length c6], rfl, rfl, ⟨[.int .i64 x.f1], [.int .i64 x.f2, .int .i64 x.f3.f0, .string x.f3.f1, .int .i64 x.f4, .slice A6 x.f5.length c6], rfl, rfl, ⟨[.int .i64 x.f2], [.int .i64 x.f3.f0, .string x.f3.f1, .int .i64 x.f4, .slice A6 x.f5.length c6], rfl, rfl, ⟨[.int .i64 x.f3.f0, .string x.f3.f1], [.int .i64 x.f4, .slice A6 x.f5.length c6], rfl, (k114_mk w x.f3 ), ⟨[.int .i64 x.f4], [.slice A6 x.f5.length c6], rfl, rfl, ⟨A6, c6, rfl, l6, g6⟩⟩⟩⟩⟩⟩
theorem k124_mkM (w : World) (base : Nat) (ok : Nat → Prop) (x : S124) {v6 : Value} (g6 : Kd.string.R 9 w base ok v6 x.f5) : k124.M w base ok x [.int .i64 x.f0, .int .i64 x.f1, .int .i64 x.f2, .int .i64 x.f3.f0, .string x.f3.f1, .int .i64 x.f4, v6] := ⟨[.int .i64 x.f0], [.int .i64 x.f1, .int .i64 x.f2, .int .i64 x.f3.f0, .string x.f3.f1, .int .i64 x.f4, v6], rfl, rfl, ⟨[.int .i64 x.f1], [.int .i64 x.f2, .int .i64 x.f3.f0, .string x.f3.f1, .int .i64 x.f4, v6], rfl, rfl, ⟨[.int .i64 x.f2], [.int .i64 x.f3.f0, .string x.f3.f1, .int .i64 x.f4, v6], rfl, rfl, ⟨[.int .i64 x.f3.f0, .string x.f3.f1], [.int .i64 x.f4, v6], rfl, (k114_mkM w base ok x.f3 ), ⟨[.int .i64 x.f4], [v6], rfl, rfl, ⟨v6, rfl, g6⟩⟩⟩⟩⟩⟩
def rd_T124 (xs : List S124) (i : Int) : S124 := xs.getD i.toNat z124
theorem at_T124 {w : World} {A : Option Addr} {n : Nat} {xs : List S124} (h : Kd.C k124 w A n xs) (i : Int) (h0 : 0 ≤ i) (h1 : i < n) : ∃ ad A6 c6, A = some ad ∧ w.cell? (ad.add (i.toNat * 7)) = some (.int .i64 (rd_T124 xs i).f0) ∧ w.cell? ⟨(ad.add (i.toNat * 7)).block, (ad.add (i.toNat * 7)).off + 1, none⟩ = some (.int .i64 (rd_T124 xs i).f1) ∧ w.cell? ⟨(ad.add (i.toNat * 7)).block, (ad.add (i.toNat * 7)).off + 2, none⟩ = some (.int .i64 (rd_T124 xs i).f2) ∧ w.cell? ⟨(ad.add (i.toNat * 7)).block, (ad.add (i.toNat * 7)).off + 3, none⟩ = some (.int .i64 (rd_T124 xs i).f3.f0) ∧ w.cell? ⟨(ad.add (i.toNat * 7)).block, (ad.add (i.toNat * 7)).off + 4, none⟩ = some (.string (rd_T124 xs i).f3.f1) ∧ w.cell? ⟨(ad.add (i.toNat * 7)).block, (ad.add (i.toNat * 7)).off + 5, none⟩ = some (.int .i64 (rd_T124 xs i).f4) ∧ w.cell? ⟨(ad.add (i.toNat * 7)).block, (ad.add (i.toNat * 7)).off + 6, none⟩ = some (.slice A6 (rd_T124 xs i).f5.length c6) ∧ (rd_T124 xs i).f5.length ≤ c6 ∧ Kd.string.C w A6 (rd_T124 xs i).f5.length (rd_T124 xs i).f5 := by
  obtain ⟨ad, c, e, _, hK, hc0⟩ := Kd.C_get h z124 i h0 h1
  have hc : ∀ j u, c[j]? = some u → w.cell? (ad.add (i.toNat * 7 + j)) = some u := hc0
  obtain ⟨A6, c6, rfl, l6, g6⟩ := k124_open hK
  exact ⟨ad, A6, c6, e, hc 0 _ rfl, by rw [← add_field _ _ 1 (by omega)]; exact hc 1 _ rfl, by rw [← add_field _ _ 2 (by omega)]; exact hc 2 _ rfl, by rw [← add_field _ _ 3 (by omega)]; exact hc 3 _ rfl, by rw [← add_field _ _ 4 (by omega)]; exact hc 4 _ rfl, by rw [← add_field _ _ 5 (by omega)]; exact hc 5 _ rfl, by rw [← add_field _ _ 6 (by omega)]; exact hc 6 _ rfl, l6, g6⟩
structure S91 where
  f0 : Int
  f1 : ByteArray
def z91 : S91 := ⟨(0 : Int), (⟨#[]⟩ : ByteArray)⟩
def k91 : Kd S91 := Kd.iso (Kd.pair (Kd.int .i64) Kd.string) (fun x : S91 => (x.f0, x.f1))
theorem k91_open {w : World} {x : S91} {cs : List Value} (h : k91.K w x cs) : cs = [.int .i64 x.f0, .string x.f1] := by
  obtain ⟨_, _, rfl, rfl, rfl⟩ := h
  exact rfl
theorem k91_openM {w : World} {base : Nat} {ok : Nat → Prop} {x : S91} {cs : List Value} (h : k91.M w base ok x cs) : cs = [.int .i64 x.f0, .string x.f1] := by
  obtain ⟨_, _, rfl, rfl, rfl⟩ := h
  exact rfl
theorem k91_mk (w : World) (x : S91)  : k91.K w x [.int .i64 x.f0, .string x.f1] := ⟨[.int .i64 x.f0], [.string x.f1], rfl, rfl, rfl⟩
theorem k91_mkM (w : World) (base : Nat) (ok : Nat → Prop) (x : S91)  : k91.M w base ok x [.int .i64 x.f0, .string x.f1] := ⟨[.int .i64 x.f0], [.string x.f1], rfl, rfl, rfl⟩
def rd_T91 (xs : List S91) (i : Int) : S91 := xs.getD i.toNat z91
theorem at_T91 {w : World} {A : Option Addr} {n : Nat} {xs : List S91} (h : Kd.C k91 w A n xs) (i : Int) (h0 : 0 ≤ i) (h1 : i < n) : ∃ ad , A = some ad ∧ w.cell? (ad.add (i.toNat * 2)) = some (.int .i64 (rd_T91 xs i).f0) ∧ w.cell? ⟨(ad.add (i.toNat * 2)).block, (ad.add (i.toNat * 2)).off + 1, none⟩ = some (.string (rd_T91 xs i).f1) := by
  obtain ⟨ad, c, e, _, hK, hc0⟩ := Kd.C_get h z91 i h0 h1
  have hc : ∀ j u, c[j]? = some u → w.cell? (ad.add (i.toNat * 2 + j)) = some u := hc0
  obtain rfl := k91_open hK
  exact ⟨ad, e, hc 0 _ rfl, by rw [← add_field _ _ 1 (by omega)]; exact hc 1 _ rfl⟩
structure S105 where
  f0 : (List ByteArray)
  f1 : S91
def z105 : S105 := ⟨([] : List ByteArray), z91⟩
def k105 : Kd S105 := Kd.iso (Kd.pair (Kd.slice 9 Kd.string) k91) (fun x : S105 => (x.f0, x.f1))
theorem k105_open {w : World} {x : S105} {cs : List Value} (h : k105.K w x cs) : ∃ A0 c0, cs = [.slice A0 x.f0.length c0, .int .i64 x.f1.f0, .string x.f1.f1] ∧ x.f0.length ≤ c0 ∧ Kd.string.C w A0 x.f0.length x.f0 := by
  obtain ⟨_, _, rfl, ⟨A0, c0, rfl, l0, g0⟩, s1⟩ := h
  obtain rfl := k91_open s1
  exact ⟨A0, c0, rfl, l0, g0⟩
theorem k105_openM {w : World} {base : Nat} {ok : Nat → Prop} {x : S105} {cs : List Value} (h : k105.M w base ok x cs) : ∃ v0, cs = [v0, .int .i64 x.f1.f0, .string x.f1.f1] ∧ Kd.string.R 9 w base ok v0 x.f0 := by
  obtain ⟨_, _, rfl, ⟨v0, rfl, g0⟩, s1⟩ := h
  obtain rfl := k91_openM s1
  exact ⟨v0, rfl, g0⟩
theorem k105_mk (w : World) (x : S105) {A0 : Option Addr} {c0 : Nat} (l0 : x.f0.length ≤ c0) (g0 : Kd.string.C w A0 x.f0.length x.f0) : k105.K w x [.slice A0 x.f0.length c0, .int .i64 x.f1.f0, .string x.f1.f1] := ⟨[.slice A0 x.f0.length c0], [.int .i64 x.f1.f0, .string x.f1.f1], rfl, ⟨A0, c0, rfl, l0, g0⟩, (k91_mk w x.f1 )⟩
theorem k105_mkM (w : World) (base : Nat) (ok : Nat → Prop) (x : S105) {v0 : Value} (g0 : Kd.string.R 9 w base ok v0 x.f0) : k105.M w base ok x [v0, .int .i64 x.f1.f0, .string x.f1.f1] := ⟨[v0], [.int .i64 x.f1.f0, .string x.f1.f1], rfl, ⟨v0, rfl, g0⟩, (k91_mkM w base ok x.f1 )⟩
def rd_T105 (xs : List S105) (i : Int) : S105 := xs.getD i.toNat z105
theorem at_T105 {w : World} {A : Option Addr} {n : Nat} {xs : List S105} (h : Kd.C k105 w A n xs) (i : Int) (h0 : 0 ≤ i) (h1 : i < n) : ∃ ad A0 c0, A = some ad ∧ w.cell? (ad.add (i.toNat * 3)) = some (.slice A0 (rd_T105 xs i).f0.length c0) ∧ w.cell? ⟨(ad.add (i.toNat * 3)).block, (ad.add (i.toNat * 3)).off + 1, none⟩ = some (.int .i64 (rd_T105 xs i).f1.f0) ∧ w.cell? ⟨(ad.add (i.toNat * 3)).block, (ad.add (i.toNat * 3)).off + 2, none⟩ = some (.string (rd_T105 xs i).f1.f1) ∧ (rd_T105 xs i).f0.length ≤ c0 ∧ Kd.string.C w A0 (rd_T105 xs i).f0.length (rd_T105 xs i).f0 := by
  obtain ⟨ad, c, e, _, hK, hc0⟩ := Kd.C_get h z105 i h0 h1
  have hc : ∀ j u, c[j]? = some u → w.cell? (ad.add (i.toNat * 3 + j)) = some u := hc0
  obtain ⟨A0, c0, rfl, l0, g0⟩ := k105_open hK
  exact ⟨ad, A0, c0, e, hc 0 _ rfl, by rw [← add_field _ _ 1 (by omega)]; exact hc 1 _ rfl, by rw [← add_field _ _ 2 (by omega)]; exact hc 2 _ rfl, l0, g0⟩
structure S108 where
  f0 : S105
  f1 : (List Int)
  f2 : Int
def z108 : S108 := ⟨z105, ([] : List Int), (0 : Int)⟩
def k108 : Kd S108 := Kd.iso (Kd.pair k105 (Kd.pair (Kd.slice 5 (Kd.int .u8)) (Kd.int .i64))) (fun x : S108 => (x.f0, x.f1, x.f2))
theorem k108_open {w : World} {x : S108} {cs : List Value} (h : k108.K w x cs) : ∃ A0 c0 A3 c3, cs = [.slice A0 x.f0.f0.length c0, .int .i64 x.f0.f1.f0, .string x.f0.f1.f1, .slice A3 x.f1.length c3, .int .i64 x.f2] ∧ x.f0.f0.length ≤ c0 ∧ Kd.string.C w A0 x.f0.f0.length x.f0.f0 ∧ x.f1.length ≤ c3 ∧ (Kd.int .u8).C w A3 x.f1.length x.f1 := by
  obtain ⟨_, _, rfl, s0, ⟨_, _, rfl, ⟨A3, c3, rfl, l3, g3⟩, rfl⟩⟩ := h
  obtain ⟨A0, c0, rfl, l0, g0⟩ := k105_open s0
  exact ⟨A0, c0, A3, c3, rfl, l0, g0, l3, g3⟩
theorem k108_openM {w : World} {base : Nat} {ok : Nat → Prop} {x : S108} {cs : List Value} (h : k108.M w base ok x cs) : ∃ v0 v3, cs = [v0, .int .i64 x.f0.f1.f0, .string x.f0.f1.f1, v3, .int .i64 x.f2] ∧ Kd.string.R 9 w base ok v0 x.f0.f0 ∧ (Kd.int .u8).R 5 w base ok v3 x.f1 := by
  obtain ⟨_, _, rfl, s0, ⟨_, _, rfl, ⟨v3, rfl, g3⟩, rfl⟩⟩ := h
  obtain ⟨v0, rfl, g0⟩ := k105_openM s0
  exact ⟨v0, v3, rfl, g0, g3⟩
theorem k108_mk (w : World) (x : S108) {A0 : Option Addr} {c0 : Nat} (l0 : x.f0.f0.length ≤ c0) (g0 : Kd.string.C w A0 x.f0.f0.length x.f0.f0) {A3 : Option Addr} {c3 : Nat} (l3 : x.f1.length ≤ c3) (g3 : (Kd.int .u8).C w A3 x.f1.length x.f1) : k108.K w x [.slice A0 x.f0.f0.length c0, .int .i64 x.f0.f1.f0, .string x.f0.f1.f1, .slice A3 x.f1.length c3, .int .i64 x.f2] := ⟨[.slice A0 x.f0.f0.length c0, .int .i64 x.f0.f1.f0, .string x.f0.f1.f1], [.slice A3 x.f1.length c3, .int .i64 x.f2], rfl, (k105_mk w x.f0 l0 g0), ⟨[.slice A3 x.f1.length c3], [.int .i64 x.f2], rfl, ⟨A3, c3, rfl, l3, g3⟩, rfl⟩⟩
theorem k108_mkM (w : World) (base : Nat) (ok : Nat → Prop) (x : S108) {v0 : Value} (g0 : Kd.string.R 9 w base ok v0 x.f0.f0) {v3 : Value} (g3 : (Kd.int .u8).R 5 w base ok v3 x.f1) : k108.M w base ok x [v0, .int .i64 x.f0.f1.f0, .string x.f0.f1.f1, v3, .int .i64 x.f2] := ⟨[v0, .int .i64 x.f0.f1.f0, .string x.f0.f1.f1], [v3, .int .i64 x.f2], rfl, (k105_mkM w base ok x.f0 g0), ⟨[v3], [.int .i64 x.f2], rfl, ⟨v3, rfl, g3⟩, rfl⟩⟩
def rd_T108 (xs : List S108) (i : Int) : S108 := xs.getD i.toNat z108
theorem at_T108 {w : World} {A : Option Addr} {n : Nat} {xs : List S108} (h : Kd.C k108 w A n xs) (i : Int) (h0 : 0 ≤ i) (h1 : i < n) : ∃ ad A0 c0 A3 c3, A = some ad ∧ w.cell? (ad.add (i.toNat * 5)) = some (.slice A0 (rd_T108 xs i).f0.f0.length c0) ∧ w.cell? ⟨(ad.add (i.toNat * 5)).block, (ad.add (i.toNat * 5)).off + 1, none⟩ = some (.int .i64 (rd_T108 xs i).f0.f1.f0) ∧ w.cell? ⟨(ad.add (i.toNat * 5)).block, (ad.add (i.toNat * 5)).off + 2, none⟩ = some (.string (rd_T108 xs i).f0.f1.f1) ∧ w.cell? ⟨(ad.add (i.toNat * 5)).block, (ad.add (i.toNat * 5)).off + 3, none⟩ = some (.slice A3 (rd_T108 xs i).f1.length c3) ∧ w.cell? ⟨(ad.add (i.toNat * 5)).block, (ad.add (i.toNat * 5)).off + 4, none⟩ = some (.int .i64 (rd_T108 xs i).f2) ∧ (rd_T108 xs i).f0.f0.length ≤ c0 ∧ Kd.string.C w A0 (rd_T108 xs i).f0.f0.length (rd_T108 xs i).f0.f0 ∧ (rd_T108 xs i).f1.length ≤ c3 ∧ (Kd.int .u8).C w A3 (rd_T108 xs i).f1.length (rd_T108 xs i).f1 := by
  obtain ⟨ad, c, e, _, hK, hc0⟩ := Kd.C_get h z108 i h0 h1
  have hc : ∀ j u, c[j]? = some u → w.cell? (ad.add (i.toNat * 5 + j)) = some u := hc0
  obtain ⟨A0, c0, A3, c3, rfl, l0, g0, l3, g3⟩ := k108_open hK
  exact ⟨ad, A0, c0, A3, c3, e, hc 0 _ rfl, by rw [← add_field _ _ 1 (by omega)]; exact hc 1 _ rfl, by rw [← add_field _ _ 2 (by omega)]; exact hc 2 _ rfl, by rw [← add_field _ _ 3 (by omega)]; exact hc 3 _ rfl, by rw [← add_field _ _ 4 (by omega)]; exact hc 4 _ rfl, l0, g0, l3, g3⟩
structure S110 where
  f0 : Int
  f1 : S108
  f2 : S91
def z110 : S110 := ⟨(0 : Int), z108, z91⟩
def k110 : Kd S110 := Kd.iso (Kd.pair (Kd.int .i64) (Kd.pair k108 k91)) (fun x : S110 => (x.f0, x.f1, x.f2))
theorem k110_open {w : World} {x : S110} {cs : List Value} (h : k110.K w x cs) : ∃ A1 c1 A4 c4, cs = [.int .i64 x.f0, .slice A1 x.f1.f0.f0.length c1, .int .i64 x.f1.f0.f1.f0, .string x.f1.f0.f1.f1, .slice A4 x.f1.f1.length c4, .int .i64 x.f1.f2, .int .i64 x.f2.f0, .string x.f2.f1] ∧ x.f1.f0.f0.length ≤ c1 ∧ Kd.string.C w A1 x.f1.f0.f0.length x.f1.f0.f0 ∧ x.f1.f1.length ≤ c4 ∧ (Kd.int .u8).C w A4 x.f1.f1.length x.f1.f1 := by
  obtain ⟨_, _, rfl, rfl, ⟨_, _, rfl, s1, s6⟩⟩ := h
  obtain ⟨A1, c1, A4, c4, rfl, l1, g1, l4, g4⟩ := k108_open s1
  obtain rfl := k91_open s6
  exact ⟨A1, c1, A4, c4, rfl, l1, g1, l4, g4⟩
theorem k110_openM {w : World} {base : Nat} {ok : Nat → Prop} {x : S110} {cs : List Value} (h : k110.M w base ok x cs) : ∃ v1 v4, cs = [.int .i64 x.f0, v1, .int .i64 x.f1.f0.f1.f0, .string x.f1.f0.f1.f1, v4, .int .i64 x.f1.f2, .int .i64 x.f2.f0, .string x.f2.f1] ∧ Kd.string.R 9 w base ok v1 x.f1.f0.f0 ∧ (Kd.int .u8).R 5 w base ok v4 x.f1.f1 := by
  obtain ⟨_, _, rfl, rfl, ⟨_, _, rfl, s1, s6⟩⟩ := h
  obtain ⟨v1, v4, rfl, g1, g4⟩ := k108_openM s1
  obtain rfl := k91_openM s6
  exact ⟨v1, v4, rfl, g1, g4⟩
theorem k110_mk (w : World) (x : S110) {A1 : Option Addr} {c1 : Nat} (l1 : x.f1.f0.f0.length ≤ c1) (g1 : Kd.string.C w A1 x.f1.f0.f0.length x.f1.f0.f0) {A4 : Option Addr} {c4 : Nat} (l4 : x.f1.f1.length ≤ c4) (g4 : (Kd.int .u8).C w A4 x.f1.f1.length x.f1.f1) : k110.K w x [.int .i64 x.f0, .slice A1 x.f1.f0.f0.length c1, .int .i64 x.f1.f0.f1.f0, .string x.f1.f0.f1.f1, .slice A4 x.f1.f1.length c4, .int .i64 x.f1.f2, .int .i64 x.f2.f0, .string x.f2.f1] := ⟨[.int .i64 x.f0], [.slice A1 x.f1.f0.f0.length c1, .int .i64 x.f1.f0.f1.f0, .string x.f1.f0.f1.f1, .slice A4 x.f1.f1.length c4, .int .i64 x.f1.f2, .int .i64 x.f2.f0, .string x.f2.f1], rfl, rfl, ⟨[.slice A1 x.f1.f0.f0.length c1, .int .i64 x.f1.f0.f1.f0, .string x.f1.f0.f1.f1, .slice A4 x.f1.f1.length c4, .int .i64 x.f1.f2], [.int .i64 x.f2.f0, .string x.f2.f1], rfl, (k108_mk w x.f1 l1 g1 l4 g4), (k91_mk w x.f2 )⟩⟩
theorem k110_mkM (w : World) (base : Nat) (ok : Nat → Prop) (x : S110) {v1 : Value} (g1 : Kd.string.R 9 w base ok v1 x.f1.f0.f0) {v4 : Value} (g4 : (Kd.int .u8).R 5 w base ok v4 x.f1.f1) : k110.M w base ok x [.int .i64 x.f0, v1, .int .i64 x.f1.f0.f1.f0, .string x.f1.f0.f1.f1, v4, .int .i64 x.f1.f2, .int .i64 x.f2.f0, .string x.f2.f1] := ⟨[.int .i64 x.f0], [v1, .int .i64 x.f1.f0.f1.f0, .string x.f1.f0.f1.f1, v4, .int .i64 x.f1.f2, .int .i64 x.f2.f0, .string x.f2.f1], rfl, rfl, ⟨[v1, .int .i64 x.f1.f0.f1.f0, .string x.f1.f0.f1.f1, v4, .int .i64 x.f1.f2], [.int .i64 x.f2.f0, .string x.f2.f1], rfl, (k108_mkM w base ok x.f1 g1 g4), (k91_mkM w base ok x.f2 )⟩⟩
def rd_T110 (xs : List S110) (i : Int) : S110 := xs.getD i.toNat z110
theorem at_T110 {w : World} {A : Option Addr} {n : Nat} {xs : List S110} (h : Kd.C k110 w A n xs) (i : Int) (h0 : 0 ≤ i) (h1 : i < n) : ∃ ad A1 c1 A4 c4, A = some ad ∧ w.cell? (ad.add (i.toNat * 8)) = some (.int .i64 (rd_T110 xs i).f0) ∧ w.cell? ⟨(ad.add (i.toNat * 8)).block, (ad.add (i.toNat * 8)).off + 1, none⟩ = some (.slice A1 (rd_T110 xs i).f1.f0.f0.length c1) ∧ w.cell? ⟨(ad.add (i.toNat * 8)).block, (ad.add (i.toNat * 8)).off + 2, none⟩ = some (.int .i64 (rd_T110 xs i).f1.f0.f1.f0) ∧ w.cell? ⟨(ad.add (i.toNat * 8)).block, (ad.add (i.toNat * 8)).off + 3, none⟩ = some (.string (rd_T110 xs i).f1.f0.f1.f1) ∧ w.cell? ⟨(ad.add (i.toNat * 8)).block, (ad.add (i.toNat * 8)).off + 4, none⟩ = some (.slice A4 (rd_T110 xs i).f1.f1.length c4) ∧ w.cell? ⟨(ad.add (i.toNat * 8)).block, (ad.add (i.toNat * 8)).off + 5, none⟩ = some (.int .i64 (rd_T110 xs i).f1.f2) ∧ w.cell? ⟨(ad.add (i.toNat * 8)).block, (ad.add (i.toNat * 8)).off + 6, none⟩ = some (.int .i64 (rd_T110 xs i).f2.f0) ∧ w.cell? ⟨(ad.add (i.toNat * 8)).block, (ad.add (i.toNat * 8)).off + 7, none⟩ = some (.string (rd_T110 xs i).f2.f1) ∧ (rd_T110 xs i).f1.f0.f0.length ≤ c1 ∧ Kd.string.C w A1 (rd_T110 xs i).f1.f0.f0.length (rd_T110 xs i).f1.f0.f0 ∧ (rd_T110 xs i).f1.f1.length ≤ c4 ∧ (Kd.int .u8).C w A4 (rd_T110 xs i).f1.f1.length (rd_T110 xs i).f1.f1 := by
  obtain ⟨ad, c, e, _, hK, hc0⟩ := Kd.C_get h z110 i h0 h1
  have hc : ∀ j u, c[j]? = some u → w.cell? (ad.add (i.toNat * 8 + j)) = some u := hc0
  obtain ⟨A1, c1, A4, c4, rfl, l1, g1, l4, g4⟩ := k110_open hK
  exact ⟨ad, A1, c1, A4, c4, e, hc 0 _ rfl, by rw [← add_field _ _ 1 (by omega)]; exact hc 1 _ rfl, by rw [← add_field _ _ 2 (by omega)]; exact hc 2 _ rfl, by rw [← add_field _ _ 3 (by omega)]; exact hc 3 _ rfl, by rw [← add_field _ _ 4 (by omega)]; exact hc 4 _ rfl, by rw [← add_field _ _ 5 (by omega)]; exact hc 5 _ rfl, by rw [← add_field _ _ 6 (by omega)]; exact hc 6 _ rfl, by rw [← add_field _ _ 7 (by omega)]; exact hc 7 _ rfl, l1, g1, l4, g4⟩
structure S128 where
  f0 : Int
  f1 : Int
  f2 : Int
  f3 : S91
  f4 : Int
  f5 : (List ByteArray)
def z128 : S128 := ⟨(0 : Int), (0 : Int), (0 : Int), z91, (0 : Int), ([] : List ByteArray)⟩
def k128 : Kd S128 := Kd.iso (Kd.pair (Kd.int .i64) (Kd.pair (Kd.int .i64) (Kd.pair (Kd.int .i64) (Kd.pair k91 (Kd.pair (Kd.int .i64) (Kd.slice 9 Kd.string)))))) (fun x : S128 => (x.f0, x.f1, x.f2, x.f3, x.f4, x.f5))
theorem k128_open {w : World} {x : S128} {cs : List Value} (h : k128.K w x cs) : ∃ A6 c6, cs = [.int .i64 x.f0, .int .i64 x.f1, .int .i64 x.f2, .int .i64 x.f3.f0, .string x.f3.f1, .int .i64 x.f4, .slice A6 x.f5.length c6] ∧ x.f5.length ≤ c6 ∧ Kd.string.C w A6 x.f5.length x.f5 := by
  obtain ⟨_, _, rfl, rfl, ⟨_, _, rfl, rfl, ⟨_, _, rfl, rfl, ⟨_, _, rfl, s3, ⟨_, _, rfl, rfl, ⟨A6, c6, rfl, l6, g6⟩⟩⟩⟩⟩⟩ := h
  obtain rfl := k91_open s3
  exact ⟨A6, c6, rfl, l6, g6⟩
theorem k128_openM {w : World} {base : Nat} {ok : Nat → Prop} {x : S128} {cs : List Value} (h : k128.M w base ok x cs) : ∃ v6, cs = [.int .i64 x.f0, .int .i64 x.f1, .int .i64 x.f2, .int .i64 x.f3.f0, .string x.f3.f1, .int .i64 x.f4, v6] ∧ Kd.string.R 9 w base ok v6 x.f5 := by
  obtain ⟨_, _, rfl, rfl, ⟨_, _, rfl, rfl, ⟨_, _, rfl, rfl, ⟨_, _, rfl, s3, ⟨_, _, rfl, rfl, ⟨v6, rfl, g6⟩⟩⟩⟩⟩⟩ := h
  obtain rfl := k91_openM s3
  exact ⟨v6, rfl, g6⟩
theorem k128_mk (w : World) (x : S128) {A6 : Option Addr} {c6 : Nat} (l6 : x.f5.length ≤ c6) (g6 : Kd.string.C w A6 x.f5.length x.f5) : k128.K w x [.int .i64 x.f0, .int .i64 x.f1, .int .i64 x.f2, .int .i64 x.f3.f0, .string x.f3.f1, .int .i64 x.f4, .slice A6 x.f5.length c6] := ⟨[.int .i64 x.f0], [.int .i64 x.f1, .int .i64 x.f2, .int .i64 x.f3.f0, .string x.f3.f1, .int .i64 x.f4, .slice A6 x.f5.length c6], rfl, rfl, ⟨[.int .i64 x.f1], [.int .i64 x.f2, .int .i64 x.f3.f0, .string x.f3.f1, .int .i64 x.f4, .slice A6 x.f5.length c6], rfl, rfl, ⟨[.int .i64 x.f2], [.int .i64 x.f3.f0, .string x.f3.f1, .int .i64 x.f4, .slice A6 x.f5.length c6], rfl, rfl, ⟨[.int .i64 x.f3.f0, .string x.f3.f1], [.int .i64 x.f4, .slice A6 x.f5.length c6], rfl, (k91_mk w x.f3 ), ⟨[.int .i64 x.f4], [.slice A6 x.f5.length c6], rfl, rfl, ⟨A6, c6, rfl, l6, g6⟩⟩⟩⟩⟩⟩
theorem k128_mkM (w : World) (base : Nat) (ok : Nat → Prop) (x : S128) {v6 : Value} (g6 : Kd.string.R 9 w base ok v6 x.f5) : k128.M w base ok x [.int .i64 x.f0, .int .i64 x.f1, .int .i64 x.f2, .int .i64 x.f3.f0, .string x.f3.f1, .int .i64 x.f4, v6] := ⟨[.int .i64 x.f0], [.int .i64 x.f1, .int .i64 x.f2, .int .i64 x.f3.f0, .string x.f3.f1, .int .i64 x.f4, v6], rfl, rfl, ⟨[.int .i64 x.f1], [.int .i64 x.f2, .int .i64 x.f3.f0, .string x.f3.f1, .int .i64 x.f4, v6], rfl, rfl, ⟨[.int .i64 x.f2], [.int .i64 x.f3.f0, .string x.f3.f1, .int .i64 x.f4, v6], rfl, rfl, ⟨[.int .i64 x.f3.f0, .string x.f3.f1], [.int .i64 x.f4, v6], rfl, (k91_mkM w base ok x.f3 ), ⟨[.int .i64 x.f4], [v6], rfl, rfl, ⟨v6, rfl, g6⟩⟩⟩⟩⟩⟩
def rd_T128 (xs : List S128) (i : Int) : S128 := xs.getD i.toNat z128
theorem at_T128 {w : World} {A : Option Addr} {n : Nat} {xs : List S128} (h : Kd.C k128 w A n xs) (i : Int) (h0 : 0 ≤ i) (h1 : i < n) : ∃ ad A6 c6, A = some ad ∧ w.cell? (ad.add (i.toNat * 7)) = some (.int .i64 (rd_T128 xs i).f0) ∧ w.cell? ⟨(ad.add (i.toNat * 7)).block, (ad.add (i.toNat * 7)).off + 1, none⟩ = some (.int .i64 (rd_T128 xs i).f1) ∧ w.cell? ⟨(ad.add (i.toNat * 7)).block, (ad.add (i.toNat * 7)).off + 2, none⟩ = some (.int .i64 (rd_T128 xs i).f2) ∧ w.cell? ⟨(ad.add (i.toNat * 7)).block, (ad.add (i.toNat * 7)).off + 3, none⟩ = some (.int .i64 (rd_T128 xs i).f3.f0) ∧ w.cell? ⟨(ad.add (i.toNat * 7)).block, (ad.add (i.toNat * 7)).off + 4, none⟩ = some (.string (rd_T128 xs i).f3.f1) ∧ w.cell? ⟨(ad.add (i.toNat * 7)).block, (ad.add (i.toNat * 7)).off + 5, none⟩ = some (.int .i64 (rd_T128 xs i).f4) ∧ w.cell? ⟨(ad.add (i.toNat * 7)).block, (ad.add (i.toNat * 7)).off + 6, none⟩ = some (.slice A6 (rd_T128 xs i).f5.length c6) ∧ (rd_T128 xs i).f5.length ≤ c6 ∧ Kd.string.C w A6 (rd_T128 xs i).f5.length (rd_T128 xs i).f5 := by
  obtain ⟨ad, c, e, _, hK, hc0⟩ := Kd.C_get h z128 i h0 h1
  have hc : ∀ j u, c[j]? = some u → w.cell? (ad.add (i.toNat * 7 + j)) = some u := hc0
  obtain ⟨A6, c6, rfl, l6, g6⟩ := k128_open hK
  exact ⟨ad, A6, c6, e, hc 0 _ rfl, by rw [← add_field _ _ 1 (by omega)]; exact hc 1 _ rfl, by rw [← add_field _ _ 2 (by omega)]; exact hc 2 _ rfl, by rw [← add_field _ _ 3 (by omega)]; exact hc 3 _ rfl, by rw [← add_field _ _ 4 (by omega)]; exact hc 4 _ rfl, by rw [← add_field _ _ 5 (by omega)]; exact hc 5 _ rfl, by rw [← add_field _ _ 6 (by omega)]; exact hc 6 _ rfl, l6, g6⟩
end Go.Proofs.Ytmkdeknpphimbaa.PFnExactLevel
