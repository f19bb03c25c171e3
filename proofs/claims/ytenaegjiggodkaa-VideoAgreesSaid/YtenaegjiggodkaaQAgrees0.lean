/- Part 0 of the proof of VideoAgrees: contracts of the functions that the law reaches, and plain facts. -/
import Derived.Test.YtenaegjiggodkaaProg
import Derived.Below
import Derived.Deep.Draws
import Derived.Deep.AppendLies
import Derived.Maps.AppendAt
import Derived.OwnWalk
import Derived.Laws.BytesArg
import Derived.Laws.MakeOwn
import Derived.Laws.OwnMore
import Derived.Deep.OwnRows
import Derived.Tactics
import Derived.Lib.ConvBytes
import Derived.Laws.Slices
import Derived.WalkKit
import Derived.KernelRfl
import Derived.RowKit3
import Derived.Deep.LoopGhost
import Derived.Deep.QuietTactic
import Derived.BigQuiet
import Derived.WideLaws
import Derived.Deep.DeepCutAuto
import Derived.Deep.CutBlock
import Derived.Deep.RegionHeld3
import Derived.Laws.Rows
import Derived.Lib.AppendStr
import Derived.ArgAppend
import Derived.Laws.IdiomCopy
import Derived.OrdersHeld
import Derived.Laws.BitsLemmas
import Derived.RowKit
import Derived.Test.YtenaegjiggodkaaWWords
import Derived.Test.YtenaegjiggodkaaWLast
import Derived.Test.YtenaegjiggodkaaWTab
import Derived.Test.YtenaegjiggodkaaWFour
import Derived.Test.YtenaegjiggodkaaWQPut
import Derived.Test.YtenaegjiggodkaaWApart
import Derived.Test.YtenaegjiggodkaaWArr
import Derived.Test.YtenaegjiggodkaaWZeros
import Derived.Test.YtenaegjiggodkaaWFoot
import Derived.Test.YtenaegjiggodkaaWKept
import Derived.Test.YtenaegjiggodkaaWShare
import Derived.Test.YtenaegjiggodkaaWN
import Derived.Test.YtenaegjiggodkaaWFootNe
import Derived.Test.YtenaegjiggodkaaWAt
import Derived.Test.YtenaegjiggodkaaWEqStruct
import Derived.Test.YtenaegjiggodkaaWRepsOne
import Derived.Test.YtenaegjiggodkaaWInv
import Derived.Test.YtenaegjiggodkaaWInvWords
import Derived.Test.YtenaegjiggodkaaWGuard
import Derived.Test.YtenaegjiggodkaaWNEv
import Derived.Test.YtenaegjiggodkaaWMore
import Derived.Outline
import Derived.Shelf.Abstract
import Derived.Lib.Hide
import Derived.Shelf.Small.Bits
import Derived.Shelf.Strconv.Itoa0
import Derived.Shelf.Sort.Plain
import Derived.Shelf.Slices.Turned
import Derived.Ground.Names2Prog
import Derived.Shelf.Slices.CompactI
import Derived.Shelf.Slices.SearchI
import Derived.Shelf.Slices.Cells
import Derived.Shelf.Slices.In.SortNone
import Derived.Lib.SlicesCompact
import Derived.Laws.AppendOwn
import Derived.Lib.OwnBridge
import Derived.Sort.OwnSortedInts

-- Printed by vprint.py (a program of this claim over the translation's own print). Lean checks it.
namespace Go.Proofs.Ytenaegjiggodkaa.PV
open Go.RowKit Go.Proofs.YtenaegjiggodkaaW.PrintWords Go.Proofs.YtenaegjiggodkaaW.PrintLast Go.Proofs.YtenaegjiggodkaaW.PrintMore
attribute [local go_sem] max2_int min2_int max_two min_two max_three min_three max_four min_four   -- for this text's walks alone
set_option linter.unusedVariables false
set_option linter.unusedSimpArgs false



def errW : Option Int → Value
  | none => .nilIface
  | some c => .iface 0 (.int .i64 c)
theorem errW_none : errW none = .nilIface := rfl
theorem errW_some (c : Int) : errW (some c) = .iface 0 (.int .i64 c) := rfl

theorem info3 : (Try.prog.info? 3).map (fun i => (i.zero, i.size, i.bytes)) = some (some (.int .i64 0), 1, 8) := by kernel_rfl
theorem info4 : (Try.prog.info? 4).map (fun i => (i.zero, i.size, i.bytes)) = some (some (.bool false), 1, 1) := by kernel_rfl
theorem info5 : (Try.prog.info? 5).map (fun i => (i.zero, i.size, i.bytes)) = some (some (.int .u8 0), 1, 1) := by kernel_rfl
theorem info9 : (Try.prog.info? 9).map (fun i => (i.zero, i.size, i.bytes)) = some (some (.string ⟨#[]⟩), 1, 16) := by kernel_rfl
theorem info22 : (Try.prog.info? 22).map (fun i => (i.zero, i.size, i.bytes)) = some (some (.slice none 0 0), 1, 24) := by kernel_rfl
theorem info43 : (Try.prog.info? 43).map (fun i => (i.zero, i.size, i.bytes)) = some (some (.agg #[(.int .i64 0), (.int .i64 0), (.int .i64 0), (.int .i64 0)]), 4, 32) := by kernel_rfl
theorem info94 : (Try.prog.info? 94).map (fun i => (i.zero, i.size, i.bytes)) = some (some (.agg #[(.int .i64 0), (.int .i64 0), (.int .i64 0)]), 3, 24) := by kernel_rfl
theorem info109 : (Try.prog.info? 109).map (fun i => (i.zero, i.size, i.bytes)) = some (some (.slice none 0 0), 1, 24) := by kernel_rfl
theorem info110 : (Try.prog.info? 110).map (fun i => (i.zero, i.size, i.bytes)) = some (some (.slice none 0 0), 1, 24) := by kernel_rfl
theorem info114 : (Try.prog.info? 114).map (fun i => (i.zero, i.size, i.bytes)) = some (some (.agg #[(.int .i64 0), (.int .i64 0), (.int .i64 0), (.int .i64 0), (.string ⟨#[]⟩)]), 5, 48) := by kernel_rfl
-- the values' own types
/-! #### struct type 145 -/
structure S145 where
  f0 : Int
  f1 : Int
def z145 : S145 := ⟨(0 : Int), (0 : Int)⟩
def k145 : Kd S145 := Kd.iso (Kd.pair (Kd.int .i64) (Kd.int .i64)) (fun x : S145 => (x.f0, x.f1))
theorem k145_open {w : World} {x : S145} {cs : List Value} (h : k145.K w x cs) : cs = [.int .i64 x.f0, .int .i64 x.f1] := by
  obtain ⟨_, _, rfl, rfl, rfl⟩ := h
  exact rfl
theorem k145_openM {w : World} {base : Nat} {ok : Nat → Prop} {x : S145} {cs : List Value} (h : k145.M w base ok x cs) : cs = [.int .i64 x.f0, .int .i64 x.f1] := by
  obtain ⟨_, _, rfl, rfl, rfl⟩ := h
  exact rfl
theorem k145_mk (w : World) (x : S145)  : k145.K w x [.int .i64 x.f0, .int .i64 x.f1] := ⟨[.int .i64 x.f0], [.int .i64 x.f1], rfl, rfl, rfl⟩
theorem k145_mkM (w : World) (base : Nat) (ok : Nat → Prop) (x : S145)  : k145.M w base ok x [.int .i64 x.f0, .int .i64 x.f1] := ⟨[.int .i64 x.f0], [.int .i64 x.f1], rfl, rfl, rfl⟩
theorem k145_mkF (W : World) (ok : Nat → Prop) (x : S145) : Kd.FK k145 W ok x [.int .i64 x.f0, .int .i64 x.f1] := fun W2 _ => k145_mk W2 x
def rd_T145 (xs : List S145) (i : Int) : S145 := xs.getD i.toNat z145
theorem at_T145 {w : World} {A : Option Addr} {n : Nat} {xs : List S145} (h : Kd.C k145 w A n xs) (i : Int) (h0 : 0 ≤ i) (h1 : i < n) : ∃ ad , A = some ad ∧ w.cell? (ad.add (i.toNat * 2)) = some (.int .i64 (rd_T145 xs i).f0) ∧ w.cell? ⟨(ad.add (i.toNat * 2)).block, (ad.add (i.toNat * 2)).off + 1, none⟩ = some (.int .i64 (rd_T145 xs i).f1) := by
  obtain ⟨ad, c, e, _, hK, hc0⟩ := Kd.C_get h z145 i h0 h1
  have hc : ∀ j u, c[j]? = some u → w.cell? (ad.add (i.toNat * 2 + j)) = some u := hc0
  obtain rfl := k145_open hK
  exact ⟨ad, e, hc 0 _ rfl, by rw [← add_field _ _ 1 (by omega)]; exact hc 1 _ rfl⟩

def rd_L2 (xs : List (List S145)) (i : Int) : (List S145) := xs.getD i.toNat ([] : List S145)
theorem at_L2 {w : World} {A : Option Addr} {n : Nat} {xs : List (List S145)} (h : Kd.C (Kd.slice 145 k145) w A n xs) (i : Int) (h0 : 0 ≤ i) (h1 : i < n) : ∃ ad A0 c0, A = some ad ∧ w.cell? (ad.add i.toNat) = some (.slice A0 (rd_L2 xs i).length c0) ∧ (rd_L2 xs i).length ≤ c0 ∧ k145.C w A0 (rd_L2 xs i).length (rd_L2 xs i) := by
  obtain ⟨ad, c, e, _, hK, hc0⟩ := Kd.C_get h ([] : List S145) i h0 h1
  have hc : ∀ j u, c[j]? = some u → w.cell? (ad.add (i.toNat * 1 + j)) = some u := hc0
  obtain ⟨A0, c0, rfl, l0, g0⟩ := hK
  exact ⟨ad, A0, c0, e, by have hq := hc 0 _ rfl; rwa [Nat.mul_one, Nat.add_zero] at hq, l0, g0⟩

/-! #### struct type 142 -/
structure S142 where
  f0 : Int
  f1 : Int
  f2 : (List S145)
def z142 : S142 := ⟨(0 : Int), (0 : Int), ([] : List S145)⟩
def k142 : Kd S142 := Kd.iso (Kd.pair (Kd.int .i64) (Kd.pair (Kd.int .i64) (Kd.slice 145 k145))) (fun x : S142 => (x.f0, x.f1, x.f2))
theorem k142_open {w : World} {x : S142} {cs : List Value} (h : k142.K w x cs) : ∃ A2 c2, cs = [.int .i64 x.f0, .int .i64 x.f1, .slice A2 x.f2.length c2] ∧ x.f2.length ≤ c2 ∧ k145.C w A2 x.f2.length x.f2 := by
  obtain ⟨_, _, rfl, rfl, ⟨_, _, rfl, rfl, ⟨A2, c2, rfl, l2, g2⟩⟩⟩ := h
  exact ⟨A2, c2, rfl, l2, g2⟩
theorem k142_openM {w : World} {base : Nat} {ok : Nat → Prop} {x : S142} {cs : List Value} (h : k142.M w base ok x cs) : ∃ v2, cs = [.int .i64 x.f0, .int .i64 x.f1, v2] ∧ k145.R 145 w base ok v2 x.f2 := by
  obtain ⟨_, _, rfl, rfl, ⟨_, _, rfl, rfl, ⟨v2, rfl, g2⟩⟩⟩ := h
  exact ⟨v2, rfl, g2⟩
theorem k142_mk (w : World) (x : S142) {A2 : Option Addr} {c2 : Nat} (l2 : x.f2.length ≤ c2) (g2 : k145.C w A2 x.f2.length x.f2) : k142.K w x [.int .i64 x.f0, .int .i64 x.f1, .slice A2 x.f2.length c2] := ⟨[.int .i64 x.f0], [.int .i64 x.f1, .slice A2 x.f2.length c2], rfl, rfl, ⟨[.int .i64 x.f1], [.slice A2 x.f2.length c2], rfl, rfl, ⟨A2, c2, rfl, l2, g2⟩⟩⟩
theorem k142_mkM (w : World) (base : Nat) (ok : Nat → Prop) (x : S142) {v2 : Value} (g2 : k145.R 145 w base ok v2 x.f2) : k142.M w base ok x [.int .i64 x.f0, .int .i64 x.f1, v2] := ⟨[.int .i64 x.f0], [.int .i64 x.f1, v2], rfl, rfl, ⟨[.int .i64 x.f1], [v2], rfl, rfl, ⟨v2, rfl, g2⟩⟩⟩
theorem k142_openF {W : World} {ok : Nat → Prop} {x : S142} {cs : List Value} (h : Kd.FK k142 W ok x cs) : ∃ A2 c2, cs = [.int .i64 x.f0, .int .i64 x.f1, .slice A2 x.f2.length c2] ∧ x.f2.length ≤ c2 ∧ Kd.F k145 W ok A2 x.f2.length x.f2 := by
  obtain ⟨A2, c2, rfl, l2, _⟩ := k142_open (Kd.FK_now h)
  exact ⟨A2, c2, rfl, l2, (fun W' hW => by obtain ⟨A2_, c2_, he, l2_, g2_⟩ := k142_open (h W' hW); injection (Option.some.inj (show some (Value.slice A2 x.f2.length c2) = some (Value.slice A2_ x.f2.length c2_) from congrArg (fun l => l[2]?) he)) with ha_ _ _; rw [ha_]; exact g2_)⟩
theorem k142_mkF (W : World) (ok : Nat → Prop) (x : S142) {A2 : Option Addr} {c2 : Nat} (l2 : x.f2.length ≤ c2) (g2 : Kd.F k145 W ok A2 x.f2.length x.f2) : Kd.FK k142 W ok x [.int .i64 x.f0, .int .i64 x.f1, .slice A2 x.f2.length c2] := fun W2 hW => k142_mk W2 x l2 (g2 W2 hW)
def rd_T142 (xs : List S142) (i : Int) : S142 := xs.getD i.toNat z142
theorem at_T142 {w : World} {A : Option Addr} {n : Nat} {xs : List S142} (h : Kd.C k142 w A n xs) (i : Int) (h0 : 0 ≤ i) (h1 : i < n) : ∃ ad A2 c2, A = some ad ∧ w.cell? (ad.add (i.toNat * 3)) = some (.int .i64 (rd_T142 xs i).f0) ∧ w.cell? ⟨(ad.add (i.toNat * 3)).block, (ad.add (i.toNat * 3)).off + 1, none⟩ = some (.int .i64 (rd_T142 xs i).f1) ∧ w.cell? ⟨(ad.add (i.toNat * 3)).block, (ad.add (i.toNat * 3)).off + 2, none⟩ = some (.slice A2 (rd_T142 xs i).f2.length c2) ∧ (rd_T142 xs i).f2.length ≤ c2 ∧ k145.C w A2 (rd_T142 xs i).f2.length (rd_T142 xs i).f2 := by
  obtain ⟨ad, c, e, _, hK, hc0⟩ := Kd.C_get h z142 i h0 h1
  have hc : ∀ j u, c[j]? = some u → w.cell? (ad.add (i.toNat * 3 + j)) = some u := hc0
  obtain ⟨A2, c2, rfl, l2, g2⟩ := k142_open hK
  exact ⟨ad, A2, c2, e, hc 0 _ rfl, by rw [← add_field _ _ 1 (by omega)]; exact hc 1 _ rfl, by rw [← add_field _ _ 2 (by omega)]; exact hc 2 _ rfl, l2, g2⟩

/-! #### struct type 43 -/
structure S43 where
  f0 : Int
  f1 : Int
  f2 : Int
  f3 : Int
def z43 : S43 := ⟨(0 : Int), (0 : Int), (0 : Int), (0 : Int)⟩
def k43 : Kd S43 := Kd.iso (Kd.pair (Kd.int .i64) (Kd.pair (Kd.int .i64) (Kd.pair (Kd.int .i64) (Kd.int .i64)))) (fun x : S43 => (x.f0, x.f1, x.f2, x.f3))
theorem k43_open {w : World} {x : S43} {cs : List Value} (h : k43.K w x cs) : cs = [.int .i64 x.f0, .int .i64 x.f1, .int .i64 x.f2, .int .i64 x.f3] := by
  obtain ⟨_, _, rfl, rfl, ⟨_, _, rfl, rfl, ⟨_, _, rfl, rfl, rfl⟩⟩⟩ := h
  exact rfl
theorem k43_openM {w : World} {base : Nat} {ok : Nat → Prop} {x : S43} {cs : List Value} (h : k43.M w base ok x cs) : cs = [.int .i64 x.f0, .int .i64 x.f1, .int .i64 x.f2, .int .i64 x.f3] := by
  obtain ⟨_, _, rfl, rfl, ⟨_, _, rfl, rfl, ⟨_, _, rfl, rfl, rfl⟩⟩⟩ := h
  exact rfl
theorem k43_mk (w : World) (x : S43)  : k43.K w x [.int .i64 x.f0, .int .i64 x.f1, .int .i64 x.f2, .int .i64 x.f3] := ⟨[.int .i64 x.f0], [.int .i64 x.f1, .int .i64 x.f2, .int .i64 x.f3], rfl, rfl, ⟨[.int .i64 x.f1], [.int .i64 x.f2, .int .i64 x.f3], rfl, rfl, ⟨[.int .i64 x.f2], [.int .i64 x.f3], rfl, rfl, rfl⟩⟩⟩
theorem k43_mkM (w : World) (base : Nat) (ok : Nat → Prop) (x : S43)  : k43.M w base ok x [.int .i64 x.f0, .int .i64 x.f1, .int .i64 x.f2, .int .i64 x.f3] := ⟨[.int .i64 x.f0], [.int .i64 x.f1, .int .i64 x.f2, .int .i64 x.f3], rfl, rfl, ⟨[.int .i64 x.f1], [.int .i64 x.f2, .int .i64 x.f3], rfl, rfl, ⟨[.int .i64 x.f2], [.int .i64 x.f3], rfl, rfl, rfl⟩⟩⟩
theorem k43_mkF (W : World) (ok : Nat → Prop) (x : S43) : Kd.FK k43 W ok x [.int .i64 x.f0, .int .i64 x.f1, .int .i64 x.f2, .int .i64 x.f3] := fun W2 _ => k43_mk W2 x
def rd_T43 (xs : List S43) (i : Int) : S43 := xs.getD i.toNat z43
theorem at_T43 {w : World} {A : Option Addr} {n : Nat} {xs : List S43} (h : Kd.C k43 w A n xs) (i : Int) (h0 : 0 ≤ i) (h1 : i < n) : ∃ ad , A = some ad ∧ w.cell? (ad.add (i.toNat * 4)) = some (.int .i64 (rd_T43 xs i).f0) ∧ w.cell? ⟨(ad.add (i.toNat * 4)).block, (ad.add (i.toNat * 4)).off + 1, none⟩ = some (.int .i64 (rd_T43 xs i).f1) ∧ w.cell? ⟨(ad.add (i.toNat * 4)).block, (ad.add (i.toNat * 4)).off + 2, none⟩ = some (.int .i64 (rd_T43 xs i).f2) ∧ w.cell? ⟨(ad.add (i.toNat * 4)).block, (ad.add (i.toNat * 4)).off + 3, none⟩ = some (.int .i64 (rd_T43 xs i).f3) := by
  obtain ⟨ad, c, e, _, hK, hc0⟩ := Kd.C_get h z43 i h0 h1
  have hc : ∀ j u, c[j]? = some u → w.cell? (ad.add (i.toNat * 4 + j)) = some u := hc0
  obtain rfl := k43_open hK
  exact ⟨ad, e, hc 0 _ rfl, by rw [← add_field _ _ 1 (by omega)]; exact hc 1 _ rfl, by rw [← add_field _ _ 2 (by omega)]; exact hc 2 _ rfl, by rw [← add_field _ _ 3 (by omega)]; exact hc 3 _ rfl⟩

def rd_L5 (xs : List (List S43)) (i : Int) : (List S43) := xs.getD i.toNat ([] : List S43)
theorem at_L5 {w : World} {A : Option Addr} {n : Nat} {xs : List (List S43)} (h : Kd.C (Kd.slice 43 k43) w A n xs) (i : Int) (h0 : 0 ≤ i) (h1 : i < n) : ∃ ad A0 c0, A = some ad ∧ w.cell? (ad.add i.toNat) = some (.slice A0 (rd_L5 xs i).length c0) ∧ (rd_L5 xs i).length ≤ c0 ∧ k43.C w A0 (rd_L5 xs i).length (rd_L5 xs i) := by
  obtain ⟨ad, c, e, _, hK, hc0⟩ := Kd.C_get h ([] : List S43) i h0 h1
  have hc : ∀ j u, c[j]? = some u → w.cell? (ad.add (i.toNat * 1 + j)) = some u := hc0
  obtain ⟨A0, c0, rfl, l0, g0⟩ := hK
  exact ⟨ad, A0, c0, e, by have hq := hc 0 _ rfl; rwa [Nat.mul_one, Nat.add_zero] at hq, l0, g0⟩

/-! #### struct type 49 -/
structure S49 where
  f0 : Int
  f1 : Int
  f2 : Int
  f3 : Int
  f4 : ByteArray
def z49 : S49 := ⟨(0 : Int), (0 : Int), (0 : Int), (0 : Int), (⟨#[]⟩ : ByteArray)⟩
def k49 : Kd S49 := Kd.iso (Kd.pair (Kd.int .i64) (Kd.pair (Kd.int .i64) (Kd.pair (Kd.int .i64) (Kd.pair (Kd.int .i64) Kd.string)))) (fun x : S49 => (x.f0, x.f1, x.f2, x.f3, x.f4))
theorem k49_open {w : World} {x : S49} {cs : List Value} (h : k49.K w x cs) : cs = [.int .i64 x.f0, .int .i64 x.f1, .int .i64 x.f2, .int .i64 x.f3, .string x.f4] := by
  obtain ⟨_, _, rfl, rfl, ⟨_, _, rfl, rfl, ⟨_, _, rfl, rfl, ⟨_, _, rfl, rfl, rfl⟩⟩⟩⟩ := h
  exact rfl
theorem k49_openM {w : World} {base : Nat} {ok : Nat → Prop} {x : S49} {cs : List Value} (h : k49.M w base ok x cs) : cs = [.int .i64 x.f0, .int .i64 x.f1, .int .i64 x.f2, .int .i64 x.f3, .string x.f4] := by
  obtain ⟨_, _, rfl, rfl, ⟨_, _, rfl, rfl, ⟨_, _, rfl, rfl, ⟨_, _, rfl, rfl, rfl⟩⟩⟩⟩ := h
  exact rfl
theorem k49_mk (w : World) (x : S49)  : k49.K w x [.int .i64 x.f0, .int .i64 x.f1, .int .i64 x.f2, .int .i64 x.f3, .string x.f4] := ⟨[.int .i64 x.f0], [.int .i64 x.f1, .int .i64 x.f2, .int .i64 x.f3, .string x.f4], rfl, rfl, ⟨[.int .i64 x.f1], [.int .i64 x.f2, .int .i64 x.f3, .string x.f4], rfl, rfl, ⟨[.int .i64 x.f2], [.int .i64 x.f3, .string x.f4], rfl, rfl, ⟨[.int .i64 x.f3], [.string x.f4], rfl, rfl, rfl⟩⟩⟩⟩
theorem k49_mkM (w : World) (base : Nat) (ok : Nat → Prop) (x : S49)  : k49.M w base ok x [.int .i64 x.f0, .int .i64 x.f1, .int .i64 x.f2, .int .i64 x.f3, .string x.f4] := ⟨[.int .i64 x.f0], [.int .i64 x.f1, .int .i64 x.f2, .int .i64 x.f3, .string x.f4], rfl, rfl, ⟨[.int .i64 x.f1], [.int .i64 x.f2, .int .i64 x.f3, .string x.f4], rfl, rfl, ⟨[.int .i64 x.f2], [.int .i64 x.f3, .string x.f4], rfl, rfl, ⟨[.int .i64 x.f3], [.string x.f4], rfl, rfl, rfl⟩⟩⟩⟩
theorem k49_mkF (W : World) (ok : Nat → Prop) (x : S49) : Kd.FK k49 W ok x [.int .i64 x.f0, .int .i64 x.f1, .int .i64 x.f2, .int .i64 x.f3, .string x.f4] := fun W2 _ => k49_mk W2 x
def rd_T49 (xs : List S49) (i : Int) : S49 := xs.getD i.toNat z49
theorem at_T49 {w : World} {A : Option Addr} {n : Nat} {xs : List S49} (h : Kd.C k49 w A n xs) (i : Int) (h0 : 0 ≤ i) (h1 : i < n) : ∃ ad , A = some ad ∧ w.cell? (ad.add (i.toNat * 5)) = some (.int .i64 (rd_T49 xs i).f0) ∧ w.cell? ⟨(ad.add (i.toNat * 5)).block, (ad.add (i.toNat * 5)).off + 1, none⟩ = some (.int .i64 (rd_T49 xs i).f1) ∧ w.cell? ⟨(ad.add (i.toNat * 5)).block, (ad.add (i.toNat * 5)).off + 2, none⟩ = some (.int .i64 (rd_T49 xs i).f2) ∧ w.cell? ⟨(ad.add (i.toNat * 5)).block, (ad.add (i.toNat * 5)).off + 3, none⟩ = some (.int .i64 (rd_T49 xs i).f3) ∧ w.cell? ⟨(ad.add (i.toNat * 5)).block, (ad.add (i.toNat * 5)).off + 4, none⟩ = some (.string (rd_T49 xs i).f4) := by
  obtain ⟨ad, c, e, _, hK, hc0⟩ := Kd.C_get h z49 i h0 h1
  have hc : ∀ j u, c[j]? = some u → w.cell? (ad.add (i.toNat * 5 + j)) = some u := hc0
  obtain rfl := k49_open hK
  exact ⟨ad, e, hc 0 _ rfl, by rw [← add_field _ _ 1 (by omega)]; exact hc 1 _ rfl, by rw [← add_field _ _ 2 (by omega)]; exact hc 2 _ rfl, by rw [← add_field _ _ 3 (by omega)]; exact hc 3 _ rfl, by rw [← add_field _ _ 4 (by omega)]; exact hc 4 _ rfl⟩

def rd_L9 (xs : List (List Int)) (i : Int) : (List Int) := xs.getD i.toNat ([] : List Int)
theorem at_L9 {w : World} {A : Option Addr} {n : Nat} {xs : List (List Int)} (h : Kd.C (Kd.slice 3 (Kd.int .i64)) w A n xs) (i : Int) (h0 : 0 ≤ i) (h1 : i < n) : ∃ ad A0 c0, A = some ad ∧ w.cell? (ad.add i.toNat) = some (.slice A0 (rd_L9 xs i).length c0) ∧ (rd_L9 xs i).length ≤ c0 ∧ (Kd.int .i64).C w A0 (rd_L9 xs i).length (rd_L9 xs i) := by
  obtain ⟨ad, c, e, _, hK, hc0⟩ := Kd.C_get h ([] : List Int) i h0 h1
  have hc : ∀ j u, c[j]? = some u → w.cell? (ad.add (i.toNat * 1 + j)) = some u := hc0
  obtain ⟨A0, c0, rfl, l0, g0⟩ := hK
  exact ⟨ad, A0, c0, e, by have hq := hc 0 _ rfl; rwa [Nat.mul_one, Nat.add_zero] at hq, l0, g0⟩

/-! #### struct type 34 -/
structure S34 where
  f0 : Int
  f1 : (List Int)
def z34 : S34 := ⟨(0 : Int), ([] : List Int)⟩
def k34 : Kd S34 := Kd.iso (Kd.pair (Kd.int .i64) (Kd.slice 3 (Kd.int .i64))) (fun x : S34 => (x.f0, x.f1))
theorem k34_open {w : World} {x : S34} {cs : List Value} (h : k34.K w x cs) : ∃ A1 c1, cs = [.int .i64 x.f0, .slice A1 x.f1.length c1] ∧ x.f1.length ≤ c1 ∧ (Kd.int .i64).C w A1 x.f1.length x.f1 := by
  obtain ⟨_, _, rfl, rfl, ⟨A1, c1, rfl, l1, g1⟩⟩ := h
  exact ⟨A1, c1, rfl, l1, g1⟩
theorem k34_openM {w : World} {base : Nat} {ok : Nat → Prop} {x : S34} {cs : List Value} (h : k34.M w base ok x cs) : ∃ v1, cs = [.int .i64 x.f0, v1] ∧ (Kd.int .i64).R 3 w base ok v1 x.f1 := by
  obtain ⟨_, _, rfl, rfl, ⟨v1, rfl, g1⟩⟩ := h
  exact ⟨v1, rfl, g1⟩
theorem k34_mk (w : World) (x : S34) {A1 : Option Addr} {c1 : Nat} (l1 : x.f1.length ≤ c1) (g1 : (Kd.int .i64).C w A1 x.f1.length x.f1) : k34.K w x [.int .i64 x.f0, .slice A1 x.f1.length c1] := ⟨[.int .i64 x.f0], [.slice A1 x.f1.length c1], rfl, rfl, ⟨A1, c1, rfl, l1, g1⟩⟩
theorem k34_mkM (w : World) (base : Nat) (ok : Nat → Prop) (x : S34) {v1 : Value} (g1 : (Kd.int .i64).R 3 w base ok v1 x.f1) : k34.M w base ok x [.int .i64 x.f0, v1] := ⟨[.int .i64 x.f0], [v1], rfl, rfl, ⟨v1, rfl, g1⟩⟩
theorem k34_openF {W : World} {ok : Nat → Prop} {x : S34} {cs : List Value} (h : Kd.FK k34 W ok x cs) : ∃ A1 c1, cs = [.int .i64 x.f0, .slice A1 x.f1.length c1] ∧ x.f1.length ≤ c1 ∧ Kd.F (Kd.int .i64) W ok A1 x.f1.length x.f1 := by
  obtain ⟨A1, c1, rfl, l1, _⟩ := k34_open (Kd.FK_now h)
  exact ⟨A1, c1, rfl, l1, (fun W' hW => by obtain ⟨A1_, c1_, he, l1_, g1_⟩ := k34_open (h W' hW); injection (Option.some.inj (show some (Value.slice A1 x.f1.length c1) = some (Value.slice A1_ x.f1.length c1_) from congrArg (fun l => l[1]?) he)) with ha_ _ _; rw [ha_]; exact g1_)⟩
theorem k34_mkF (W : World) (ok : Nat → Prop) (x : S34) {A1 : Option Addr} {c1 : Nat} (l1 : x.f1.length ≤ c1) (g1 : Kd.F (Kd.int .i64) W ok A1 x.f1.length x.f1) : Kd.FK k34 W ok x [.int .i64 x.f0, .slice A1 x.f1.length c1] := fun W2 hW => k34_mk W2 x l1 (g1 W2 hW)
def rd_T34 (xs : List S34) (i : Int) : S34 := xs.getD i.toNat z34
theorem at_T34 {w : World} {A : Option Addr} {n : Nat} {xs : List S34} (h : Kd.C k34 w A n xs) (i : Int) (h0 : 0 ≤ i) (h1 : i < n) : ∃ ad A1 c1, A = some ad ∧ w.cell? (ad.add (i.toNat * 2)) = some (.int .i64 (rd_T34 xs i).f0) ∧ w.cell? ⟨(ad.add (i.toNat * 2)).block, (ad.add (i.toNat * 2)).off + 1, none⟩ = some (.slice A1 (rd_T34 xs i).f1.length c1) ∧ (rd_T34 xs i).f1.length ≤ c1 ∧ (Kd.int .i64).C w A1 (rd_T34 xs i).f1.length (rd_T34 xs i).f1 := by
  obtain ⟨ad, c, e, _, hK, hc0⟩ := Kd.C_get h z34 i h0 h1
  have hc : ∀ j u, c[j]? = some u → w.cell? (ad.add (i.toNat * 2 + j)) = some u := hc0
  obtain ⟨A1, c1, rfl, l1, g1⟩ := k34_open hK
  exact ⟨ad, A1, c1, e, hc 0 _ rfl, by rw [← add_field _ _ 1 (by omega)]; exact hc 1 _ rfl, l1, g1⟩

/-! #### struct type 94 -/
structure S94 where
  f0 : Int
  f1 : Int
  f2 : Int
def z94 : S94 := ⟨(0 : Int), (0 : Int), (0 : Int)⟩
def k94 : Kd S94 := Kd.iso (Kd.pair (Kd.int .i64) (Kd.pair (Kd.int .i64) (Kd.int .i64))) (fun x : S94 => (x.f0, x.f1, x.f2))
theorem k94_open {w : World} {x : S94} {cs : List Value} (h : k94.K w x cs) : cs = [.int .i64 x.f0, .int .i64 x.f1, .int .i64 x.f2] := by
  obtain ⟨_, _, rfl, rfl, ⟨_, _, rfl, rfl, rfl⟩⟩ := h
  exact rfl
theorem k94_openM {w : World} {base : Nat} {ok : Nat → Prop} {x : S94} {cs : List Value} (h : k94.M w base ok x cs) : cs = [.int .i64 x.f0, .int .i64 x.f1, .int .i64 x.f2] := by
  obtain ⟨_, _, rfl, rfl, ⟨_, _, rfl, rfl, rfl⟩⟩ := h
  exact rfl
theorem k94_mk (w : World) (x : S94)  : k94.K w x [.int .i64 x.f0, .int .i64 x.f1, .int .i64 x.f2] := ⟨[.int .i64 x.f0], [.int .i64 x.f1, .int .i64 x.f2], rfl, rfl, ⟨[.int .i64 x.f1], [.int .i64 x.f2], rfl, rfl, rfl⟩⟩
theorem k94_mkM (w : World) (base : Nat) (ok : Nat → Prop) (x : S94)  : k94.M w base ok x [.int .i64 x.f0, .int .i64 x.f1, .int .i64 x.f2] := ⟨[.int .i64 x.f0], [.int .i64 x.f1, .int .i64 x.f2], rfl, rfl, ⟨[.int .i64 x.f1], [.int .i64 x.f2], rfl, rfl, rfl⟩⟩
theorem k94_mkF (W : World) (ok : Nat → Prop) (x : S94) : Kd.FK k94 W ok x [.int .i64 x.f0, .int .i64 x.f1, .int .i64 x.f2] := fun W2 _ => k94_mk W2 x
def rd_T94 (xs : List S94) (i : Int) : S94 := xs.getD i.toNat z94
theorem at_T94 {w : World} {A : Option Addr} {n : Nat} {xs : List S94} (h : Kd.C k94 w A n xs) (i : Int) (h0 : 0 ≤ i) (h1 : i < n) : ∃ ad , A = some ad ∧ w.cell? (ad.add (i.toNat * 3)) = some (.int .i64 (rd_T94 xs i).f0) ∧ w.cell? ⟨(ad.add (i.toNat * 3)).block, (ad.add (i.toNat * 3)).off + 1, none⟩ = some (.int .i64 (rd_T94 xs i).f1) ∧ w.cell? ⟨(ad.add (i.toNat * 3)).block, (ad.add (i.toNat * 3)).off + 2, none⟩ = some (.int .i64 (rd_T94 xs i).f2) := by
  obtain ⟨ad, c, e, _, hK, hc0⟩ := Kd.C_get h z94 i h0 h1
  have hc : ∀ j u, c[j]? = some u → w.cell? (ad.add (i.toNat * 3 + j)) = some u := hc0
  obtain rfl := k94_open hK
  exact ⟨ad, e, hc 0 _ rfl, by rw [← add_field _ _ 1 (by omega)]; exact hc 1 _ rfl, by rw [← add_field _ _ 2 (by omega)]; exact hc 2 _ rfl⟩

def rd_L12 (xs : List (List ByteArray)) (i : Int) : (List ByteArray) := xs.getD i.toNat ([] : List ByteArray)
theorem at_L12 {w : World} {A : Option Addr} {n : Nat} {xs : List (List ByteArray)} (h : Kd.C (Kd.slice 9 Kd.string) w A n xs) (i : Int) (h0 : 0 ≤ i) (h1 : i < n) : ∃ ad A0 c0, A = some ad ∧ w.cell? (ad.add i.toNat) = some (.slice A0 (rd_L12 xs i).length c0) ∧ (rd_L12 xs i).length ≤ c0 ∧ Kd.string.C w A0 (rd_L12 xs i).length (rd_L12 xs i) := by
  obtain ⟨ad, c, e, _, hK, hc0⟩ := Kd.C_get h ([] : List ByteArray) i h0 h1
  have hc : ∀ j u, c[j]? = some u → w.cell? (ad.add (i.toNat * 1 + j)) = some u := hc0
  obtain ⟨A0, c0, rfl, l0, g0⟩ := hK
  exact ⟨ad, A0, c0, e, by have hq := hc 0 _ rfl; rwa [Nat.mul_one, Nat.add_zero] at hq, l0, g0⟩

def rd_L13 (xs : List (List (List ByteArray))) (i : Int) : (List (List ByteArray)) := xs.getD i.toNat ([] : List (List ByteArray))
theorem at_L13 {w : World} {A : Option Addr} {n : Nat} {xs : List (List (List ByteArray))} (h : Kd.C (Kd.slice 110 (Kd.slice 9 Kd.string)) w A n xs) (i : Int) (h0 : 0 ≤ i) (h1 : i < n) : ∃ ad A0 c0, A = some ad ∧ w.cell? (ad.add i.toNat) = some (.slice A0 (rd_L13 xs i).length c0) ∧ (rd_L13 xs i).length ≤ c0 ∧ (Kd.slice 9 Kd.string).C w A0 (rd_L13 xs i).length (rd_L13 xs i) := by
  obtain ⟨ad, c, e, _, hK, hc0⟩ := Kd.C_get h ([] : List (List ByteArray)) i h0 h1
  have hc : ∀ j u, c[j]? = some u → w.cell? (ad.add (i.toNat * 1 + j)) = some u := hc0
  obtain ⟨A0, c0, rfl, l0, g0⟩ := hK
  exact ⟨ad, A0, c0, e, by have hq := hc 0 _ rfl; rwa [Nat.mul_one, Nat.add_zero] at hq, l0, g0⟩

def rd_L14 (xs : List (List (List (List ByteArray)))) (i : Int) : (List (List (List ByteArray))) := xs.getD i.toNat ([] : List (List (List ByteArray)))
theorem at_L14 {w : World} {A : Option Addr} {n : Nat} {xs : List (List (List (List ByteArray)))} (h : Kd.C (Kd.slice 109 (Kd.slice 110 (Kd.slice 9 Kd.string))) w A n xs) (i : Int) (h0 : 0 ≤ i) (h1 : i < n) : ∃ ad A0 c0, A = some ad ∧ w.cell? (ad.add i.toNat) = some (.slice A0 (rd_L14 xs i).length c0) ∧ (rd_L14 xs i).length ≤ c0 ∧ (Kd.slice 110 (Kd.slice 9 Kd.string)).C w A0 (rd_L14 xs i).length (rd_L14 xs i) := by
  obtain ⟨ad, c, e, _, hK, hc0⟩ := Kd.C_get h ([] : List (List (List ByteArray))) i h0 h1
  have hc : ∀ j u, c[j]? = some u → w.cell? (ad.add (i.toNat * 1 + j)) = some u := hc0
  obtain ⟨A0, c0, rfl, l0, g0⟩ := hK
  exact ⟨ad, A0, c0, e, by have hq := hc 0 _ rfl; rwa [Nat.mul_one, Nat.add_zero] at hq, l0, g0⟩

/-! #### struct type 114 -/
structure S114 where
  f0 : S43
  f1 : ByteArray
def z114 : S114 := ⟨z43, (⟨#[]⟩ : ByteArray)⟩
def k114 : Kd S114 := Kd.iso (Kd.pair k43 Kd.string) (fun x : S114 => (x.f0, x.f1))
theorem k114_open {w : World} {x : S114} {cs : List Value} (h : k114.K w x cs) : cs = [.int .i64 x.f0.f0, .int .i64 x.f0.f1, .int .i64 x.f0.f2, .int .i64 x.f0.f3, .string x.f1] := by
  obtain ⟨_, _, rfl, s0, rfl⟩ := h
  obtain rfl := k43_open s0
  exact rfl
theorem k114_openM {w : World} {base : Nat} {ok : Nat → Prop} {x : S114} {cs : List Value} (h : k114.M w base ok x cs) : cs = [.int .i64 x.f0.f0, .int .i64 x.f0.f1, .int .i64 x.f0.f2, .int .i64 x.f0.f3, .string x.f1] := by
  obtain ⟨_, _, rfl, s0, rfl⟩ := h
  obtain rfl := k43_openM s0
  exact rfl
theorem k114_mk (w : World) (x : S114)  : k114.K w x [.int .i64 x.f0.f0, .int .i64 x.f0.f1, .int .i64 x.f0.f2, .int .i64 x.f0.f3, .string x.f1] := ⟨[.int .i64 x.f0.f0, .int .i64 x.f0.f1, .int .i64 x.f0.f2, .int .i64 x.f0.f3], [.string x.f1], rfl, (k43_mk w x.f0 ), rfl⟩
theorem k114_mkM (w : World) (base : Nat) (ok : Nat → Prop) (x : S114)  : k114.M w base ok x [.int .i64 x.f0.f0, .int .i64 x.f0.f1, .int .i64 x.f0.f2, .int .i64 x.f0.f3, .string x.f1] := ⟨[.int .i64 x.f0.f0, .int .i64 x.f0.f1, .int .i64 x.f0.f2, .int .i64 x.f0.f3], [.string x.f1], rfl, (k43_mkM w base ok x.f0 ), rfl⟩
theorem k114_mkF (W : World) (ok : Nat → Prop) (x : S114) : Kd.FK k114 W ok x [.int .i64 x.f0.f0, .int .i64 x.f0.f1, .int .i64 x.f0.f2, .int .i64 x.f0.f3, .string x.f1] := fun W2 _ => k114_mk W2 x
def rd_T114 (xs : List S114) (i : Int) : S114 := xs.getD i.toNat z114
theorem at_T114 {w : World} {A : Option Addr} {n : Nat} {xs : List S114} (h : Kd.C k114 w A n xs) (i : Int) (h0 : 0 ≤ i) (h1 : i < n) : ∃ ad , A = some ad ∧ w.cell? (ad.add (i.toNat * 5)) = some (.int .i64 (rd_T114 xs i).f0.f0) ∧ w.cell? ⟨(ad.add (i.toNat * 5)).block, (ad.add (i.toNat * 5)).off + 1, none⟩ = some (.int .i64 (rd_T114 xs i).f0.f1) ∧ w.cell? ⟨(ad.add (i.toNat * 5)).block, (ad.add (i.toNat * 5)).off + 2, none⟩ = some (.int .i64 (rd_T114 xs i).f0.f2) ∧ w.cell? ⟨(ad.add (i.toNat * 5)).block, (ad.add (i.toNat * 5)).off + 3, none⟩ = some (.int .i64 (rd_T114 xs i).f0.f3) ∧ w.cell? ⟨(ad.add (i.toNat * 5)).block, (ad.add (i.toNat * 5)).off + 4, none⟩ = some (.string (rd_T114 xs i).f1) := by
  obtain ⟨ad, c, e, _, hK, hc0⟩ := Kd.C_get h z114 i h0 h1
  have hc : ∀ j u, c[j]? = some u → w.cell? (ad.add (i.toNat * 5 + j)) = some u := hc0
  obtain rfl := k114_open hK
  exact ⟨ad, e, hc 0 _ rfl, by rw [← add_field _ _ 1 (by omega)]; exact hc 1 _ rfl, by rw [← add_field _ _ 2 (by omega)]; exact hc 2 _ rfl, by rw [← add_field _ _ 3 (by omega)]; exact hc 3 _ rfl, by rw [← add_field _ _ 4 (by omega)]; exact hc 4 _ rfl⟩

def rd_L17 (xs : List (List S114)) (i : Int) : (List S114) := xs.getD i.toNat ([] : List S114)
theorem at_L17 {w : World} {A : Option Addr} {n : Nat} {xs : List (List S114)} (h : Kd.C (Kd.slice 114 k114) w A n xs) (i : Int) (h0 : 0 ≤ i) (h1 : i < n) : ∃ ad A0 c0, A = some ad ∧ w.cell? (ad.add i.toNat) = some (.slice A0 (rd_L17 xs i).length c0) ∧ (rd_L17 xs i).length ≤ c0 ∧ k114.C w A0 (rd_L17 xs i).length (rd_L17 xs i) := by
  obtain ⟨ad, c, e, _, hK, hc0⟩ := Kd.C_get h ([] : List S114) i h0 h1
  have hc : ∀ j u, c[j]? = some u → w.cell? (ad.add (i.toNat * 1 + j)) = some u := hc0
  obtain ⟨A0, c0, rfl, l0, g0⟩ := hK
  exact ⟨ad, A0, c0, e, by have hq := hc 0 _ rfl; rwa [Nat.mul_one, Nat.add_zero] at hq, l0, g0⟩

end Go.Proofs.Ytenaegjiggodkaa.PV

/- The plain functions that the hand-written contracts of video's functions are stated over: no program in sight. -/
namespace Go.Proofs.Ytenaegjiggodkaa.PV
open Go.RowKit Go.Proofs.YtenaegjiggodkaaW.PrintWords Go.Proofs.YtenaegjiggodkaaW.PrintLast Go.Proofs.YtenaegjiggodkaaW.PrintMore
set_option linter.unusedVariables false

theorem S43.eq_iff (a b : S43) : a = b ↔ a.f0 = b.f0 ∧ a.f1 = b.f1 ∧ a.f2 = b.f2 ∧ a.f3 = b.f3 := by cases a; cases b; simp
theorem S145.eq_iff (a b : S145) : a = b ↔ a.f0 = b.f0 ∧ a.f1 = b.f1 := by cases a; cases b; simp
theorem S142.eq_iff (a b : S142) : a = b ↔ a.f0 = b.f0 ∧ a.f1 = b.f1 ∧ a.f2 = b.f2 := by cases a; cases b; simp
instance : DecidableEq S43 := fun a b => decidable_of_iff _ (S43.eq_iff a b).symm
instance : DecidableEq S145 := fun a b => decidable_of_iff _ (S145.eq_iff a b).symm
instance : DecidableEq S142 := fun a b => decidable_of_iff _ (S142.eq_iff a b).symm

/-- A rectangle within its bounds. -/
def okR (r : S43) : Bool := (decide (-10000 ≤ r.f0) && decide (r.f0 ≤ 10000)) && ((decide (-10000 ≤ r.f1) && decide (r.f1 ≤ 10000)) && ((decide (0 ≤ r.f2) && decide (r.f2 ≤ 20000)) && (decide (0 ≤ r.f3) && decide (r.f3 ≤ 20000))))
def covR (x y : Int) (r : S43) : Bool := decide (x ≥ r.f0) && (decide (x < wrap64 (r.f0 + r.f2)) && (decide (y ≥ r.f1) && decide (y < wrap64 (r.f1 + r.f3))))
def covL (l : List S43) (x y : Int) : Bool := l.any (covR x y)

/-- Numbers ascending, each once. -/
def insL (x : Int) : List Int → List Int
  | [] => [x]
  | y :: t => if x < y then x :: y :: t else if x = y then y :: t else y :: insL x t
def cutsL (l : List Int) : List Int := l.foldl (fun acc x => insL x acc) []
def fullR (r : S43) : Bool := decide (0 < r.f2) && decide (0 < r.f3)
def endsX (r : S43) : List Int := [r.f0, r.f0 + r.f2]
def endsY (r : S43) : List Int := [r.f1, r.f1 + r.f3]
def edgesX (l : List S43) : List Int := cutsL ((l.filter fullR).flatMap endsX)
def edgesY (l : List S43) : List Int := cutsL ((l.filter fullR).flatMap endsY)

/-- Neighbours in a list. -/
def pairs : List Int → List (Int × Int)
  | a :: b :: t => (a, b) :: pairs (b :: t)
  | _ => []
def stepS (acc : List S145) (p : Int × Int) : List S145 :=
  if 0 < acc.length ∧ (acc.getD (acc.length - 1) z145).f1 = p.1 then acc.set (acc.length - 1) ⟨(acc.getD (acc.length - 1) z145).f0, p.2⟩ else acc ++ [⟨p.1, p.2⟩]
def stepSel (sel : Int → Bool) (acc : List S145) (p : Int × Int) : List S145 := if sel p.1 = true then stepS acc p else acc
def spansOf (sel : Int → Bool) (xs : List Int) : List S145 := (pairs xs).foldl (stepSel sel) []
def bandOf (sel : Int → Int → Bool) (xs : List Int) (p : Int × Int) : S142 := ⟨p.1, p.2, spansOf (fun x => sel x p.1) xs⟩
def bandsOf (sel : Int → Int → Bool) (xs ys : List Int) : List S142 := (pairs ys).map (bandOf sel xs)
def stepB (l : List S142) (b : S142) : List S142 :=
  if 0 < l.length ∧ (l.getD (l.length - 1) z142).f1 = b.f0 ∧ (l.getD (l.length - 1) z142).f2 = b.f2 then l.set (l.length - 1) ⟨(l.getD (l.length - 1) z142).f0, b.f1, (l.getD (l.length - 1) z142).f2⟩ else l ++ [b]
def outB (b : S142) : List S43 := b.f2.map fun s => ⟨s.f0, b.f0, wrap64 (s.f1 - s.f0), wrap64 (b.f1 - b.f0)⟩
def outOf (l : List S142) : List S43 := l.flatMap outB
/-- The rectangles of the points of which sel holds, by a grid. -/
def gridL (sel : Int → Int → Bool) (xs ys : List Int) : List S43 := outOf ((bandsOf sel xs ys).foldl stepB [])
def selL (a b : List S43) (is : Bool → Bool → Bool) (x y : Int) : Bool := is (covL a x y) (covL b x y)
def madeL (a b : List S43) (is : Bool → Bool → Bool) : List S43 := gridL (selL a b is) (edgesX (a ++ b)) (edgesY (a ++ b))
def toldR (out : List S43) : List S43 × Int := if out.any (fun r => !okR r) = true then ([], 7) else if 200 < out.length then ([], 4) else (out, 0)
def madeR (a b : List S43) (is : Bool → Bool → Bool) : List S43 × Int := toldR (madeL a b is)
def eitherB (a b : Bool) : Bool := a || b
def bothB (a b : Bool) : Bool := a && b
def firstB (a b : Bool) : Bool := a && !b
def validRegionB (l : List S43) : Bool := if l.length ≤ 200 ∧ l.all okR = true then decide ((madeR l [] eitherB).2 = 0 ∧ (madeR l [] eitherB).1 = l) else false
def joinedR (a b : List S43) (is : Bool → Bool → Bool) : List S43 × Int := if validRegionB a = true ∧ validRegionB b = true then madeR a b is else ([], 1)

def video_valid.f (a0_0 : Int) (a0_1 : Int) (a0_2 : Int) (a0_3 : Int) : Option Bool := some (okR ⟨a0_0, a0_1, a0_2, a0_3⟩)
def video_covers.f (l0 : List S43) (a1 : Int) (a2 : Int) : Option Bool := some (covL l0 a1 a2)
def video_Region.f (l0 : List S43) : Option (List S43 × Int) := some (if l0.all okR = true then (if 200 < l0.length then ([], 4) else madeR l0 [] eitherB) else ([], 1))
def video_ValidRegion.f (l0 : List S43) : Option Bool := some (validRegionB l0)
def video_Union.f (l0 l1 : List S43) : Option (List S43 × Int) := some (joinedR l0 l1 eitherB)
def video_Meet.f (l0 l1 : List S43) : Option (List S43 × Int) := some (joinedR l0 l1 bothB)
def video_Less.f (l0 l1 : List S43) : Option (List S43 × Int) := some (joinedR l0 l1 firstB)
def aroundR (l : List S43) : S43 := ⟨(edgesX l).getD 0 0, (edgesY l).getD 0 0, wrap64 ((edgesX l).getD ((edgesX l).length - 1) 0 - (edgesX l).getD 0 0), wrap64 ((edgesY l).getD ((edgesY l).length - 1) 0 - (edgesY l).getD 0 0)⟩
def video_around.f (l0 : List S43) : Option (Int × Int × Int × Int) :=
  if l0.length = 0 then some (0, 0, 0, 0)
  else if l0.length ≤ 10000 ∧ l0.all okR = true ∧ l0.any fullR = true then some ((aroundR l0).f0, (aroundR l0).f1, (aroundR l0).f2, (aroundR l0).f3) else none
def api_Rect_82.f (l0 : List S43) : Option (List S43) := if l0.length ≤ 1000000 then some l0 else none
def continuoref25_cuts.f (l0 : List Int) : Option (List Int) := if l0.length ≤ 1000000 then some (cutsL l0) else none
/-- The rectangles of a band: neighbours that touch are one. -/
def stepRow (acc : List S43) (r : S43) : List S43 :=
  if 0 < acc.length ∧ wrap64 ((acc.getD (acc.length - 1) z43).f0 + (acc.getD (acc.length - 1) z43).f2) = r.f0 then acc.set (acc.length - 1) { acc.getD (acc.length - 1) z43 with f2 := wrap64 ((acc.getD (acc.length - 1) z43).f2 + r.f2) } else acc ++ [r]
def rowL (l : List S43) : List S43 := l.foldl stepRow []
def continuoref25_row.f (l0 : List S43) : Option (List S43) := if l0.length ≤ 1000000 then some (rowL l0) else none
end Go.Proofs.Ytenaegjiggodkaa.PV

/- Contracts of the small functions and closures of video/region.go. -/
namespace Go.Proofs.Ytenaegjiggodkaa.PV
open Go.RowKit Go.Proofs.YtenaegjiggodkaaW.PrintWords Go.Proofs.YtenaegjiggodkaaW.PrintLast Go.Proofs.YtenaegjiggodkaaW.PrintMore
set_option linter.unusedVariables false
set_option linter.unusedSimpArgs false

theorem ret_bool {a b : Bool} (h : (a = true) ↔ (b = true)) : Ending.returned (.bool a) = .returned (.bool b) := by rw [Bool.eq_iff_iff.2 h]
theorem place_any (n : Int) (w : World) : Calls Try.prog 122 #[.int .i64 n] w fun e w' => e = .returned (.bool (decide (-10000 ≤ n) && decide (n ≤ 10000))) ∧ w = w' := by
  by_cases h1 : -10000 ≤ n
  · go_enter Try.func122, Try.ntmps122
    go_wp2
    go_ret
    exact ⟨by simp [h1], rfl⟩
  · go_enter Try.func122, Try.ntmps122
    go_wp2
    go_ret
    exact ⟨by simp; omega, rfl⟩
theorem wide_any (n : Int) (w : World) : Calls Try.prog 123 #[.int .i64 n] w fun e w' => e = .returned (.bool (decide (0 ≤ n) && decide (n ≤ 20000))) ∧ w = w' := by
  by_cases h1 : 0 ≤ n
  · go_enter Try.func123, Try.ntmps123
    go_wp2
    go_ret
    exact ⟨by simp [h1], rfl⟩
  · go_enter Try.func123, Try.ntmps123
    go_wp2
    go_ret
    exact ⟨by simp; omega, rfl⟩

def boxR (a b c d : Int) (w : World) : World := w.alloc (.cells #[.int .i64 a, .int .i64 b, .int .i64 c, .int .i64 d] 43)
theorem valid_any (a b c d : Int) (w : World) : Calls Try.prog 72 #[.agg #[.int .i64 a, .int .i64 b, .int .i64 c, .int .i64 d]] w fun e w' => e = .returned (.bool (okR ⟨a, b, c, d⟩)) ∧ w.alloc (.cells #[.int .i64 a, .int .i64 b, .int .i64 c, .int .i64 d] 43) = w' := by
  go_enter Try.func72, Try.ntmps72
  go_wp2_with (first | (go_at_call 122; refine (place_any _ _).mono ?_; rintro e w' ⟨rfl, rfl⟩) | (go_at_call 123; refine (wide_any _ _).mono ?_; rintro e w' ⟨rfl, rfl⟩))
  all_goals
    go_ret
    exact ⟨ret_bool (by unfold okR; simp; omega), rfl⟩
theorem video_valid.calls (a0_0 a0_1 a0_2 a0_3 : Int) (r : Bool) (w : World) (h : video_valid.f a0_0 a0_1 a0_2 a0_3 = some r) :
    Calls Try.prog 72 #[.agg #[.int .i64 a0_0, .int .i64 a0_1, .int .i64 a0_2, .int .i64 a0_3]] w fun e w' => e = .returned (.bool r) ∧ Below w.heap.size w w' := by
  obtain rfl := Option.some.inj h
  refine (valid_any a0_0 a0_1 a0_2 a0_3 w).mono ?_
  rintro e w' ⟨rfl, rfl⟩
  exact ⟨rfl, (Below.refl _ _).alloc (Nat.le_refl _) _⟩

/-- 'not valid', as Region, ValidRegion and made ask it of each rectangle. -/
theorem bad71 (a b c d : Int) (w : World) : Calls Try.prog 71 #[.agg #[.int .i64 a, .int .i64 b, .int .i64 c, .int .i64 d]] w fun e w' => e = .returned (.bool (!okR ⟨a, b, c, d⟩)) ∧ Below w.heap.size w w' := by
  go_enter Try.func71, Try.ntmps71
  go_wp2_with (go_at_call 72; refine (valid_any _ _ _ _ _).mono ?_; rintro e w' ⟨rfl, rfl⟩)
  go_ret
  exact ⟨rfl, ((Below.refl _ _).alloc (Nat.le_refl _) _).alloc (by simp) _⟩
theorem bad75 (a b c d : Int) (w : World) : Calls Try.prog 75 #[.agg #[.int .i64 a, .int .i64 b, .int .i64 c, .int .i64 d]] w fun e w' => e = .returned (.bool (!okR ⟨a, b, c, d⟩)) ∧ Below w.heap.size w w' := by
  go_enter Try.func75, Try.ntmps75
  go_wp2_with (go_at_call 72; refine (valid_any _ _ _ _ _).mono ?_; rintro e w' ⟨rfl, rfl⟩)
  go_ret
  exact ⟨rfl, ((Below.refl _ _).alloc (Nat.le_refl _) _).alloc (by simp) _⟩
theorem bad126 (a b c d : Int) (w : World) : Calls Try.prog 126 #[.agg #[.int .i64 a, .int .i64 b, .int .i64 c, .int .i64 d]] w fun e w' => e = .returned (.bool (!okR ⟨a, b, c, d⟩)) ∧ Below w.heap.size w w' := by
  go_enter Try.func126, Try.ntmps126
  go_wp2_with (go_at_call 72; refine (valid_any _ _ _ _ _).mono ?_; rintro e w' ⟨rfl, rfl⟩)
  go_ret
  exact ⟨rfl, ((Below.refl _ _).alloc (Nat.le_refl _) _).alloc (by simp) _⟩

/-- The closure of covers: is the point (x, y) in the rectangle? x and y lie in two cells of the caller's. -/
theorem covers1 (x y : Int) (Bx By : Nat) (a b c d : Int) (w : World) (hx : w.cell? ⟨Bx, 0, none⟩ = some (.int .i64 x)) (hy : w.cell? ⟨By, 0, none⟩ = some (.int .i64 y)) :
    Calls Try.prog 127 #[.agg #[.int .i64 a, .int .i64 b, .int .i64 c, .int .i64 d], .pointer (some ⟨Bx, 0, none⟩), .pointer (some ⟨By, 0, none⟩)] w fun e w' => e = .returned (.bool (covR x y ⟨a, b, c, d⟩)) ∧ Below w.heap.size w w' := by
  have hbx := World.block_lt_of_cell? w _ hx
  have hby := World.block_lt_of_cell? w _ hy
  have nx : Bx ≠ w.heap.size := by simp at hbx; omega
  have ny : By ≠ w.heap.size := by simp at hby; omega
  go_enter Try.func127, Try.ntmps127
  go_wp2
  all_goals
    go_ret
    exact ⟨ret_bool (by unfold covR; simp [*]; try omega), (Below.refl _ _).alloc (Nat.le_refl _) _⟩

/-- What a function value g (with what it has captured) tells of rectangles, in whatever world has come of w. -/
def Tells43 (g : Nat) (lb : Array Value) (p : S43 → Bool) (w : World) : Prop :=
  ∀ (x : S43) (W : World), Below w.heap.size w W → Calls Try.prog g (#[.agg #[.int .i64 x.f0, .int .i64 x.f1, .int .i64 x.f2, .int .i64 x.f3]] ++ lb) W fun e W' => e = .returned (.bool (p x)) ∧ Below W.heap.size W W'

def idx43 (p : S43 → Bool) (l : List S43) : Int := (l.findIdx? p).elim (-1) Int.ofNat
theorem idx43_at (p : S43 → Bool) (l : List S43) (j : Nat) (hj : j < l.length) (h0 : ∀ k, k < j → p (l.getD k z43) = false) (h1 : p (l.getD j z43) = true) : idx43 p l = j := by
  have : l.findIdx? p = some j := by
    rw [List.findIdx?_eq_some_iff_getElem]
    refine ⟨hj, ?_, fun k hk => ?_⟩
    · rw [List.getD_eq_getElem?_getD, List.getElem?_eq_getElem hj] at h1; exact h1
    · have := h0 k hk
      rw [List.getD_eq_getElem?_getD, List.getElem?_eq_getElem (by omega)] at this
      simpa using this
  unfold idx43; rw [this]; rfl
theorem idx43_none (p : S43 → Bool) (l : List S43) (h0 : ∀ k, k < l.length → p (l.getD k z43) = false) : idx43 p l = -1 := by
  have : l.findIdx? p = none := by
    rw [List.findIdx?_eq_none_iff]
    intro x hx
    obtain ⟨k, hk, rfl⟩ := List.getElem_of_mem hx
    have := h0 k hk
    rw [List.getD_eq_getElem?_getD, List.getElem?_eq_getElem hk] at this
    exact this
  unfold idx43; rw [this]; rfl
theorem idx43_any (p : S43 → Bool) (l : List S43) : decide (0 ≤ idx43 p l) = l.any p := by
  unfold idx43
  cases h : l.findIdx? p with
  | none => rw [List.findIdx?_eq_none_iff] at h; simp; intro x hx; simpa using h x hx
  | some j =>
    rw [List.findIdx?_eq_some_iff_getElem] at h
    obtain ⟨hj, h1, _⟩ := h
    simp
    exact ⟨_, List.getElem_mem hj, h1⟩
set_option maxHeartbeats 1000000 in
theorem index121 (g : Nat) (lb : Array Value) (p : S43 → Bool) (eg : ∀ args w, (callFunc g args).run Try.prog w = .ok (.enter g args) w) (A0 : Option Addr) (c0 : Nat) (l0 : List S43) (w : World)
    (hr0 : Kd.C k43 w A0 l0.length l0) (hc0 : l0.length ≤ c0) (hp : Tells43 g lb p w) :
    Calls Try.prog 121 #[.slice A0 l0.length c0, .func (.func g) #[] lb] w fun e w' => e = .returned (.int .i64 (idx43 p l0)) ∧ Below w.heap.size w w' := by
  have hm : l0.length ≤ 9223372036854775807 := hr0.2.1
  go_enter Try.func121, Try.ntmps121
  go_wp2
  go_loopw [5, 8] (fun a i wr => ∃ j : Nat, j ≤ l0.length ∧ i = .int .i64 j ∧ (∀ k, k < j → p (l0.getD k z43) = false) ∧ Below w.heap.size w wr) (fun _ i _ => l0.length - (intOf i).toNat)
  case atStart => exact ⟨0, Nat.zero_le _, rfl, fun k hk => absurd hk (Nat.not_lt_zero _), Below.refl _ _⟩
  case round =>
    obtain ⟨j, hj, rfl, hall, hB⟩ := hrel
    by_cases hlt : j < l0.length
    · obtain ⟨ad, rfl, h1, h2, h3, h4⟩ := at_T43 (Kd.C_below hr0 hB) j (by omega) (by omega)
      simp only [Int.toNat_natCast] at h1 h2 h3 h4
      have hx := hp (rd_T43 l0 j) wr hB
      generalize hbq : p (rd_T43 l0 j) = bq at hx
      have Hbq := Lib.hid hbq
      have Hall := Lib.hid hall
      have HX := Lib.hid hx
      clear hbq hall hx hr0 hp
      cases bq
      · go_wp2_with (refine HX.out.mono ?_; rintro e w' ⟨rfl, hB2⟩)
        go_roundw
        case rel =>
          refine ⟨j + 1, by omega, by go_num, ?_, ?_⟩
          · intro k hk
            by_cases e : k = j
            · subst e; exact Hbq.out
            · exact Hall.out k (by omega)
          · exact below_then hB hB.size hB2
        case measure => simp [intOf]; omega
      · go_wp2_with (refine HX.out.mono ?_; rintro e w' ⟨rfl, hB2⟩)
        go_ret
        exact ⟨by rw [idx43_at p l0 j hlt Hall.out Hbq.out]; rfl, below_then hB hB.size hB2⟩
    · have e : j = l0.length := by omega
      subst e
      have Hall := Lib.hid hall
      clear hall hr0 hp
      go_wp2
      go_ret
      exact ⟨by rw [idx43_none p l0 Hall.out]; rfl, hB⟩
theorem contains70 (g : Nat) (lb : Array Value) (p : S43 → Bool) (eg : ∀ args w, (callFunc g args).run Try.prog w = .ok (.enter g args) w) (A0 : Option Addr) (c0 : Nat) (l0 : List S43) (w : World)
    (hr0 : Kd.C k43 w A0 l0.length l0) (hc0 : l0.length ≤ c0) (hp : Tells43 g lb p w) :
    Calls Try.prog 70 #[.slice A0 l0.length c0, .func (.func g) #[] lb] w fun e w' => e = .returned (.bool (l0.any p)) ∧ Below w.heap.size w w' := by
  have hx := index121 g lb p eg A0 c0 l0 w hr0 hc0 hp
  have ha := idx43_any p l0
  generalize idx43 p l0 = j at hx ha
  have Ha := Lib.hid ha
  have HX := Lib.hid hx
  clear hx ha hr0 hp eg
  go_enter Try.func70, Try.ntmps70
  go_wp2_with (refine HX.out.mono ?_; rintro e w' ⟨rfl, hB⟩)
  go_ret
  exact ⟨by rw [← Ha.out]; rfl, hB⟩
theorem video_covers.calls (A0 : Option Addr) (c0 : Nat) (l0 : List S43) (a1 a2 : Int) (r : Bool) (w : World) (hr0 : Kd.C k43 w A0 l0.length l0) (hc0 : l0.length ≤ c0) (h : video_covers.f l0 a1 a2 = some r) :
    Calls Try.prog 77 #[.slice A0 l0.length c0, .int .i64 a1, .int .i64 a2] w fun e w' => e = .returned (.bool r) ∧ Below w.heap.size w w' := by
  obtain rfl := Option.some.inj h
  clear h
  have hB0 : Below w.heap.size w ((w.alloc (.cells #[.int .i64 a1] 3)).alloc (.cells #[.int .i64 a2] 3)) := ((Below.refl _ _).alloc (Nat.le_refl _) _).alloc (by simp) _
  have hx := contains70 127 #[.pointer (some ⟨w.heap.size, 0, none⟩), .pointer (some ⟨w.heap.size + 1, 0, none⟩)] (covR a1 a2) (enters_of Try.func127 (by kernel_rfl) rfl) A0 c0 l0 ((w.alloc (.cells #[.int .i64 a1] 3)).alloc (.cells #[.int .i64 a2] 3))
    (Kd.C_below hr0 hB0) hc0 (by
      intro x W hW
      refine covers1 a1 a2 w.heap.size (w.heap.size + 1) x.f0 x.f1 x.f2 x.f3 W ?_ ?_
      · exact (hW.cell (p := ⟨w.heap.size, 0, none⟩) (by simp; omega)).trans (by simp [go_sem])
      · exact (hW.cell (p := ⟨w.heap.size + 1, 0, none⟩) (by simp)).trans (by simp [go_sem]))
  have HX := Lib.hid hx
  clear hx hr0
  go_enter Try.func77, Try.ntmps77
  go_wp2_with (refine HX.out.mono ?_; rintro e w' ⟨rfl, hB⟩)
  go_ret
  exact ⟨rfl, hB0.trans (hB.mono (by simp; omega))⟩
end Go.Proofs.Ytenaegjiggodkaa.PV

/-
  DERIVED: THE SHELF's CONTRACTS AT THIS DUMP, IN PLAIN WORDS (tools/lay-plain.mjs out of 'YtenaegjiggodkaaShelf.lean', which tools/lay-shelf.mjs wrote): THE SAME DECLARATIONS UNDER THE SAME NAMES: 'import', 'namespace', 'open', 'def', 'theorem' AND NOTHING ELSE: no command of the shelf's: FOR A HAND-IN. Each laying: the table of numbers ('.._ren') and one theorem, a field a fact of the dump's own or the kernel's comparison; each contract: ONE APPLICATION.
-/
namespace Go.Proofs
open Go.Shelf
def Try.lays128_ren : Go.Shelf.Ren := ⟨fun | 128 => 155 | n => n, fun | 51 => 184 | 3 => 3 | 4 => 4 | 46 => 173 | 5 => 5 | 9 => 9 | n => n, fun | n => n⟩
theorem Try.lays128 : Go.Proofs.Lays.n128 Try.prog Try.lays128_ren := {
  mixed := by kernel_rfl
  f128 := Try.func155.trans (congrArg some (by kernel_rfl))
  t3 := Try.underlying3
  a3 := Try.isAgg3
  z3 := Try.sizeOf3
  v3 := Try.zeroValue3
  t4 := Try.underlying4
  a4 := Try.isAgg4
  z4 := Try.sizeOf4
  v4 := Try.zeroValue4
  t5 := Try.underlying5
  a5 := Try.isAgg5
  z5 := Try.sizeOf5
  v5 := Try.zeroValue5
  t9 := Try.underlying9
  a9 := Try.isAgg9
  z9 := Try.sizeOf9
  v9 := Try.zeroValue9
  t46 := Try.underlying173
  a46 := Try.isAgg173
  z46 := Try.sizeOf173
  v46 := Try.zeroValue173
  t51 := Try.underlying184
  a51 := Try.isAgg184
  z51 := Try.sizeOf184
  v51 := Try.zeroValue184 }
/-- bits.Len32: "Len32 returns the minimum number of bits required to represent x; the result is 0 for x == 0.": IT RETURNS 'Lib.bitLen x'; the world is as it was. ('h0', 'h1': x is a uint32.) (LAID: no walk: one application.) -/
theorem Try.bits_Len32 (x : Int) (w : World) (h0 : 0 ≤ x) (h1 : x ≤ 4294967295) :
    Calls Try.prog 155 #[.int .u32 x] w fun e w' => e = .returned (.int .i64 (Lib.bitLen x.toNat)) ∧ w' = w := Any.bits_Len32 Try.lays128 x w h0 h1
def Try.lays125_ren : Go.Shelf.Ren := ⟨fun | 125 => 145 | 128 => 155 | 129 => 156 | n => n, fun | 46 => 173 | 3 => 3 | 51 => 184 | 53 => 186 | 4 => 4 | 5 => 5 | 9 => 9 | n => n, fun | n => n⟩
theorem Try.lays125 : Go.Proofs.Lays.n125 Try.prog Try.lays125_ren := {
  mixed := by kernel_rfl
  f125 := Try.func145.trans (congrArg some (by kernel_rfl))
  f128 := Try.func155.trans (congrArg some (by kernel_rfl))
  f129 := Try.func156.trans (congrArg some (by kernel_rfl))
  t3 := Try.underlying3
  a3 := Try.isAgg3
  z3 := Try.sizeOf3
  v3 := Try.zeroValue3
  t4 := Try.underlying4
  a4 := Try.isAgg4
  z4 := Try.sizeOf4
  v4 := Try.zeroValue4
  t5 := Try.underlying5
  a5 := Try.isAgg5
  z5 := Try.sizeOf5
  v5 := Try.zeroValue5
  t9 := Try.underlying9
  a9 := Try.isAgg9
  z9 := Try.sizeOf9
  v9 := Try.zeroValue9
  t46 := Try.underlying173
  a46 := Try.isAgg173
  z46 := Try.sizeOf173
  v46 := Try.zeroValue173
  t51 := Try.underlying184
  a51 := Try.isAgg184
  z51 := Try.sizeOf184
  v51 := Try.zeroValue184
  t53 := Try.underlying186
  a53 := Try.isAgg186
  z53 := Try.sizeOf186
  v53 := Try.zeroValue186 }
/-- bits.Len: "Len returns the minimum number of bits required to represent x; the result is 0 for x == 0.": IT RETURNS 'Lib.bitLen x'; the world is as it was. (A uint has 64 bits in the model.) ITS CALLEE bits.Len64 IS MET BY ITS OWN CONTRACT OFF THE SHELF (lay that first). (LAID: no walk: one application.) -/
theorem Try.bits_Len (x : Int) (w : World) (h0 : 0 ≤ x) (h1 : x ≤ 18446744073709551615) :
    Calls Try.prog 145 #[.int .u64 x] w fun e w' => e = .returned (.int .i64 (Lib.bitLen x.toNat)) ∧ w' = w := Any.bits_Len Try.lays125 x w h0 h1
def Try.lays129_ren : Go.Shelf.Ren := ⟨fun | 129 => 156 | n => n, fun | 53 => 186 | 3 => 3 | 4 => 4 | 46 => 173 | 5 => 5 | 9 => 9 | n => n, fun | n => n⟩
theorem Try.lays129 : Go.Proofs.Lays.n129 Try.prog Try.lays129_ren := {
  mixed := by kernel_rfl
  f129 := Try.func156.trans (congrArg some (by kernel_rfl))
  t3 := Try.underlying3
  a3 := Try.isAgg3
  z3 := Try.sizeOf3
  v3 := Try.zeroValue3
  t4 := Try.underlying4
  a4 := Try.isAgg4
  z4 := Try.sizeOf4
  v4 := Try.zeroValue4
  t5 := Try.underlying5
  a5 := Try.isAgg5
  z5 := Try.sizeOf5
  v5 := Try.zeroValue5
  t9 := Try.underlying9
  a9 := Try.isAgg9
  z9 := Try.sizeOf9
  v9 := Try.zeroValue9
  t46 := Try.underlying173
  a46 := Try.isAgg173
  z46 := Try.sizeOf173
  v46 := Try.zeroValue173
  t53 := Try.underlying186
  a53 := Try.isAgg186
  z53 := Try.sizeOf186
  v53 := Try.zeroValue186 }
/-- bits.Len64: "Len64 returns the minimum number of bits required to represent x; the result is 0 for x == 0.": IT RETURNS 'Lib.bitLen x'; the world is as it was. ('h0', 'h1': x is a uint64.) (LAID: no walk: one application.) -/
theorem Try.bits_Len64 (x : Int) (w : World) (h0 : 0 ≤ x) (h1 : x ≤ 18446744073709551615) :
    Calls Try.prog 156 #[.int .u64 x] w fun e w' => e = .returned (.int .i64 (Lib.bitLen x.toNat)) ∧ w' = w := Any.bits_Len64 Try.lays129 x w h0 h1
def Try.lays189_ren : Go.Shelf.Ren := ⟨fun | 189 => 142 | 125 => 145 | 257 => 144 | 128 => 155 | 129 => 156 | 294 => 146 | 295 => 147 | 296 => 148 | 297 => 149 | 298 => 150 | 299 => 151 | 216 => 152 | 300 => 153 | 301 => 154 | 328 => 157 | 329 => 158 | 330 => 159 | 331 => 160 | 332 => 161 | 215 => 162 | 343 => 163 | n => n, fun | 28 => 32 | 3 => 3 | 46 => 173 | 0 => 0 | 51 => 184 | 53 => 186 | 4 => 4 | 183 => 176 | 182 => 175 | 131 => 181 | 5 => 5 | 9 => 9 | 218 => 187 | 222 => 191 | 228 => 193 | 229 => 164 | n => n, fun | n => n⟩
theorem Try.lays189 : Go.Proofs.Lays.n189 Try.prog Try.lays189_ren := {
  mixed := by kernel_rfl
  f125 := Try.func145.trans (congrArg some (by kernel_rfl))
  f128 := Try.func155.trans (congrArg some (by kernel_rfl))
  f129 := Try.func156.trans (congrArg some (by kernel_rfl))
  f189 := Try.func142.trans (congrArg some (by kernel_rfl))
  f215 := Try.func162.trans (congrArg some (by kernel_rfl))
  f216 := Try.func152.trans (congrArg some (by kernel_rfl))
  f257 := Try.func144.trans (congrArg some (by kernel_rfl))
  f294 := Try.func146.trans (congrArg some (by kernel_rfl))
  f295 := Try.func147.trans (congrArg some (by kernel_rfl))
  f296 := Try.func148.trans (congrArg some (by kernel_rfl))
  f297 := Try.func149.trans (congrArg some (by kernel_rfl))
  f298 := Try.func150.trans (congrArg some (by kernel_rfl))
  f299 := Try.func151.trans (congrArg some (by kernel_rfl))
  f300 := Try.func153.trans (congrArg some (by kernel_rfl))
  f301 := Try.func154.trans (congrArg some (by kernel_rfl))
  f328 := Try.func157.trans (congrArg some (by kernel_rfl))
  f329 := Try.func158.trans (congrArg some (by kernel_rfl))
  f330 := Try.func159.trans (congrArg some (by kernel_rfl))
  f331 := Try.func160.trans (congrArg some (by kernel_rfl))
  f332 := Try.func161.trans (congrArg some (by kernel_rfl))
  f343 := Try.func163.trans (congrArg some (by kernel_rfl))
  t0 := Try.underlying0
  a0 := Try.isAgg0
  z0 := Try.sizeOf0
  v0 := Try.zeroValue0
  t3 := Try.underlying3
  a3 := Try.isAgg3
  z3 := Try.sizeOf3
  v3 := Try.zeroValue3
  t4 := Try.underlying4
  a4 := Try.isAgg4
  z4 := Try.sizeOf4
  v4 := Try.zeroValue4
  t5 := Try.underlying5
  a5 := Try.isAgg5
  z5 := Try.sizeOf5
  v5 := Try.zeroValue5
  t9 := Try.underlying9
  a9 := Try.isAgg9
  z9 := Try.sizeOf9
  v9 := Try.zeroValue9
  t28 := Try.underlying32
  a28 := Try.isAgg32
  z28 := Try.sizeOf32
  v28 := Try.zeroValue32
  t46 := Try.underlying173
  a46 := Try.isAgg173
  z46 := Try.sizeOf173
  v46 := Try.zeroValue173
  t51 := Try.underlying184
  a51 := Try.isAgg184
  z51 := Try.sizeOf184
  v51 := Try.zeroValue184
  t53 := Try.underlying186
  a53 := Try.isAgg186
  z53 := Try.sizeOf186
  v53 := Try.zeroValue186
  t131 := Try.underlying181
  a131 := Try.isAgg181
  z131 := Try.sizeOf181
  v131 := Try.zeroValue181
  t182 := Try.underlying175
  a182 := Try.isAgg175
  z182 := Try.sizeOf175
  v182 := Try.zeroValue175
  t183 := Try.underlying176
  a183 := Try.isAgg176
  z183 := Try.sizeOf176
  v183 := Try.zeroValue176
  t218 := Try.underlying187
  a218 := Try.isAgg187
  z218 := Try.sizeOf187
  v218 := Try.zeroValue187
  t222 := Try.underlying191
  a222 := Try.isAgg191
  z222 := Try.sizeOf191
  v222 := Try.zeroValue191
  t228 := Try.underlying193
  a228 := Try.isAgg193
  z228 := Try.sizeOf193
  v228 := Try.zeroValue193
  t229 := Try.underlying164
  a229 := Try.isAgg164
  z229 := Try.sizeOf164
  v229 := Try.zeroValue164 }
open Go.Sort Go.RowKit in
theorem Try.slices_Sort_int (blk off cap : Nat) (zs : List Int) (w : World) (hH : Holds (Value.int .i64) w blk off zs.toArray) (hblk : blk < w.heap.size) (hsz : zs.length < 4611686018427387904) :
    Calls Try.prog 142 #[.slice (some ⟨blk, off, none⟩) zs.length cap] w fun e w' =>
      e = .returned (.tuple #[]) ∧ ∃ n os, w' = grow (putRow (Value.int .i64) (Sort.ahead w n) blk off (zs.mergeSort fun x y => decide (x ≤ y)).toArray) os := Any.slices_Sort_int Try.lays189 blk off cap zs w hH hblk hsz
def Try.lays108_ren : Go.Shelf.Ren := ⟨fun | 108 => 120 | n => n, fun | 28 => 32 | 3 => 3 | 0 => 0 | 4 => 4 | n => n, fun | n => n⟩
theorem Try.lays108 : Go.Proofs.Lays.n108 Try.prog Try.lays108_ren := {
  mixed := by kernel_rfl
  f108 := Try.func120.trans (congrArg some (by kernel_rfl))
  t0 := Try.underlying0
  a0 := Try.isAgg0
  z0 := Try.sizeOf0
  v0 := Try.zeroValue0
  t3 := Try.underlying3
  a3 := Try.isAgg3
  z3 := Try.sizeOf3
  v3 := Try.zeroValue3
  t4 := Try.underlying4
  a4 := Try.isAgg4
  z4 := Try.sizeOf4
  v4 := Try.zeroValue4
  t28 := Try.underlying32
  a28 := Try.isAgg32
  z28 := Try.sizeOf32
  v28 := Try.zeroValue32 }
open Go.Lib in
/-- slices.Index at []int: "Index returns the index of the first occurrence of v in s, or -1 if not present.": IT RETURNS 'Lib.idxOf (the elements) v'; the world is as it was. 'zs': what the cells behind the slice's address hold (its spare capacity too, if you have it); 'zs.take n': its elements. (LAID: no walk: one application.) -/
theorem Try.slices_Index_int (b off n c : Nat) (zs : List Int) (x : Int) (w : World) (hz : n ≤ zs.length) (hbig : n ≤ 9223372036854775807) (hc : ∀ j, j < zs.length → w.cell? ⟨b, off + j, none⟩ = some (.int .i64 (zs.getD j 0))) :
    Calls Try.prog 120 #[.slice (some ⟨b, off, none⟩) n c, .int .i64 x] w fun e w' => e = .returned (.int .i64 (Lib.idxOf (zs.take n) x)) ∧ w' = w := Any.slices_Index_int Try.lays108 b off n c zs x w hz hbig hc
open Go.Lib in
/-- The same at a slice of length 0, a nil one too: no cell is known, none is asked for. (LAID: no walk: one application.) -/
theorem Try.slices_Index_int_empty (a : Option Addr) (c : Nat) (x : Int) (w : World) :
    Calls Try.prog 120 #[.slice a 0 c, .int .i64 x] w fun e w' => e = .returned (.int .i64 (Lib.idxOf [] x)) ∧ w' = w := Any.slices_Index_int_empty Try.lays108 a c x w
def Try.lays107_ren : Go.Shelf.Ren := ⟨fun | 107 => 67 | 108 => 120 | n => n, fun | 28 => 32 | 3 => 3 | 4 => 4 | 0 => 0 | n => n, fun | n => n⟩
theorem Try.lays107 : Go.Proofs.Lays.n107 Try.prog Try.lays107_ren := {
  mixed := by kernel_rfl
  f107 := Try.func67.trans (congrArg some (by kernel_rfl))
  f108 := Try.func120.trans (congrArg some (by kernel_rfl))
  t0 := Try.underlying0
  a0 := Try.isAgg0
  z0 := Try.sizeOf0
  v0 := Try.zeroValue0
  t3 := Try.underlying3
  a3 := Try.isAgg3
  z3 := Try.sizeOf3
  v3 := Try.zeroValue3
  t4 := Try.underlying4
  a4 := Try.isAgg4
  z4 := Try.sizeOf4
  v4 := Try.zeroValue4
  t28 := Try.underlying32
  a28 := Try.isAgg32
  z28 := Try.sizeOf32
  v28 := Try.zeroValue32 }
open Go.Lib in
/-- slices.Contains at []int: "Contains reports whether v is present in s.": IT RETURNS 'elements.contains v'; the world is as it was. ITS CALLEE slices.Index IS MET BY ITS OWN CONTRACT OFF THE SHELF (lay that first): no loop is walked here. (LAID: no walk: one application.) -/
theorem Try.slices_Contains_int (b off n c : Nat) (zs : List Int) (x : Int) (w : World) (hz : n ≤ zs.length) (hbig : n ≤ 9223372036854775807) (hc : ∀ j, j < zs.length → w.cell? ⟨b, off + j, none⟩ = some (.int .i64 (zs.getD j 0))) :
    Calls Try.prog 67 #[.slice (some ⟨b, off, none⟩) n c, .int .i64 x] w fun e w' => e = .returned (.bool ((zs.take n).contains x)) ∧ w' = w := Any.slices_Contains_int Try.lays107 b off n c zs x w hz hbig hc
open Go.Lib in
/-- The same at a slice of length 0, a nil one too. (LAID: no walk: one application.) -/
theorem Try.slices_Contains_int_empty (a : Option Addr) (c : Nat) (x : Int) (w : World) :
    Calls Try.prog 67 #[.slice a 0 c, .int .i64 x] w fun e w' => e = .returned (.bool false) ∧ w' = w := Any.slices_Contains_int_empty Try.lays107 a c x w
def Try.laysNm220_ren : Go.Shelf.Ren := ⟨fun | 20 => 143 | n => n, fun | 22 => 32 | 3 => 3 | 4 => 4 | 0 => 0 | n => n, fun | n => n⟩
theorem Try.laysNm220 : Go.Proofs.Lays2.n20 Try.prog Try.laysNm220_ren := {
  mixed := by kernel_rfl
  f20 := Try.func143.trans (congrArg some (by kernel_rfl))
  t0 := Try.underlying0
  a0 := Try.isAgg0
  z0 := Try.sizeOf0
  v0 := Try.zeroValue0
  t3 := Try.underlying3
  a3 := Try.isAgg3
  z3 := Try.sizeOf3
  v3 := Try.zeroValue3
  t4 := Try.underlying4
  a4 := Try.isAgg4
  z4 := Try.sizeOf4
  v4 := Try.zeroValue4
  t22 := Try.underlying32
  a22 := Try.isAgg32
  z22 := Try.sizeOf32
  v22 := Try.zeroValue32
  i3 := by kernel_rfl }
open Go.RowKit Go.Lib Go.Sort in
/-- slices.Compact at []int, over an array: the library's two loops are walked. (LAID: no walk: one application.) -/
theorem Try.slices_Compact_int_arr (blk off cap : Nat) (d : Array Int) (w : World) (hH : Holds encI w blk off d) (hsz : d.size ≤ 9223372036854775807) (hcap : d.size ≤ cap) :
    Calls Try.prog 143 #[.slice (some ⟨blk, off, none⟩) d.size cap] w fun e w' => e = .returned (.slice (some ⟨blk, off, none⟩) (compactUpTo d d.size).length cap) ∧ ∃ q, w' = putRow encI (Sort.ahead w q) blk off (compactUpTo d d.size ++ List.replicate (d.size - (compactUpTo d d.size).length) 0).toArray := Any.slices_Compact_int_arr Try.laysNm220 blk off cap d w hH hsz hcap
open Go.RowKit Go.Lib Go.Sort in
/-- slices.Compact at []int: "Compact replaces consecutive runs of equal elements with a single copy. This is like the uniq command found on Unix. Compact modifies the contents of the slice s and returns the modified slice, which may have a smaller length. Compact zeroes the elements between the new length and the original length. The result preserves the nilness of s.": IT RETURNS THE SLICE CUT TO 'Lib.compact zs'; ITS CELLS HOLD 'Lib.compact zs', THEN ZERO VALUES up to the old length; all else is as it was, but for the count of draws. IN THE WORDS OF slices.Sort's CONTRACT ('Holds', 'putRow'): so the everyday 'slices.Sort(xs); xs = slices.Compact(xs)' goes from the one contract to the other. It asks 'zs.length ≤ cap' (every slice's: the reslicing 's[:k]' looks at it). Length 0, nil: '.._empty'. (LAID: no walk: one application.) -/
theorem Try.slices_Compact_int (blk off cap : Nat) (zs : List Int) (w : World) (hH : Holds (Value.int .i64) w blk off zs.toArray) (hsz : zs.length ≤ 9223372036854775807) (hcap : zs.length ≤ cap) :
    Calls Try.prog 143 #[.slice (some ⟨blk, off, none⟩) zs.length cap] w fun e w' => e = .returned (.slice (some ⟨blk, off, none⟩) (Lib.compact zs).length cap) ∧ ∃ q, w' = putRow (Value.int .i64) (Sort.ahead w q) blk off (Lib.compact zs ++ List.replicate (zs.length - (Lib.compact zs).length) 0).toArray := Any.slices_Compact_int Try.laysNm220 blk off cap zs w hH hsz hcap
open Go.RowKit Go.Lib Go.Sort in
/-- The same at a slice of length 0, a nil one too: it comes back as it is. (LAID: no walk: one application.) -/
theorem Try.slices_Compact_int_empty (a : Option Addr) (cap : Nat) (w : World) :
    Calls Try.prog 143 #[.slice a 0 cap] w fun e w' => e = .returned (.slice a 0 cap) ∧ w' = w := Any.slices_Compact_int_empty Try.laysNm220 a cap w
def Try.laysNm237_ren : Go.Shelf.Ren := ⟨fun | 37 => 162 | n => n, fun | 3 => 3 | 4 => 4 | n => n, fun | n => n⟩
theorem Try.laysNm237 : Go.Proofs.Lays2.n37 Try.prog Try.laysNm237_ren := {
  mixed := by kernel_rfl
  f37 := Try.func162.trans (congrArg some (by kernel_rfl))
  t3 := Try.underlying3
  a3 := Try.isAgg3
  z3 := Try.sizeOf3
  v3 := Try.zeroValue3
  t4 := Try.underlying4
  a4 := Try.isAgg4
  z4 := Try.sizeOf4
  v4 := Try.zeroValue4 }
open Go.RowKit Go.Lib in
/-- cmp.isNaN[int]: 'x != x': false. (LAID: no walk: one application.) -/
theorem Try.cmp_isNaN_int2 (x : Int) (w : World) :
    Calls Try.prog 162 #[.int .i64 x] w fun e w' => e = .returned (.bool false) ∧ w' = w := Any.cmp_isNaN_int2 Try.laysNm237 x w
def Try.laysNm231_ren : Go.Shelf.Ren := ⟨fun | 31 => 152 | 37 => 162 | n => n, fun | 3 => 3 | 4 => 4 | n => n, fun | n => n⟩
theorem Try.laysNm231 : Go.Proofs.Lays2.n31 Try.prog Try.laysNm231_ren := {
  mixed := by kernel_rfl
  f31 := Try.func152.trans (congrArg some (by kernel_rfl))
  f37 := Try.func162.trans (congrArg some (by kernel_rfl))
  t3 := Try.underlying3
  a3 := Try.isAgg3
  z3 := Try.sizeOf3
  v3 := Try.zeroValue3
  t4 := Try.underlying4
  a4 := Try.isAgg4
  z4 := Try.sizeOf4
  v4 := Try.zeroValue4 }
open Go.RowKit Go.Lib in
/-- cmp.Less[int]: "Less reports whether x is less than y.": 'x < y'; the world is as it was. (LAID: no walk: one application.) -/
theorem Try.cmp_Less_int2 (x y : Int) (w : World) :
    Calls Try.prog 152 #[.int .i64 x, .int .i64 y] w fun e w' => e = .returned (.bool (decide (x < y))) ∧ w' = w := Any.cmp_Less_int2 Try.laysNm231 x y w
open Go.RowKit Go.Lib Go.Sort in
/-- slices.Compact at []int, of an argument: the slice cut to 'Lib.compact (elements)'; the n cells hold that, then zeros. (LAID: no walk: one application.) -/
theorem Try.slices_Compact_int_cells (b off n c : Nat) (zs : List Int) (w : World) (hz : n ≤ zs.length) (hbig : n ≤ 9223372036854775807) (hcap : n ≤ c) (hc : ∀ j, j < zs.length → w.cell? ⟨b, off + j, none⟩ = some (.int .i64 (zs.getD j 0))) (hf : ∀ j, j < n → w.frozen? ⟨b, off + j, none⟩ = false) :
    Calls Try.prog 143 #[.slice (some ⟨b, off, none⟩) n c] w fun e w' => e = .returned (.slice (some ⟨b, off, none⟩) (Lib.compact (zs.take n)).length c) ∧ ∃ q, w' = (w.drewN q).setCells b off ((Lib.compact (zs.take n) ++ List.replicate (n - (Lib.compact (zs.take n)).length) 0).map (Value.int .i64)) := Any.slices_Compact_int_cells Try.laysNm220 b off n c zs w hz hbig hcap hc hf
open Go.RowKit Go.Sort in
/-- .. and plain. (LAID: no walk: one application.) -/
theorem Try.slices_Sort_int_none (p : Option Addr) (cap : Nat) (w : World) :
    Calls Try.prog 142 #[.slice p 0 cap] w fun e w' => e = .returned (.tuple #[]) ∧ w' = w := Any.slices_Sort_int_none Try.lays189 p cap w
end Go.Proofs

-- Printed by vprint.py (a program of this claim over the translation's own print). Lean checks it.
namespace Go.Proofs.Ytenaegjiggodkaa.PV
open Go.RowKit Go.Proofs.YtenaegjiggodkaaW.PrintWords Go.Proofs.YtenaegjiggodkaaW.PrintLast Go.Proofs.YtenaegjiggodkaaW.PrintMore
attribute [local go_sem] max2_int min2_int max_two min_two max_three min_three max_four min_four   -- for this text's walks alone
set_option linter.unusedVariables false
set_option linter.unusedSimpArgs false

/-! ### video_modifiers: function 95 -/
def video_modifiers.f (a0 : Int) : Option (Bool) := if a0 = 0 then (some true) else (some (a0 == 1))
set_option maxHeartbeats 8000000 in
set_option maxRecDepth 100000 in
theorem video_modifiers.calls (a0 : Int) (r : Bool) (w : World) (h : video_modifiers.f a0 = some r) :
    Calls Try.prog 95 #[.int .i64 a0] w fun e w' => e = .returned (.bool r) ∧ Drawn0 w w' := by
  have H : (if a0 = 0 then (some true) else (some (a0 == 1))) = some r := h
  clear h
  by_cases c2 : a0 = 0
  · rw [if_pos c2] at H
    have c2b0 : (a0 == 0) = true := beq_iff_eq.mpr c2
    have c2b1 : (a0 != 0) = false := bne_eq_false_iff_eq.mpr c2
    clear c2
    obtain rfl := Option.some.inj H
    go_enter Try.func95, Try.ntmps95
    go_wp2
    go_ret
    exact ⟨by first | rfl | (simp; done) | (simp [*]; done), by repeat (first | exact Drawn0.refl _ | apply Drawn0.step)⟩
  · rw [if_neg c2] at H
    have c2b0 : (a0 == 0) = false := beq_eq_false_iff_ne.mpr c2
    have c2b1 : (a0 != 0) = true := bne_iff_ne.mpr c2
    obtain rfl := Option.some.inj H
    go_enter Try.func95, Try.ntmps95
    go_wp2
    go_ret
    exact ⟨by first | rfl | (simp; done) | (simp [*]; done), by repeat (first | exact Drawn0.refl _ | apply Drawn0.step)⟩

end Go.Proofs.Ytenaegjiggodkaa.PV

-- Printed by vprint.py (a program of this claim over the translation's own print). Lean checks it.
namespace Go.Proofs.Ytenaegjiggodkaa.PV
open Go.RowKit Go.Proofs.YtenaegjiggodkaaW.PrintWords Go.Proofs.YtenaegjiggodkaaW.PrintLast Go.Proofs.YtenaegjiggodkaaW.PrintMore
attribute [local go_sem] max2_int min2_int max_two min_two max_three min_three max_four min_four   -- for this text's walks alone
set_option linter.unusedVariables false
set_option linter.unusedSimpArgs false

/-! ### video_formats: function 115 -/
def video_formats.f (a0 : Int) : Option (Bool) := if a0 ≥ 1 then (some (decide (a0 ≤ 4))) else (some false)
set_option maxHeartbeats 8000000 in
set_option maxRecDepth 100000 in
theorem video_formats.calls (a0 : Int) (r : Bool) (w : World) (h : video_formats.f a0 = some r) :
    Calls Try.prog 115 #[.int .i64 a0] w fun e w' => e = .returned (.bool r) ∧ Drawn0 w w' := by
  have H : (if a0 ≥ 1 then (some (decide (a0 ≤ 4))) else (some false)) = some r := h
  clear h
  by_cases c2 : a0 ≥ 1
  · rw [if_pos c2] at H
    have c2b0 : decide (1 ≤ a0) = true := decide_eq_true c2
    clear c2
    obtain rfl := Option.some.inj H
    go_enter Try.func115, Try.ntmps115
    go_wp2
    go_ret
    exact ⟨by first | rfl | (simp; done) | (simp [*]; done), by repeat (first | exact Drawn0.refl _ | apply Drawn0.step)⟩
  · rw [if_neg c2] at H
    have c2b0 : decide (1 ≤ a0) = false := decide_eq_false c2
    clear c2
    obtain rfl := Option.some.inj H
    go_enter Try.func115, Try.ntmps115
    go_wp2
    go_ret
    exact ⟨by first | rfl | (simp; done) | (simp [*]; done), by repeat (first | exact Drawn0.refl _ | apply Drawn0.step)⟩

end Go.Proofs.Ytenaegjiggodkaa.PV

/- The contracts of video's pixels and Agree. -/
namespace Go.Proofs.Ytenaegjiggodkaa.PV
open Go.RowKit Go.Proofs.YtenaegjiggodkaaW.PrintWords Go.Proofs.YtenaegjiggodkaaW.PrintLast Go.Proofs.YtenaegjiggodkaaW.PrintMore
set_option linter.unusedVariables false
set_option linter.unusedSimpArgs false
/-! ### plain -/
def idxP {α : Type} (p : α → Bool) (l : List α) : Int := (l.findIdx? p).elim (-1) Int.ofNat
theorem idxP_at {α : Type} (p : α → Bool) (z : α) (l : List α) (j : Nat) (hj : j < l.length) (h0 : ∀ k, k < j → p (l.getD k z) = false) (h1 : p (l.getD j z) = true) : idxP p l = j := by
  have : l.findIdx? p = some j := by
    rw [List.findIdx?_eq_some_iff_getElem]
    refine ⟨hj, ?_, fun k hk => ?_⟩
    · rw [List.getD_eq_getElem?_getD, List.getElem?_eq_getElem hj] at h1; exact h1
    · have := h0 k hk
      rw [List.getD_eq_getElem?_getD, List.getElem?_eq_getElem (by omega)] at this
      simpa using this
  unfold idxP; rw [this]; rfl
theorem idxP_none {α : Type} (p : α → Bool) (z : α) (l : List α) (h0 : ∀ k, k < l.length → p (l.getD k z) = false) : idxP p l = -1 := by
  have : l.findIdx? p = none := by
    rw [List.findIdx?_eq_none_iff]
    intro x hx
    obtain ⟨k, hk, rfl⟩ := List.getElem_of_mem hx
    have := h0 k hk
    rw [List.getD_eq_getElem?_getD, List.getElem?_eq_getElem hk] at this
    exact this
  unfold idxP; rw [this]; rfl
theorem idxP_any {α : Type} (p : α → Bool) (l : List α) : decide (0 ≤ idxP p l) = l.any p := by
  unfold idxP
  cases h : l.findIdx? p with
  | none => rw [List.findIdx?_eq_none_iff] at h; simp; intro x hx; simpa using h x hx
  | some j =>
    rw [List.findIdx?_eq_some_iff_getElem] at h
    obtain ⟨hj, h1, _⟩ := h
    simp
    exact ⟨_, List.getElem_mem hj, h1⟩
theorem any_upto {α : Type} (p : α → Bool) (z : α) (l : List α) : (∀ k, k < l.length → p (l.getD k z) = false) → l.any p = false := by
  intro h
  rw [List.any_eq_false]
  intro x hx
  obtain ⟨k, hk, rfl⟩ := List.getElem_of_mem hx
  have := h k hk
  rw [List.getD_eq_getElem?_getD, List.getElem?_eq_getElem hk] at this
  simpa using this
theorem any_here {α : Type} (p : α → Bool) (z : α) (l : List α) (j : Nat) (hj : j < l.length) (h : p (l.getD j z) = true) : l.any p = true := by
  rw [List.any_eq_true]
  rw [List.getD_eq_getElem?_getD, List.getElem?_eq_getElem hj] at h
  exact ⟨_, List.getElem_mem hj, h⟩
def okMB (m : Int) : Bool := decide (m = 0) || decide (m = 1)
def okFB (f : Int) : Bool := decide (1 ≤ f) && decide (f ≤ 4)
def badPx (p : S34) : Bool := !okFB p.f0 || p.f1.any fun m => !okMB m
def longPx (p : S34) : Bool := decide (10 < p.f1.length)
def pixelsR (l : List S34) : Int := if l.any badPx = true then 7 else if 10 < l.length ∨ l.any longPx = true then 4 else 0
/-- Does b have the format with the modifier. -/
def hasPx (b : List S34) (f m : Int) : Bool := b.any fun q => decide (q.f0 = f) && q.f1.contains m
def firstM (b : List S34) (f : Int) (l : List Int) : Option Int := l.find? fun m => hasPx b f m
def firstP (b : List S34) : List S34 → Option (Int × Int)
  | [] => none
  | p :: t => match firstM b p.f0 p.f1 with
    | some m => some (p.f0, m)
    | none => firstP b t
def agreeR (a b : List S34) : Int × List Int × Int :=
  if pixelsR a = 7 ∨ pixelsR b = 7 then (0, [], 7) else if pixelsR a = 4 ∨ pixelsR b = 4 then (0, [], 4)
  else match firstP b a with
    | some (f, m) => (f, [m], 0)
    | none => (0, [], 13)
theorem pixelsR_three (l : List S34) : pixelsR l = 7 ∨ pixelsR l = 4 ∨ pixelsR l = 0 := by unfold pixelsR; split <;> (try split) <;> simp
/-! ### the closures -/
def TellsI (g : Nat) (lb : Array Value) (p : Int → Bool) (w : World) : Prop :=
  ∀ (x : Int) (W : World), Below w.heap.size w W → Calls Try.prog g (#[.int .i64 x] ++ lb) W fun e W' => e = .returned (.bool (p x)) ∧ Below W.heap.size W W'
def Tells34 (g : Nat) (lb : Array Value) (p : S34 → Bool) (w : World) : Prop :=
  ∀ (x : S34) (A1 : Option Addr) (c1 : Nat) (W : World), Below w.heap.size w W → x.f1.length ≤ c1 → (Kd.int .i64).C W A1 x.f1.length x.f1 → Calls Try.prog g (#[.agg #[.int .i64 x.f0, .slice A1 x.f1.length c1]] ++ lb) W fun e W' => e = .returned (.bool (p x)) ∧ Below W.heap.size W W'
set_option maxHeartbeats 1000000 in
theorem index138 (g : Nat) (lb : Array Value) (p : Int → Bool) (eg : ∀ args w, (callFunc g args).run Try.prog w = .ok (.enter g args) w) (A0 : Option Addr) (c0 : Nat) (l0 : List Int) (w : World)
    (hr0 : (Kd.int .i64).C w A0 l0.length l0) (hc0 : l0.length ≤ c0) (hp : TellsI g lb p w) :
    Calls Try.prog 138 #[.slice A0 l0.length c0, .func (.func g) #[] lb] w fun e w' => e = .returned (.int .i64 (idxP p l0)) ∧ Below w.heap.size w w' := by
  have hm : l0.length ≤ 9223372036854775807 := hr0.2.1
  go_enter Try.func138, Try.ntmps138
  go_wp2
  go_loopw [5, 8] (fun a i wr => ∃ j : Nat, j ≤ l0.length ∧ i = .int .i64 j ∧ (∀ k, k < j → p (l0.getD k 0) = false) ∧ Below w.heap.size w wr) (fun _ i _ => l0.length - (intOf i).toNat)
  case atStart => exact ⟨0, Nat.zero_le _, rfl, fun k hk => absurd hk (Nat.not_lt_zero _), Below.refl _ _⟩
  case round =>
    obtain ⟨j, hj, rfl, hall, hB⟩ := hrel
    by_cases hlt : j < l0.length
    · obtain ⟨ad, rfl, h1⟩ := Kd.at_int (Kd.C_below hr0 hB) j (by omega) (by omega)
      simp only [Int.toNat_natCast] at h1
      have hx := hp (rd l0 j) wr hB
      generalize hbq : p (rd l0 j) = bq at hx
      have Hbq := Lib.hid hbq
      have Hall := Lib.hid hall
      have HX := Lib.hid hx
      clear hbq hall hx hr0 hp
      cases bq
      · go_wp2_with (refine HX.out.mono ?_; rintro e w' ⟨rfl, hB2⟩)
        go_roundw
        case rel =>
          refine ⟨j + 1, by omega, by go_num, ?_, ?_⟩
          · intro k hk
            by_cases e : k = j
            · subst e; exact Hbq.out
            · exact Hall.out k (by omega)
          · exact below_then hB hB.size hB2
        case measure => simp [intOf]; omega
      · go_wp2_with (refine HX.out.mono ?_; rintro e w' ⟨rfl, hB2⟩)
        go_ret
        exact ⟨by rw [idxP_at p 0 l0 j hlt Hall.out Hbq.out]; rfl, below_then hB hB.size hB2⟩
    · have e : j = l0.length := by omega
      subst e
      have Hall := Lib.hid hall
      clear hall hr0 hp
      go_wp2
      go_ret
      exact ⟨by rw [idxP_none p 0 l0 Hall.out]; rfl, hB⟩
theorem contains116 (g : Nat) (lb : Array Value) (p : Int → Bool) (eg : ∀ args w, (callFunc g args).run Try.prog w = .ok (.enter g args) w) (A0 : Option Addr) (c0 : Nat) (l0 : List Int) (w : World)
    (hr0 : (Kd.int .i64).C w A0 l0.length l0) (hc0 : l0.length ≤ c0) (hp : TellsI g lb p w) :
    Calls Try.prog 116 #[.slice A0 l0.length c0, .func (.func g) #[] lb] w fun e w' => e = .returned (.bool (l0.any p)) ∧ Below w.heap.size w w' := by
  have hx := index138 g lb p eg A0 c0 l0 w hr0 hc0 hp
  have ha := idxP_any p l0
  generalize idxP p l0 = j at hx ha
  have Ha := Lib.hid ha
  have HX := Lib.hid hx
  clear hx ha hr0 hp eg
  go_enter Try.func116, Try.ntmps116
  go_wp2_with (refine HX.out.mono ?_; rintro e w' ⟨rfl, hB⟩)
  go_ret
  exact ⟨by rw [← Ha.out]; rfl, hB⟩
set_option maxHeartbeats 1000000 in
theorem index119 (g : Nat) (lb : Array Value) (p : S34 → Bool) (eg : ∀ args w, (callFunc g args).run Try.prog w = .ok (.enter g args) w) (A0 : Option Addr) (c0 : Nat) (l0 : List S34) (w : World)
    (hr0 : Kd.C k34 w A0 l0.length l0) (hc0 : l0.length ≤ c0) (hp : Tells34 g lb p w) :
    Calls Try.prog 119 #[.slice A0 l0.length c0, .func (.func g) #[] lb] w fun e w' => e = .returned (.int .i64 (idxP p l0)) ∧ Below w.heap.size w w' := by
  have hm : l0.length ≤ 9223372036854775807 := hr0.2.1
  go_enter Try.func119, Try.ntmps119
  go_wp2
  go_loopw [5, 8] (fun a i wr => ∃ j : Nat, j ≤ l0.length ∧ i = .int .i64 j ∧ (∀ k, k < j → p (l0.getD k z34) = false) ∧ Below w.heap.size w wr) (fun _ i _ => l0.length - (intOf i).toNat)
  case atStart => exact ⟨0, Nat.zero_le _, rfl, fun k hk => absurd hk (Nat.not_lt_zero _), Below.refl _ _⟩
  case round =>
    obtain ⟨j, hj, rfl, hall, hB⟩ := hrel
    by_cases hlt : j < l0.length
    · obtain ⟨ad, A1, c1, rfl, h1, h2, h3, h4⟩ := at_T34 (Kd.C_below hr0 hB) j (by omega) (by omega)
      simp only [Int.toNat_natCast] at h1 h2
      have hx := hp (rd_T34 l0 j) A1 c1 wr hB h3 h4
      generalize hbq : p (rd_T34 l0 j) = bq at hx
      have Hbq := Lib.hid hbq
      have Hall := Lib.hid hall
      have HX := Lib.hid hx
      clear hbq hall hx hr0 hp h4
      cases bq
      · go_wp2_with (refine HX.out.mono ?_; rintro e w' ⟨rfl, hB2⟩)
        go_roundw
        case rel =>
          refine ⟨j + 1, by omega, by go_num, ?_, ?_⟩
          · intro k hk
            by_cases e : k = j
            · subst e; exact Hbq.out
            · exact Hall.out k (by omega)
          · exact below_then hB hB.size hB2
        case measure => simp [intOf]; omega
      · go_wp2_with (refine HX.out.mono ?_; rintro e w' ⟨rfl, hB2⟩)
        go_ret
        exact ⟨by rw [idxP_at p z34 l0 j hlt Hall.out Hbq.out]; rfl, below_then hB hB.size hB2⟩
    · have e : j = l0.length := by omega
      subst e
      have Hall := Lib.hid hall
      clear hall hr0 hp
      go_wp2
      go_ret
      exact ⟨by rw [idxP_none p z34 l0 Hall.out]; rfl, hB⟩
theorem contains65 (g : Nat) (lb : Array Value) (p : S34 → Bool) (eg : ∀ args w, (callFunc g args).run Try.prog w = .ok (.enter g args) w) (A0 : Option Addr) (c0 : Nat) (l0 : List S34) (w : World)
    (hr0 : Kd.C k34 w A0 l0.length l0) (hc0 : l0.length ≤ c0) (hp : Tells34 g lb p w) :
    Calls Try.prog 65 #[.slice A0 l0.length c0, .func (.func g) #[] lb] w fun e w' => e = .returned (.bool (l0.any p)) ∧ Below w.heap.size w w' := by
  have hx := index119 g lb p eg A0 c0 l0 w hr0 hc0 hp
  have ha := idxP_any p l0
  generalize idxP p l0 = j at hx ha
  have Ha := Lib.hid ha
  have HX := Lib.hid hx
  clear hx ha hr0 hp eg
  go_enter Try.func65, Try.ntmps65
  go_wp2_with (refine HX.out.mono ?_; rintro e w' ⟨rfl, hB⟩)
  go_ret
  exact ⟨by rw [← Ha.out]; rfl, hB⟩
end Go.Proofs.Ytenaegjiggodkaa.PV

/- The contracts of video's pixels and Agree: the walks. -/
namespace Go.Proofs.Ytenaegjiggodkaa.PV
open Go.RowKit Go.Proofs.YtenaegjiggodkaaW.PrintWords Go.Proofs.YtenaegjiggodkaaW.PrintLast Go.Proofs.YtenaegjiggodkaaW.PrintMore
set_option linter.unusedVariables false
set_option linter.unusedSimpArgs false
theorem modifiers95 (n : Int) (w : World) : Calls Try.prog 95 #[.int .i64 n] w fun e w' => e = .returned (.bool (okMB n)) ∧ w = w' := by
  by_cases h1 : n = 0
  · subst h1
    go_enter Try.func95, Try.ntmps95
    go_wp2
    go_ret
    exact ⟨rfl, rfl⟩
  · have h2 : (n == 0) = false := by simp [h1]
    go_enter Try.func95, Try.ntmps95
    go_wp2
    go_ret
    exact ⟨ret_bool (by unfold okMB; simp [h1]), rfl⟩
theorem formats115 (n : Int) (w : World) : Calls Try.prog 115 #[.int .i64 n] w fun e w' => e = .returned (.bool (okFB n)) ∧ w = w' := by
  by_cases h1 : 1 ≤ n
  · go_enter Try.func115, Try.ntmps115
    go_wp2
    go_ret
    exact ⟨ret_bool (by unfold okFB; simp; omega), rfl⟩
  · go_enter Try.func115, Try.ntmps115
    go_wp2
    go_ret
    exact ⟨ret_bool (by unfold okFB; simp; omega), rfl⟩
theorem tells117 (w : World) : TellsI 117 #[] (fun m => !okMB m) w := by
  intro x W hW
  rw [Array.append_empty]
  show Calls Try.prog 117 #[.int .i64 x] W fun e W' => e = .returned (.bool (!okMB x)) ∧ Below W.heap.size W W'
  have hm := fun W => modifiers95 x W
  generalize okMB x = b at *
  have Hm := Lib.hid hm
  clear hm
  go_enter Try.func117, Try.ntmps117
  go_wp2_with (go_at_call 95; refine (Hm.out _).mono ?_; rintro e w' ⟨rfl, rfl⟩)
  go_ret
  exact ⟨rfl, Below.refl _ _⟩
theorem tells118 (w : World) : Tells34 118 #[] longPx w := by
  intro x A1 c1 W hW hc hC
  rw [Array.append_empty]
  have hl : longPx x = decide (10 < x.f1.length) := rfl
  have hm : x.f1.length ≤ 9223372036854775807 := hC.2.1
  obtain ⟨f, l⟩ := x
  dsimp only at *
  rw [hl]
  clear hl hC
  by_cases h : 10 < l.length
  · go_enter Try.func118, Try.ntmps118
    go_wp2
    go_ret
    exact ⟨ret_bool (by simp [h]; try omega), (Below.refl _ _).alloc (Nat.le_refl _) _⟩
  · go_enter Try.func118, Try.ntmps118
    go_wp2
    go_ret
    exact ⟨ret_bool (by simp [h]; try omega), (Below.refl _ _).alloc (Nat.le_refl _) _⟩
set_option maxHeartbeats 1000000 in
theorem pixels64 (A0 : Option Addr) (c0 : Nat) (l0 : List S34) (w : World) (hr0 : Kd.C k34 w A0 l0.length l0) (hc0 : l0.length ≤ c0) :
    Calls Try.prog 64 #[.slice A0 l0.length c0] w fun e w' => e = .returned (.int .i64 (pixelsR l0)) ∧ Below w.heap.size w w' := by
  have hm : l0.length ≤ 9223372036854775807 := hr0.2.1
  go_enter Try.func64, Try.ntmps64
  go_wp2
  go_loopw [7] (fun i wr => ∃ j : Nat, j ≤ l0.length ∧ i = .int .i64 j ∧ (∀ k, k < j → badPx (l0.getD k z34) = false) ∧ Below w.heap.size w wr) (fun i _ => l0.length - (intOf i).toNat)
  case atStart => exact ⟨0, Nat.zero_le _, rfl, fun k hk => absurd hk (Nat.not_lt_zero _), Below.refl _ _⟩
  case round =>
    obtain ⟨j, hj, rfl, hall, hB⟩ := hrel
    by_cases hlt : j < l0.length
    · obtain ⟨ad, A1, c1, rfl, h1, h2, h3, h4⟩ := at_T34 (Kd.C_below hr0 hB) j (by omega) (by omega)
      simp only [Int.toNat_natCast] at h1 h2
      have hbad : badPx (l0.getD j z34) = (!okFB (rd_T34 l0 j).f0 || (rd_T34 l0 j).f1.any fun m => !okMB m) := rfl
      have hok : ∀ k, k < j + 1 → badPx (l0.getD j z34) = false → badPx (l0.getD k z34) = false := fun k hk hb => by
        by_cases e : k = j
        · subst e; exact hb
        · exact hall k (by omega)
      have hpx : badPx (l0.getD j z34) = true → pixelsR l0 = 7 := fun hb => by unfold pixelsR; rw [if_pos (any_here badPx z34 l0 j hlt hb)]
      generalize rd_T34 l0 j = x at *
      obtain ⟨f, ms⟩ := x
      dsimp only at h1 h2 h3 h4 hbad
      have hf := fun W => formats115 f W
      have hms := fun (W : World) (hW : Below wr.heap.size wr W) => contains116 117 #[] (fun m => !okMB m) (enters_of Try.func117 (by kernel_rfl) rfl) A1 c1 ms W (Kd.C_below h4 hW) h3 (tells117 W)
      generalize (ms.any fun m => !okMB m) = bm at *
      generalize okFB f = bf at *
      have Hf := Lib.hid hf
      have Hms := Lib.hid hms
      have Hok := Lib.hid hok
      have Hpx := Lib.hid hpx
      have Hbad := Lib.hid hbad
      have Hall := Lib.hid hall
      clear hf hms hok hpx hbad hall hr0 h4
      have hBa := (Below.refl wr.heap.size wr).alloc (Nat.le_refl _) (.cells #[.int .i64 f, .slice A1 ms.length c1] 34)
      have hBw := hB.alloc hB.size (.cells #[.int .i64 f, .slice A1 ms.length c1] 34)
      cases bf
      · go_wp2_with (go_at_call 115; refine (Hf.out _).mono ?_; rintro e w' ⟨rfl, rfl⟩)
        go_ret
        exact ⟨by rw [Hpx.out (by rw [Hbad.out]; rfl)]; rfl, hBw⟩
      · cases bm
        · go_wp2_with (first | (go_at_call 115; refine (Hf.out _).mono ?_; rintro e w' ⟨rfl, rfl⟩) | (go_at_call 116; refine (Hms.out _ hBa).mono ?_; rintro e w2 ⟨rfl, hB2⟩))
          go_roundw
          case rel => exact ⟨j + 1, by omega, by go_num, fun k hk => Hok.out k hk (by rw [Hbad.out]; rfl), hBw.trans (hB2.mono hBw.size)⟩
          case measure => simp [intOf]; omega
        · go_wp2_with (first | (go_at_call 115; refine (Hf.out _).mono ?_; rintro e w' ⟨rfl, rfl⟩) | (go_at_call 116; refine (Hms.out _ hBa).mono ?_; rintro e w2 ⟨rfl, hB2⟩))
          go_ret
          exact ⟨by rw [Hpx.out (by rw [Hbad.out]; rfl)]; rfl, hBw.trans (hB2.mono hBw.size)⟩
    · have e : j = l0.length := by omega
      subst e
      have hno : ¬ l0.any badPx = true := by rw [any_upto badPx z34 l0 hall]; simp
      have hc := contains65 118 #[] longPx (enters_of Try.func118 (by kernel_rfl) rfl) A0 c0 l0 wr (Kd.C_below hr0 hB) hc0 (tells118 wr)
      have hp : pixelsR l0 = if 10 < l0.length ∨ l0.any longPx = true then 4 else 0 := by unfold pixelsR; rw [if_neg hno]
      generalize l0.any longPx = bl at hc hp
      have Hc := Lib.hid hc
      have Hp := Lib.hid hp
      clear hc hall hr0 hno hp
      by_cases h10 : 10 < l0.length
      · have h10b : decide ((10 : Int) < (l0.length : Int)) = true := by simp; omega
        go_wp2
        go_ret
        exact ⟨by rw [Hp.out, if_pos (Or.inl h10)]; rfl, hB⟩
      · cases bl
        · go_wp2_with (go_at_call 65; refine Hc.out.mono ?_; rintro e w2 ⟨rfl, hB2⟩)
          go_ret
          exact ⟨by rw [Hp.out, if_neg (by simp; omega)]; rfl, hB.trans (hB2.mono hB.size)⟩
        · go_wp2_with (go_at_call 65; refine Hc.out.mono ?_; rintro e w2 ⟨rfl, hB2⟩)
          go_ret
          exact ⟨by rw [Hp.out, if_pos (Or.inr trivial)]; rfl, hB.trans (hB2.mono hB.size)⟩
end Go.Proofs.Ytenaegjiggodkaa.PV

/- The contract of video's Agree. -/
namespace Go.Proofs.Ytenaegjiggodkaa.PV
open Go.RowKit Go.Proofs.YtenaegjiggodkaaW.PrintWords Go.Proofs.YtenaegjiggodkaaW.PrintLast Go.Proofs.YtenaegjiggodkaaW.PrintMore
set_option linter.unusedVariables false
set_option linter.unusedSimpArgs false
set_option maxHeartbeats 1000000 in
theorem index120 (A0 : Option Addr) (c0 : Nat) (l0 : List Int) (x : Int) (w : World) (hr0 : (Kd.int .i64).C w A0 l0.length l0) (hc0 : l0.length ≤ c0) :
    Calls Try.prog 120 #[.slice A0 l0.length c0, .int .i64 x] w fun e w' => e = .returned (.int .i64 (idxP (fun y => decide (x = y)) l0)) ∧ w = w' := by
  have hm : l0.length ≤ 9223372036854775807 := hr0.2.1
  go_enter Try.func120, Try.ntmps120
  go_wp2
  go_loop [8] (fun i => ∃ j : Nat, j ≤ l0.length ∧ i = .int .i64 j ∧ (∀ k, k < j → decide (x = l0.getD k 0) = false)) (fun i => l0.length - (intOf i).toNat)
  case atStart => exact ⟨0, Nat.zero_le _, rfl, fun k hk => absurd hk (Nat.not_lt_zero _)⟩
  case round =>
    obtain ⟨j, hj, rfl, hall⟩ := hrel
    by_cases hlt : j < l0.length
    · obtain ⟨ad, rfl, h1⟩ := Kd.at_int hr0 j (by omega) (by omega)
      simp only [Int.toNat_natCast] at h1
      have hy : rd l0 (j : Int) = l0.getD j 0 := by unfold rd; rw [Int.toNat_natCast]
      rw [hy] at h1
      have hat := fun h => idxP_at (fun y => decide (x = y)) 0 l0 j hlt hall h
      have hnx : decide (x = l0.getD j 0) = false → ∀ k, k < j + 1 → decide (x = l0.getD k 0) = false := fun h k hk => by
        by_cases e : k = j
        · subst e; exact h
        · exact hall k (by omega)
      generalize l0.getD j 0 = y at *
      have Hat := Lib.hid hat
      have Hnx := Lib.hid hnx
      clear hat hnx hall hr0 hy
      by_cases e : x = y
      · subst e
        have eb : (x == x) = true := beq_self_eq_true x
        go_wp2
        go_ret
        exact ⟨by rw [Hat.out (by simp)]; rfl, rfl⟩
      · have eb : (x == y) = false := by simp [e]
        go_wp2
        go_round
        case rel => exact ⟨j + 1, by omega, by go_num, Hnx.out (by simp [e])⟩
        case measure => simp [intOf]; omega
    · have e : j = l0.length := by omega
      subst e
      have Hno := Lib.hid (idxP_none (fun y => decide (x = y)) 0 l0 hall)
      clear hall hr0
      go_wp2
      go_ret
      exact ⟨by rw [Hno.out]; rfl, rfl⟩
theorem any_contains (l : List Int) (x : Int) : (l.any fun y => decide (x = y)) = l.contains x := by
  induction l with
  | nil => rfl
  | cons y t ih => rw [List.any_cons, List.contains_cons, ih]; congr 1
theorem contains67 (A0 : Option Addr) (c0 : Nat) (l0 : List Int) (x : Int) (w : World) (hr0 : (Kd.int .i64).C w A0 l0.length l0) (hc0 : l0.length ≤ c0) :
    Calls Try.prog 67 #[.slice A0 l0.length c0, .int .i64 x] w fun e w' => e = .returned (.bool (l0.contains x)) ∧ w = w' := by
  have hx := index120 A0 c0 l0 x w hr0 hc0
  have ha := idxP_any (fun y => decide (x = y)) l0
  rw [any_contains] at ha
  generalize idxP (fun y => decide (x = y)) l0 = j at hx ha
  have Ha := Lib.hid ha
  have HX := Lib.hid hx
  clear hx ha hr0
  go_enter Try.func67, Try.ntmps67
  go_wp2_with (refine HX.out.mono ?_; rintro e w' ⟨rfl, rfl⟩)
  go_ret
  exact ⟨by rw [← Ha.out]; rfl, rfl⟩
def inPx (f m : Int) (q : S34) : Bool := decide (q.f0 = f) && q.f1.contains m
theorem closure66 (f m : Int) (Bp Bm : Nat) (x : S34) (A1 : Option Addr) (c1 : Nat) (W : World) (hp : W.cell? ⟨Bp, 0, none⟩ = some (.int .i64 f)) (hm : W.cell? ⟨Bm, 0, none⟩ = some (.int .i64 m)) (hc : x.f1.length ≤ c1) (hC : (Kd.int .i64).C W A1 x.f1.length x.f1) :
    Calls Try.prog 66 #[.agg #[.int .i64 x.f0, .slice A1 x.f1.length c1], .pointer (some ⟨Bp, 0, none⟩), .pointer (some ⟨Bm, 0, none⟩)] W fun e W' => e = .returned (.bool (inPx f m x)) ∧ Below W.heap.size W W' := by
  have hbp := World.block_lt_of_cell? W _ hp
  have hbm := World.block_lt_of_cell? W _ hm
  have np : ¬ Bp = W.heap.size := by simp at hbp; omega
  have nm : ¬ Bm = W.heap.size := by simp at hbm; omega
  obtain ⟨qf, ql⟩ := x
  dsimp only at *
  have hin : inPx f m ⟨qf, ql⟩ = (decide (qf = f) && ql.contains m) := rfl
  have hk := contains67 A1 c1 ql m (W.alloc (.cells #[.int .i64 qf, .slice A1 ql.length c1] 34)) (Kd.C_below hC (below_alloc (Below.refl _ _) _)) hc
  generalize ql.contains m = b at *
  have Hk := Lib.hid hk
  have Hin := Lib.hid hin
  clear hk hin hC
  by_cases e : qf = f
  · subst e
    have eb : (qf == qf) = true := beq_self_eq_true qf
    go_enter Try.func66, Try.ntmps66
    go_wp2_with (go_at_call 67; refine Hk.out.mono ?_; rintro e w' ⟨rfl, rfl⟩)
    go_ret
    exact ⟨by rw [Hin.out]; simp, (Below.refl _ _).alloc (Nat.le_refl _) _⟩
  · have eb : (qf == f) = false := by simp [e]
    go_enter Try.func66, Try.ntmps66
    go_wp2
    go_ret
    exact ⟨by rw [Hin.out]; simp [e], (Below.refl _ _).alloc (Nat.le_refl _) _⟩
theorem hasPx_eq (b : List S34) (f m : Int) : hasPx b f m = b.any (inPx f m) := rfl
theorem firstM_none (b : List S34) (f : Int) (l : List Int) (h : ∀ k, k < l.length → hasPx b f (l.getD k 0) = false) : firstM b f l = none := by
  unfold firstM
  rw [List.find?_eq_none]
  intro x hx
  obtain ⟨k, hk, rfl⟩ := List.getElem_of_mem hx
  have := h k hk
  rw [List.getD_eq_getElem?_getD, List.getElem?_eq_getElem hk] at this
  simp at this
  simp [this]
theorem firstM_at (b : List S34) (f : Int) (l : List Int) (j : Nat) (hj : j < l.length) (h : ∀ k, k < j → hasPx b f (l.getD k 0) = false) (h1 : hasPx b f (l.getD j 0) = true) : firstM b f l = some (l.getD j 0) := by
  unfold firstM
  rw [List.find?_eq_some_iff_getElem]
  have e : l.getD j 0 = l[j] := by rw [List.getD_eq_getElem?_getD, List.getElem?_eq_getElem hj]; rfl
  refine ⟨h1, j, hj, e.symm, fun k hk => ?_⟩
  have := h k hk
  rw [List.getD_eq_getElem?_getD, List.getElem?_eq_getElem (by omega)] at this
  simpa using this
theorem firstP_none (b : List S34) : ∀ l : List S34, (∀ k, k < l.length → firstM b (l.getD k z34).f0 (l.getD k z34).f1 = none) → firstP b l = none
  | [], _ => rfl
  | p :: t, h => by
    have h0 := h 0 (by simp)
    simp at h0
    unfold firstP
    rw [h0]
    exact firstP_none b t (fun k hk => by have := h (k + 1) (by simpa using hk); simpa using this)
theorem firstP_at (b : List S34) : ∀ (l : List S34) (j : Nat) (m : Int), j < l.length → (∀ k, k < j → firstM b (l.getD k z34).f0 (l.getD k z34).f1 = none) → firstM b (l.getD j z34).f0 (l.getD j z34).f1 = some m → firstP b l = some ((l.getD j z34).f0, m)
  | [], j, m, hj, _, _ => by simp at hj
  | p :: t, 0, m, _, _, h1 => by
    simp at h1
    unfold firstP
    rw [h1]
    simp
  | p :: t, j + 1, m, hj, h, h1 => by
    have h0 := h 0 (by omega)
    simp at h0
    unfold firstP
    rw [h0]
    have := firstP_at b t j m (by simpa using hj) (fun k hk => by have := h (k + 1) (by omega); simpa using this) (by simpa using h1)
    simpa using this
theorem idx77_0 (w : World) : (Instr.index 77 (.agg #[.int .i64 7, .int .i64 4]) (.int .i64 0)).run Try.prog w = .ok (.int .i64 7) w := by kernel_rfl
theorem idx77_1 (w : World) : (Instr.index 77 (.agg #[.int .i64 7, .int .i64 4]) (.int .i64 1)).run Try.prog w = .ok (.int .i64 4) w := by kernel_rfl
end Go.Proofs.Ytenaegjiggodkaa.PV

/- Plain facts on lists of numbers: ascending lists, sorting and compacting, the numbers of a list each once. -/
namespace Go.Proofs.Ytenaegjiggodkaa.PV

abbrev Asc (l : List Int) : Prop := l.Pairwise (· < ·)
theorem asc_ext : ∀ (a b : List Int), Asc a → Asc b → (∀ x, x ∈ a ↔ x ∈ b) → a = b
  | [], [], _, _, _ => rfl
  | [], y :: t, _, _, h => absurd ((h y).2 (by simp)) (by simp)
  | x :: s, [], _, _, h => absurd ((h x).1 (by simp)) (by simp)
  | x :: s, y :: t, ha, hb, h => by
    rw [Asc, List.pairwise_cons] at ha hb
    have hxy : x = y := by
      have h1 := (h x).1 (by simp)
      have h2 := (h y).2 (by simp)
      rw [List.mem_cons] at h1 h2
      rcases h1 with h1 | h1
      · exact h1
      · rcases h2 with h2 | h2
        · exact h2.symm
        · have := ha.1 y h2; have := hb.1 x h1; omega
    subst hxy
    rw [asc_ext s t ha.2 hb.2 (fun z => ?_)]
    have hz := h z
    rw [List.mem_cons, List.mem_cons] at hz
    constructor
    · intro hs
      rcases hz.1 (.inr hs) with e | e
      · subst e; have := ha.1 z hs; omega
      · exact e
    · intro ht
      rcases hz.2 (.inr ht) with e | e
      · subst e; have := hb.1 z ht; omega
      · exact e
theorem mem_insL (x z : Int) : ∀ l : List Int, z ∈ insL x l ↔ z = x ∨ z ∈ l
  | [] => by simp [insL]
  | y :: t => by
    unfold insL
    split
    · simp
    · split
      · rename_i e; subst e; simp
      · rw [List.mem_cons, mem_insL x z t, List.mem_cons]
        constructor
        · rintro (h | h | h) <;> simp [h]
        · rintro (h | h | h) <;> simp [h]
theorem asc_insL (x : Int) : ∀ l : List Int, Asc l → Asc (insL x l)
  | [], _ => by simp [insL, Asc]
  | y :: t, h => by
    rw [Asc, List.pairwise_cons] at h
    unfold insL
    split
    · rw [Asc, List.pairwise_cons]
      refine ⟨fun z hz => ?_, List.pairwise_cons.2 h⟩
      rw [List.mem_cons] at hz
      rcases hz with rfl | hz
      · assumption
      · have := h.1 z hz; omega
    · split
      · exact List.pairwise_cons.2 h
      · rw [Asc, List.pairwise_cons]
        refine ⟨fun z hz => ?_, asc_insL x t h.2⟩
        rw [mem_insL] at hz
        rcases hz with rfl | hz
        · omega
        · exact h.1 z hz
theorem foldl_insL (l : List Int) : ∀ a : List Int, Asc a → Asc (l.foldl (fun acc x => insL x acc) a) ∧ ∀ z, z ∈ l.foldl (fun acc x => insL x acc) a ↔ z ∈ l ∨ z ∈ a := by
  induction l with
  | nil => intro a ha; exact ⟨ha, fun z => by simp⟩
  | cons x t ih =>
    intro a ha
    obtain ⟨h1, h2⟩ := ih (insL x a) (asc_insL x a ha)
    refine ⟨h1, fun z => ?_⟩
    rw [List.foldl_cons, h2, mem_insL, List.mem_cons]
    constructor
    · rintro (h | h | h) <;> simp [h]
    · rintro ((h | h) | h) <;> simp [h]
theorem asc_cutsL (l : List Int) : Asc (cutsL l) := (foldl_insL l [] (by simp [Asc])).1
theorem mem_cutsL (l : List Int) (z : Int) : z ∈ cutsL l ↔ z ∈ l := by rw [cutsL, (foldl_insL l [] (by simp [Asc])).2]; simp
theorem cutsL_length (l : List Int) : (cutsL l).length ≤ l.length := by
  have : ∀ (l a : List Int), (l.foldl (fun acc x => insL x acc) a).length ≤ l.length + a.length := by
    intro l
    induction l with
    | nil => intro a; simp
    | cons x t ih =>
      intro a
      have h1 : ∀ b : List Int, (insL x b).length ≤ b.length + 1 := by
        intro b
        induction b with
        | nil => simp [insL]
        | cons y s ihs => unfold insL; split <;> (try split) <;> simp <;> omega
      have := ih (insL x a)
      have := h1 a
      simp only [List.foldl_cons, List.length_cons]
      omega
  have := this l []
  simpa [cutsL] using this

theorem compact_asc (d : Array Int) (hd : ∀ i j, i ≤ j → j < d.size → d[i]! ≤ d[j]!) : ∀ m, m ≤ d.size →
    Asc (Lib.compactUpTo d m) ∧ (∀ z, z ∈ Lib.compactUpTo d m ↔ ∃ j, j < m ∧ d[j]! = z) := by
  intro m
  induction m with
  | zero => intro _; exact ⟨by simp [Lib.compactUpTo, Asc], fun z => by simp [Lib.compactUpTo]⟩
  | succ m ih =>
    intro hm
    obtain ⟨h1, h2⟩ := ih (by omega)
    rw [Lib.compactUpTo_succ]
    by_cases hk : Lib.keeps d m = true
    · rw [if_pos hk]
      refine ⟨?_, fun z => ?_⟩
      · rw [Asc, List.pairwise_append]
        refine ⟨h1, by simp, fun a ha b hb => ?_⟩
        rw [List.mem_singleton] at hb
        subst hb
        obtain ⟨j, hj, rfl⟩ := (h2 a).1 ha
        have hle := hd j (m - 1) (by omega) (by omega)
        have hle2 := hd (m - 1) m (by omega) (by omega)
        simp [Lib.keeps] at hk
        rcases hk with hk | hk
        · omega
        · rcases Int.lt_or_lt_of_ne hk with h | h <;> omega
      · rw [List.mem_append, h2, List.mem_singleton]
        constructor
        · rintro (⟨j, hj, e⟩ | e)
          · exact ⟨j, by omega, e⟩
          · exact ⟨m, by omega, e.symm⟩
        · rintro ⟨j, hj, e⟩
          rcases Nat.lt_or_eq_of_le (Nat.le_of_lt_succ hj) with h | h
          · exact .inl ⟨j, h, e⟩
          · subst h; exact .inr e.symm
    · rw [if_neg hk, List.append_nil]
      refine ⟨h1, fun z => ?_⟩
      rw [h2]
      constructor
      · rintro ⟨j, hj, e⟩; exact ⟨j, by omega, e⟩
      · rintro ⟨j, hj, e⟩
        rcases Nat.lt_or_eq_of_le (Nat.le_of_lt_succ hj) with h | h
        · exact ⟨j, h, e⟩
        · subst h
          simp [Lib.keeps] at hk
          exact ⟨j - 1, by omega, by rw [← hk.2]; exact e⟩
/-- Sorted and compacted is: each number once, ascending. -/
theorem compact_sorted (l : List Int) : Lib.compact (l.mergeSort fun x y => decide (x ≤ y)) = cutsL l := by
  have hs : (l.mergeSort fun x y => decide (x ≤ y)).Pairwise (fun x y => decide (x ≤ y) = true) := List.pairwise_mergeSort (by intro a b c; simp; omega) (by intro a b; simp; omega) l
  have hp := List.mergeSort_perm l fun x y => decide (x ≤ y)
  generalize l.mergeSort (fun x y => decide (x ≤ y)) = s at *
  have hd : ∀ i j, i ≤ j → j < s.toArray.size → s.toArray[i]! ≤ s.toArray[j]! := by
    intro i j hij hj
    have hj' : j < s.length := by simpa using hj
    rcases Nat.lt_or_eq_of_le hij with h | h
    · have := List.pairwise_iff_getElem.1 hs i j (by omega) hj' h
      simp only [decide_eq_true_eq] at this
      simp [getElem!_pos, hj', show i < s.length by omega]
      exact this
    · subst h; exact Int.le_refl _
  obtain ⟨h1, h2⟩ := compact_asc s.toArray hd s.length (by simp)
  refine asc_ext _ _ h1 (asc_cutsL l) (fun z => ?_)
  rw [mem_cutsL]
  refine Iff.trans (h2 z) ?_
  rw [← hp.mem_iff]
  constructor
  · rintro ⟨j, hj, rfl⟩
    simp [getElem!_pos, hj]
  · intro hz
    obtain ⟨j, hj, rfl⟩ := List.getElem_of_mem hz
    exact ⟨j, hj, by simp [getElem!_pos, hj]⟩
end Go.Proofs.Ytenaegjiggodkaa.PV

/- The contract of video's edges: all numbers at which a rectangle begins or ends, ascending, each once. -/
namespace Go.Proofs.Ytenaegjiggodkaa.PV
open Go.RowKit Go.Proofs.YtenaegjiggodkaaW.PrintWords Go.Proofs.YtenaegjiggodkaaW.PrintLast Go.Proofs.YtenaegjiggodkaaW.PrintMore
set_option linter.unusedVariables false
set_option linter.unusedSimpArgs false

theorem okR_iff (r : S43) : okR r = true ↔ -10000 ≤ r.f0 ∧ r.f0 ≤ 10000 ∧ -10000 ≤ r.f1 ∧ r.f1 ≤ 10000 ∧ 0 ≤ r.f2 ∧ r.f2 ≤ 20000 ∧ 0 ≤ r.f3 ∧ r.f3 ≤ 20000 := by
  unfold okR; simp; omega

/-- What edges is handed: a function of a rectangle's two ends. -/
def Ends43 (g : Nat) (ex : S43 → Int × Int) : Prop :=
  ∀ (x : S43) (W : World), okR x = true → Calls Try.prog g #[.agg #[.int .i64 x.f0, .int .i64 x.f1, .int .i64 x.f2, .int .i64 x.f3]] W fun e W' => e = .returned (.tuple #[.int .i64 (ex x).1, .int .i64 (ex x).2]) ∧ Below W.heap.size W W'
theorem ends139 : Ends43 139 fun x => (x.f0, x.f0 + x.f2) := by
  intro x W hx
  obtain ⟨h1, h2, h3, h4, h5, h6, h7, h8⟩ := (okR_iff x).1 hx
  obtain ⟨a, b, c, d⟩ := x
  dsimp only at *
  clear hx
  go_enter Try.func139, Try.ntmps139
  go_wp2
  go_quiet (fail)
  go_wp2
  go_ret2
  exact ⟨rfl, pw_below_drewN ((Below.refl _ _).alloc (Nat.le_refl _) _) _⟩
theorem ends129 : Ends43 129 fun x => (x.f0, x.f0 + x.f2) := by
  intro x W hx
  obtain ⟨h1, h2, h3, h4, h5, h6, h7, h8⟩ := (okR_iff x).1 hx
  obtain ⟨a, b, c, d⟩ := x
  dsimp only at *
  clear hx
  go_enter Try.func129, Try.ntmps129
  go_wp2
  go_quiet (fail)
  go_wp2
  go_ret2
  exact ⟨rfl, pw_below_drewN ((Below.refl _ _).alloc (Nat.le_refl _) _) _⟩
theorem ends140 : Ends43 140 fun x => (x.f1, x.f1 + x.f3) := by
  intro x W hx
  obtain ⟨h1, h2, h3, h4, h5, h6, h7, h8⟩ := (okR_iff x).1 hx
  obtain ⟨a, b, c, d⟩ := x
  dsimp only at *
  clear hx
  go_enter Try.func140, Try.ntmps140
  go_wp2
  go_quiet (fail)
  go_wp2
  go_ret2
  exact ⟨rfl, pw_below_drewN ((Below.refl _ _).alloc (Nat.le_refl _) _) _⟩
theorem ends130 : Ends43 130 fun x => (x.f1, x.f1 + x.f3) := by
  intro x W hx
  obtain ⟨h1, h2, h3, h4, h5, h6, h7, h8⟩ := (okR_iff x).1 hx
  obtain ⟨a, b, c, d⟩ := x
  dsimp only at *
  clear hx
  go_enter Try.func130, Try.ntmps130
  go_wp2
  go_quiet (fail)
  go_wp2
  go_ret2
  exact ⟨rfl, pw_below_drewN ((Below.refl _ _).alloc (Nat.le_refl _) _) _⟩

def endsOf (ex : S43 → Int × Int) (l : List S43) : List Int := (l.filter fullR).flatMap fun r => [(ex r).1, (ex r).2]
theorem endsOf_take (ex : S43 → Int × Int) (l : List S43) (j : Nat) (hj : j < l.length) : endsOf ex (l.take (j + 1)) = endsOf ex (l.take j) ++ (if fullR (rd_T43 l j) = true then [(ex (rd_T43 l j)).1, (ex (rd_T43 l j)).2] else []) := by
  have e : l.take (j + 1) = l.take j ++ [rd_T43 l j] := by
    rw [List.take_succ_eq_append_getElem hj]
    unfold rd_T43
    simp [List.getD_eq_getElem?_getD, List.getElem?_eq_getElem hj]
  unfold endsOf
  rw [e, List.filter_append, List.flatMap_append]
  by_cases h : fullR (rd_T43 l j) = true
  · simp [h]
  · simp [h]
theorem endsOf_length (ex : S43 → Int × Int) (l : List S43) : (endsOf ex l).length ≤ 2 * l.length := by
  unfold endsOf
  induction l with
  | nil => simp
  | cons a t ih =>
    by_cases h : fullR a = true
    · simp [List.filter_cons, h] at ih ⊢; omega
    · simp [List.filter_cons, h] at ih ⊢; omega
theorem Try.info3_ : (Try.prog.info? 3).map (fun i => (i.zero, i.size, i.bytes)) = some (some (.int .i64 0), 1, 8) := by kernel_rfl

theorem own_R {w : World} {base : Nat} {v : Value} {xs : List Int} (h : w.ownsRow base 3 1 v xs.length (nums .i64 xs)) : Kd.R (Kd.int .i64) 3 w base (fun _ => True) v xs := Kd.R_of_own (enc := Value.int .i64) (h1 := fun _ => rfl) h (fun _ _ => trivial)
theorem R_own_ {w : World} {base : Nat} {v : Value} {xs : List Int} {ok : Nat → Prop} (h : Kd.R (Kd.int .i64) 3 w base ok v xs) : w.ownsRow base 3 1 v xs.length (nums .i64 xs) := Kd.own_of_R (enc := Value.int .i64) (h1 := fun _ => rfl) h
theorem sort142 (v : Value) (zs : List Int) (base : Nat) (w : World) (hO : w.ownsRow base 3 1 v zs.length (nums .i64 zs)) (hn : zs.length ≤ 1000000) :
    Calls Try.prog 142 #[v] w fun e w' => e = .returned (.tuple #[]) ∧ w'.ownsRow base 3 1 v zs.length (nums .i64 (zs.mergeSort fun x y => decide (x ≤ y))) ∧ w.grownBy w' v.ownBlock := by
  rcases hO.2 with ⟨rfl, h0⟩ | ⟨g, cap, cur, rfl, hbase, hb, h1, h2, h3, h4⟩
  · have e : zs = [] := by
      cases zs with
      | nil => rfl
      | cons a t => simp [nums] at h0
    subst e
    refine (Try.slices_Sort_int_none none 0 w).mono ?_
    rintro e w' ⟨rfl, rfl⟩
    exact ⟨rfl, by simpa using hO, World.grownBy.refl _ _⟩
  · obtain ⟨g', cap', e, _, hg, _, _, _, hH⟩ := Lib.holds_of_ownsRow (enc := Value.int .i64) (zs := zs) hO (by simp)
    injection e with e1 _ e3
    injection e1 with e1
    injection e1 with e1
    subst e1; subst e3
    refine (Try.slices_Sort_int g 0 cap zs w hH hg (by omega)).mono ?_
    rintro e w' ⟨rfl, n, os, rfl⟩
    refine ⟨rfl, ?_, ?_⟩
    · have := ownsRow_sortedI (w := w) (base := base) (g := g) (cap := cap) (n := n) (e := 3) (os := os) (cur := cur) (ss := zs) (ts := zs.mergeSort fun x y => decide (x ≤ y)) (by simp) hbase hb h1 h2 h3
      exact this
    · exact grownBy_sortedI _
theorem compact143 (v : Value) (zs : List Int) (base : Nat) (w : World) (hO : w.ownsRow base 3 1 v zs.length (nums .i64 zs)) (hn : zs.length ≤ 1000000) :
    Calls Try.prog 143 #[v] w fun e w' => ∃ v', e = .returned v' ∧ w'.ownsRow base 3 1 v' (Lib.compact zs).length (nums .i64 (Lib.compact zs)) ∧ w.grownBy w' v.ownBlock := by
  rcases hO.2 with ⟨rfl, h0⟩ | ⟨g, cap, cur, rfl, hbase, hb, h1, h2, h3, h4⟩
  · have e : zs = [] := by
      cases zs with
      | nil => rfl
      | cons a t => simp [nums] at h0
    subst e
    refine (Try.slices_Compact_int_empty none 0 w).mono ?_
    rintro e w' ⟨rfl, rfl⟩
    exact ⟨_, rfl, own_nil _ _ _ _, World.grownBy.refl _ _⟩
  · obtain ⟨g', cap', e, _, hg, _, _, _, hH⟩ := Lib.holds_of_ownsRow (enc := Value.int .i64) (zs := zs) hO (by simp)
    injection e with e1 _ e3
    injection e1 with e1
    injection e1 with e1
    subst e1; subst e3
    have hlen : (Lib.compact zs).length ≤ zs.length := by
      unfold Lib.compact Lib.compactUpTo
      rw [List.length_map]
      exact Nat.le_trans (List.length_filter_le _ _) (by simp)
    refine (Try.slices_Compact_int g 0 cap zs w hH (by omega) h1).mono ?_
    rintro e w' ⟨rfl, q, rfl⟩
    refine ⟨_, rfl, ?_, ?_⟩
    · have := Lib.ownsRow_putRow (enc := Value.int .i64) (q := q) (k := (Lib.compact zs).length) (ys := Lib.compact zs ++ List.replicate (zs.length - (Lib.compact zs).length) 0) hO (by simp; omega) hlen
      rw [List.take_left] at this
      exact this
    · refine ⟨rfl, rfl, rfl, by simp [Sort.putRow, Sort.mapBlock, Sort.ahead], fun k hk hne => ?_⟩
      have : g ≠ k := fun e => hne (by simp [Value.ownBlock, e])
      simp [Sort.putRow, Sort.mapBlock, Sort.ahead, Array.getElem?_modify, this]
set_option maxHeartbeats 2000000 in
theorem edges_any (g : Nat) (eg : ∀ args w, (callFunc g args).run Try.prog w = .ok (.enter g args) w) (ex : S43 → Int × Int) (hg : Ends43 g ex) (A0 : Option Addr) (c0 : Nat) (l0 : List S43) (w : World)
    (hr0 : Kd.C k43 w A0 l0.length l0) (hc0 : l0.length ≤ c0) (hok : l0.all okR = true) (hn : l0.length ≤ 10000) :
    Calls Try.prog 128 #[.slice A0 l0.length c0, .func (.func g) #[] #[]] w fun e w' => ∃ v : Value, e = .returned v ∧ Kd.R (Kd.int .i64) 3 w' w.heap.size (fun _ => True) v (cutsL (endsOf ex l0)) ∧ Below w.heap.size w w' := by
  have hm : l0.length ≤ 9223372036854775807 := hr0.2.1
  obtain ⟨i0, hi, hz0, hz1, hz2⟩ := info_parts Try.info3_
  go_enter Try.func128, Try.ntmps128
  go_wp2
  go_loopw [5, 12] (fun v i wr => ∃ (j : Nat), j ≤ l0.length ∧ i = .int .i64 j ∧ wr.ownsRow w.heap.size 3 1 v (endsOf ex (l0.take j)).length (nums .i64 (endsOf ex (l0.take j))) ∧ Below w.heap.size w wr) (fun _ i _ => l0.length - (intOf i).toNat)
  case atStart => exact ⟨0, Nat.zero_le _, rfl, own_nil _ _ _ _, Below.refl _ _⟩
  case round =>
    obtain ⟨j, hj, rfl, hO, hB⟩ := hrel
    by_cases hlt : j < l0.length
    · obtain ⟨ad, rfl, h1, h2, h3, h4⟩ := at_T43 (Kd.C_below hr0 hB) j (by omega) (by omega)
      simp only [Int.toNat_natCast] at h1 h2 h3 h4
      have hs := endsOf_take ex l0 j hlt
      have hx : okR (rd_T43 l0 j) = true := by
        have := List.all_eq_true.1 hok (l0[j]) (List.getElem_mem hlt)
        have e : rd_T43 l0 j = l0[j] := by unfold rd_T43; simp [List.getD_eq_getElem?_getD, List.getElem?_eq_getElem hlt]
        rw [e]; exact this
      have hg1 := fun W => hg (rd_T43 l0 j) W hx
      have hle := endsOf_length ex (l0.take j)
      have hle2 : (l0.take j).length = j := by simp; omega
      rw [hle2] at hle
      clear hle2
      generalize endsOf ex (l0.take j) = es at *
      generalize rd_T43 l0 j = x at *
      obtain ⟨a, b, c, d⟩ := x
      have HG := Lib.hid hg1
      dsimp only at h1 h2 h3 h4
      clear hg1 hx hg hr0 hok
      by_cases hf : 0 < c ∧ 0 < d
      · obtain ⟨hfc, hfd⟩ := hf
        have hd : fullR ⟨a, b, c, d⟩ = true := by simp [fullR]; omega
        rw [if_pos hd] at hs
        have Hs := Lib.hid hs
        clear hs hd
        have hlen : es.length + 2 ≤ 20000 := by omega
        generalize hex : ex ⟨a, b, c, d⟩ = p at *
        obtain ⟨p1, p2⟩ := p
        have HX := Lib.hid hex
        clear hex
        go_wp2_with fail
        refine (HG.out _).mono ?_
        rintro e w1 ⟨rfl, hB1⟩
        have hO1 := pw_own_below (hO.alloc (.cells #[.int .i64 a, .int .i64 b, .int .i64 c, .int .i64 d] 43)) hB1
        have hB2 := (hB.alloc hB.size (.cells #[.int .i64 a, .int .i64 b, .int .i64 c, .int .i64 d] 43)).trans (hB1.mono (by simp; have := hB.size; omega))
        clear HG hB1 hB hO
        go_wp2_with (at_builtin; refine wpList_append_own _ rfl _ _ 32 rfl w.heap.size 3 i0 (.int .i64 0) 1 8 Try.underlying32 hi hz0 hz1 hz2 rfl (by decide) _ _ _ rfl (hO1.alloc _) ⟨w1.heap.size, 0, none⟩ 2 2 [.int .i64 p1, .int .i64 p2] rfl rfl ?c1 ?c2 ?c3 ?c4 ?c5 ?_)
        case c1 => exact World.news_of_block (cs := #[.int .i64 p1, .int .i64 p2]) (t := 3) (fr := (0, 0)) (heap_alloc_new w1 _)
        case c2 => intro u hu; simp at hu; rcases hu with rfl | rfl <;> rfl
        case c3 => unfold maxLen; omega
        case c4 => omega
        case c5 => have := hB2.size; simp; omega
        intro v' w2 hO2 hG2 _
        have hB3 : Below w.heap.size w w2 := (hB2.alloc hB2.size _).grown hG2 (by have := hB2.size; simp; omega) (own_base hO1)
        clear hG2 hB2 hO1
        go_wp2
        go_roundw
        case rel => exact ⟨j + 1, by omega, by go_num, by rw [Hs.out]; simpa [nums] using hO2, hB3⟩
        case measure => simp [intOf]; omega
      · have hd : fullR ⟨a, b, c, d⟩ = false := by simp [fullR]; omega
        rw [if_neg (by rw [hd]; simp), List.append_nil] at hs
        have Hs := Lib.hid hs
        clear hs hd
        have hO1 := hO.alloc (.cells #[.int .i64 a, .int .i64 b, .int .i64 c, .int .i64 d] 43)
        have hB2 := hB.alloc hB.size (.cells #[.int .i64 a, .int .i64 b, .int .i64 c, .int .i64 d] 43)
        clear HG hO hB
        by_cases hc : 0 < c
        · have hd : ¬ 0 < d := fun h => hf ⟨hc, h⟩
          clear hf
          go_wp2
          go_roundw
          case rel => exact ⟨j + 1, by omega, by go_num, by rw [Hs.out]; exact hO1, hB2⟩
          case measure => simp [intOf]; omega
        · clear hf
          go_wp2
          go_roundw
          case rel => exact ⟨j + 1, by omega, by go_num, by rw [Hs.out]; exact hO1, hB2⟩
          case measure => simp [intOf]; omega
    · have e : j = l0.length := by omega
      subst e
      rw [List.take_length] at hO
      clear hlt hj hr0 hok hg eg
      have hlen := endsOf_length ex l0
      have hcs := compact_sorted (endsOf ex l0)
      have hml : ((endsOf ex l0).mergeSort fun x y => decide (x ≤ y)).length = (endsOf ex l0).length := by simp
      generalize hes : endsOf ex l0 = es at *
      have Hes := Lib.hid hes
      clear hes
      have HS := fun W h => sort142 u5 es w.heap.size W h (by omega)
      generalize es.mergeSort (fun x y => decide (x ≤ y)) = ss at *
      have HC := fun W h => compact143 u5 ss w.heap.size W h (by omega)
      rw [hcs] at HC
      have Hs := Lib.hid HS
      have Hc := Lib.hid HC
      have Hml := Lib.hid hml
      clear HS HC hml hcs
      go_wp2_with fail
      refine (Hs.out _ hO).mono ?_
      rintro e w1 ⟨rfl, hO1, hG1⟩
      have hB1 := hB.grown hG1 hB.size (own_base hO)
      rw [← Hml.out] at hO1
      clear hG1 hB hO
      go_wp2_with fail
      refine (Hc.out _ hO1).mono ?_
      rintro e w2 ⟨v2, rfl, hO2, hG2⟩
      have hB2 := hB1.grown hG2 hB1.size (own_base hO1)
      have hO3 := own_R hO2
      clear hG2 hB1 hO1 hO2 Hs Hc Hml hi hz0 hz1 hz2
      go_wp2
      go_ret
      exact ⟨v2, rfl, by rw [Hes.out]; exact hO3, hB2⟩
end Go.Proofs.Ytenaegjiggodkaa.PV

/- The contract of video's Agree: the walk. -/
namespace Go.Proofs.Ytenaegjiggodkaa.PV
open Go.RowKit Go.Proofs.YtenaegjiggodkaaW.PrintWords Go.Proofs.YtenaegjiggodkaaW.PrintLast Go.Proofs.YtenaegjiggodkaaW.PrintMore
set_option linter.unusedVariables false
set_option linter.unusedSimpArgs false
/-- How Agree's results lie. -/
def AgreeQ (w : World) (r : Int × List Int × Int) (e : Ending) (w' : World) : Prop :=
  ∃ v1 : Value, e = .returned (.tuple #[.agg #[.int .i64 r.1, v1], .int .i64 r.2.2]) ∧ Kd.R (Kd.int .i64) 3 w' w.heap.size (fun _ => True) v1 r.2.1 ∧ Below w.heap.size w w'
theorem own_one {W : World} {base g : Nat} {x : Int} (hb : base ≤ g) (hg : W.heap[g]? = some (.cells #[.int .i64 x] 3 (0, 0))) : Kd.R (Kd.int .i64) 3 W base (fun _ => True) (.slice (some ⟨g, 0, none⟩) 1 1) [x] :=
  own_R (xs := [x]) ⟨rfl, .inr ⟨g, 1, #[.int .i64 x], rfl, hb, hg, by simp, by simp [maxLen], rfl, rfl⟩⟩
set_option maxHeartbeats 2000000 in
theorem agree18 (A0 : Option Addr) (c0 : Nat) (l0 : List S34) (A1 : Option Addr) (c1 : Nat) (l1 : List S34) (w : World) (hr0 : Kd.C k34 w A0 l0.length l0) (hc0 : l0.length ≤ c0) (hr1 : Kd.C k34 w A1 l1.length l1) (hc1 : l1.length ≤ c1) :
    Calls Try.prog 18 #[.slice A0 l0.length c0, .slice A1 l1.length c1] w (AgreeQ w (agreeR l0 l1)) := by
  have hm : l0.length ≤ 9223372036854775807 := hr0.2.1
  obtain ⟨W0, hW0⟩ : ∃ W0, w.alloc (.cells #[.int .i64 0, .slice none 0 0] 34) = W0 := ⟨_, rfl⟩
  have hB0 : Below w.heap.size w W0 := by rw [← hW0]; exact (Below.refl _ _).alloc (Nat.le_refl _) _
  have hz0 : W0.heap[w.heap.size]? = some (.cells #[.int .i64 0, .slice none 0 0] 34 (0, 0)) := by rw [← hW0]; exact heap_alloc_new w _
  have hs0 : W0.heap.size = w.heap.size + 1 := by rw [← hW0]; simp
  have hp0 := fun W (h : Below W0.heap.size W0 W) => pixels64 A0 c0 l0 W (Kd.C_below (Kd.C_below hr0 hB0) h) hc0
  have hp1 := fun W (h : Below W0.heap.size W0 W) => pixels64 A1 c1 l1 W (Kd.C_below (Kd.C_below hr1 hB0) h) hc1
  have h0r := fun W (h : Below W0.heap.size W0 W) => Kd.C_below (Kd.C_below hr0 hB0) h
  have h1r := fun W (h : Below W0.heap.size W0 W) => Kd.C_below (Kd.C_below hr1 hB0) h
  have h7 : pixelsR l0 = 7 ∨ pixelsR l1 = 7 → agreeR l0 l1 = (0, [], 7) := fun h => by unfold agreeR; rw [if_pos h]
  have h4 : ¬ (pixelsR l0 = 7 ∨ pixelsR l1 = 7) → (pixelsR l0 = 4 ∨ pixelsR l1 = 4) → agreeR l0 l1 = (0, [], 4) := fun h h' => by unfold agreeR; rw [if_neg h, if_pos h']
  have hno : ¬ (pixelsR l0 = 7 ∨ pixelsR l1 = 7) → ¬ (pixelsR l0 = 4 ∨ pixelsR l1 = 4) → firstP l1 l0 = none → agreeR l0 l1 = (0, [], 13) := fun h h' h'' => by unfold agreeR; rw [if_neg h, if_neg h', h'']
  have hyes : ∀ f m, ¬ (pixelsR l0 = 7 ∨ pixelsR l1 = 7) → ¬ (pixelsR l0 = 4 ∨ pixelsR l1 = 4) → firstP l1 l0 = some (f, m) → agreeR l0 l1 = (f, [m], 0) := fun f m h h' h'' => by unfold agreeR; rw [if_neg h, if_neg h', h'']
  have hcell : ∀ W, Below W0.heap.size W0 W → W.heap[w.heap.size]? = some (.cells #[.int .i64 0, .slice none 0 0] 34 (0, 0)) := fun W h => (h.block _ (by omega)).trans hz0
  generalize pixelsR l0 = pa at *
  generalize pixelsR l1 = pb at *
  generalize agreeR l0 l1 = R at *
  have Hp0 := Lib.hid hp0
  have Hp1 := Lib.hid hp1
  have H0r := Lib.hid h0r
  have H1r := Lib.hid h1r
  have H7 := Lib.hid h7
  have H4 := Lib.hid h4
  have Hno := Lib.hid hno
  have Hyes := Lib.hid hyes
  have Hcell := Lib.hid hcell
  have HB0 := Lib.hid hB0
  have HW0 := Lib.hid hW0
  have Hs0 := Lib.hid hs0
  clear hp0 hp1 h0r h1r h7 h4 hno hyes hcell hB0 hz0 hs0 hr0 hr1 hW0
  have i0 := idx77_0
  have i1 := idx77_1
  go_enter Try.func18, Try.ntmps18
  go_wp2
  rw [HW0.out]
  go_loopw [7, 13] (fun _ i wr => ∃ j : Nat, j ≤ 2 ∧ i = .int .i64 j ∧ (1 ≤ j → ¬ (pa = 7 ∨ pb = 7)) ∧ (2 ≤ j → ¬ (pa = 4 ∨ pb = 4)) ∧ Below W0.heap.size W0 wr) (fun _ i _ => 2 - (intOf i).toNat)
  case atStart => exact ⟨0, by omega, rfl, fun h => absurd h (by omega), fun h => absurd h (by omega), Below.refl _ _⟩
  case round =>
    obtain ⟨j, hj, rfl, hn7, hn4, hB⟩ := hrel
    rcases (show j = 0 ∨ j = 1 ∨ j = 2 by omega) with rfl | rfl | rfl
    · by_cases ea : pa = 7
      · have eab : (pa == 7) = true := beq_iff_eq.2 ea
        have hr : R = (0, [], 7) := H7.out (Or.inl ea)
        have Hr := Lib.hid hr
        clear ea hr hn7 hn4
        go_wp2_with fail
        refine (Hp0.out _ hB).mono ?_
        rintro e w1 ⟨rfl, hB1⟩
        have hB2 := hB.trans (hB1.mono hB.size)
        have cz := Hcell.out w1 hB2
        have g0 : w1.cell? ⟨w.heap.size, 0, none⟩ = some (.int .i64 0) := by simp [World.cell?, cz]
        have g1 : w1.cell? ⟨w.heap.size, 1, none⟩ = some (.slice none 0 0) := by simp [World.cell?, cz]
        have f0 : w1.frozen? ⟨w.heap.size, 0, none⟩ = false := by simp [World.frozen?, cz]
        have f1 : w1.frozen? ⟨w.heap.size, 1, none⟩ = false := by simp [World.frozen?, cz]
        have Cz := Lib.hid cz
        clear cz
        go_wp2
        refine bodyPost_ret (results_ct rfl _ _ w.heap.size 34 #[.int .i64 0, .slice none 0 0] (0, 0) _ rfl ?_ Try.underlying34 rfl (by kernel_rfl)) rfl ?_
        · refine blk_put (cs := #[.int .i64 0, .slice none 0 0]) ?_ 1 _ rfl
          refine blk_put (cs := #[.int .i64 0, .slice none 0 0]) ?_ 0 _ rfl
          exact Cz.out
        · rw [Hr.out]
          exact ⟨.slice none 0 0, rfl, Kd.R_nil _ _ _ _ _, ((HB0.out.trans (hB2.mono HB0.out.size)).setCell (Nat.le_refl _) _).setCell (Nat.le_refl _) _⟩
      · have eab : (pa == 7) = false := beq_eq_false_iff_ne.2 ea
        by_cases eb : pb = 7
        · have ebb : (pb == 7) = true := beq_iff_eq.2 eb
          have hr : R = (0, [], 7) := H7.out (Or.inr eb)
          have Hr := Lib.hid hr
          clear ea eb hr hn7 hn4
          go_wp2_with fail
          refine (Hp0.out _ hB).mono ?_
          rintro e w1 ⟨rfl, hB1⟩
          have hB2 := hB.trans (hB1.mono hB.size)
          go_wp2_with fail
          refine (Hp1.out _ hB2).mono ?_
          rintro e w2 ⟨rfl, hB3⟩
          have hB4 := hB2.trans (hB3.mono hB2.size)
          have cz := Hcell.out w2 hB4
          have g0 : w2.cell? ⟨w.heap.size, 0, none⟩ = some (.int .i64 0) := by simp [World.cell?, cz]
          have g1 : w2.cell? ⟨w.heap.size, 1, none⟩ = some (.slice none 0 0) := by simp [World.cell?, cz]
          have f0 : w2.frozen? ⟨w.heap.size, 0, none⟩ = false := by simp [World.frozen?, cz]
          have f1 : w2.frozen? ⟨w.heap.size, 1, none⟩ = false := by simp [World.frozen?, cz]
          have Cz := Lib.hid cz
          clear cz
          go_wp2
          refine bodyPost_ret (results_ct rfl _ _ w.heap.size 34 #[.int .i64 0, .slice none 0 0] (0, 0) _ rfl ?_ Try.underlying34 rfl (by kernel_rfl)) rfl ?_
          · refine blk_put (cs := #[.int .i64 0, .slice none 0 0]) ?_ 1 _ rfl
            refine blk_put (cs := #[.int .i64 0, .slice none 0 0]) ?_ 0 _ rfl
            exact Cz.out
          · rw [Hr.out]
            exact ⟨.slice none 0 0, rfl, Kd.R_nil _ _ _ _ _, ((HB0.out.trans (hB4.mono HB0.out.size)).setCell (Nat.le_refl _) _).setCell (Nat.le_refl _) _⟩
        · have ebb : (pb == 7) = false := beq_eq_false_iff_ne.2 eb
          have Hn := Lib.hid (show ¬ (pa = 7 ∨ pb = 7) from fun h => h.elim ea eb)
          have Hn7 := Lib.hid hn7
          clear ea eb hn7 hn4
          go_wp2_with fail
          refine (Hp0.out _ hB).mono ?_
          rintro e w1 ⟨rfl, hB1⟩
          have hB2 := hB.trans (hB1.mono hB.size)
          go_wp2_with fail
          refine (Hp1.out _ hB2).mono ?_
          rintro e w2 ⟨rfl, hB3⟩
          have hB4 := hB2.trans (hB3.mono hB2.size)
          go_wp2
          go_roundw
          case rel => exact ⟨1, by omega, rfl, fun _ => Hn.out, fun h => absurd h (by omega), hB4⟩
          case measure => simp [intOf]
    · by_cases ea : pa = 4
      · have eab : (pa == 4) = true := beq_iff_eq.2 ea
        have hr : R = (0, [], 4) := H4.out (hn7 (by omega)) (Or.inl ea)
        have Hr := Lib.hid hr
        clear ea hr hn7 hn4
        go_wp2_with fail
        refine (Hp0.out _ hB).mono ?_
        rintro e w1 ⟨rfl, hB1⟩
        have hB2 := hB.trans (hB1.mono hB.size)
        have cz := Hcell.out w1 hB2
        have g0 : w1.cell? ⟨w.heap.size, 0, none⟩ = some (.int .i64 0) := by simp [World.cell?, cz]
        have g1 : w1.cell? ⟨w.heap.size, 1, none⟩ = some (.slice none 0 0) := by simp [World.cell?, cz]
        have f0 : w1.frozen? ⟨w.heap.size, 0, none⟩ = false := by simp [World.frozen?, cz]
        have f1 : w1.frozen? ⟨w.heap.size, 1, none⟩ = false := by simp [World.frozen?, cz]
        have Cz := Lib.hid cz
        clear cz
        go_wp2
        refine bodyPost_ret (results_ct rfl _ _ w.heap.size 34 #[.int .i64 0, .slice none 0 0] (0, 0) _ rfl ?_ Try.underlying34 rfl (by kernel_rfl)) rfl ?_
        · refine blk_put (cs := #[.int .i64 0, .slice none 0 0]) ?_ 1 _ rfl
          refine blk_put (cs := #[.int .i64 0, .slice none 0 0]) ?_ 0 _ rfl
          exact Cz.out
        · rw [Hr.out]
          exact ⟨.slice none 0 0, rfl, Kd.R_nil _ _ _ _ _, ((HB0.out.trans (hB2.mono HB0.out.size)).setCell (Nat.le_refl _) _).setCell (Nat.le_refl _) _⟩
      · have eab : (pa == 4) = false := beq_eq_false_iff_ne.2 ea
        by_cases eb : pb = 4
        · have ebb : (pb == 4) = true := beq_iff_eq.2 eb
          have hr : R = (0, [], 4) := H4.out (hn7 (by omega)) (Or.inr eb)
          have Hr := Lib.hid hr
          clear ea eb hr hn7 hn4
          go_wp2_with fail
          refine (Hp0.out _ hB).mono ?_
          rintro e w1 ⟨rfl, hB1⟩
          have hB2 := hB.trans (hB1.mono hB.size)
          go_wp2_with fail
          refine (Hp1.out _ hB2).mono ?_
          rintro e w2 ⟨rfl, hB3⟩
          have hB4 := hB2.trans (hB3.mono hB2.size)
          have cz := Hcell.out w2 hB4
          have g0 : w2.cell? ⟨w.heap.size, 0, none⟩ = some (.int .i64 0) := by simp [World.cell?, cz]
          have g1 : w2.cell? ⟨w.heap.size, 1, none⟩ = some (.slice none 0 0) := by simp [World.cell?, cz]
          have f0 : w2.frozen? ⟨w.heap.size, 0, none⟩ = false := by simp [World.frozen?, cz]
          have f1 : w2.frozen? ⟨w.heap.size, 1, none⟩ = false := by simp [World.frozen?, cz]
          have Cz := Lib.hid cz
          clear cz
          go_wp2
          refine bodyPost_ret (results_ct rfl _ _ w.heap.size 34 #[.int .i64 0, .slice none 0 0] (0, 0) _ rfl ?_ Try.underlying34 rfl (by kernel_rfl)) rfl ?_
          · refine blk_put (cs := #[.int .i64 0, .slice none 0 0]) ?_ 1 _ rfl
            refine blk_put (cs := #[.int .i64 0, .slice none 0 0]) ?_ 0 _ rfl
            exact Cz.out
          · rw [Hr.out]
            exact ⟨.slice none 0 0, rfl, Kd.R_nil _ _ _ _ _, ((HB0.out.trans (hB4.mono HB0.out.size)).setCell (Nat.le_refl _) _).setCell (Nat.le_refl _) _⟩
        · have ebb : (pb == 4) = false := beq_eq_false_iff_ne.2 eb
          have Hn := Lib.hid (show ¬ (pa = 4 ∨ pb = 4) from fun h => h.elim ea eb)
          have Hn7 := Lib.hid hn7
          clear ea eb hn7 hn4
          go_wp2_with fail
          refine (Hp0.out _ hB).mono ?_
          rintro e w1 ⟨rfl, hB1⟩
          have hB2 := hB.trans (hB1.mono hB.size)
          go_wp2_with fail
          refine (Hp1.out _ hB2).mono ?_
          rintro e w2 ⟨rfl, hB3⟩
          have hB4 := hB2.trans (hB3.mono hB2.size)
          go_wp2
          go_roundw
          case rel => exact ⟨2, by omega, rfl, fun _ => Hn7.out (by omega), fun _ => Hn.out, hB4⟩
          case measure => simp [intOf]
    · have hn7' := hn7 (by omega)
      have hn4' := hn4 (by omega)
      have HN := Lib.hid (And.intro hn7' hn4')
      clear hn7 hn4 hn7' hn4' i0 i1
      go_wp2
      rw [show ((2 : Nat) : Int) = 2 from rfl]
      go_loopw [31] (fun i wr => ∃ j : Nat, j ≤ l0.length ∧ i = .int .i64 j ∧ (∀ k, k < j → firstM l1 (l0.getD k z34).f0 (l0.getD k z34).f1 = none) ∧ Below W0.heap.size W0 wr) (fun i _ => l0.length - (intOf i).toNat)
      case atStart => exact ⟨0, Nat.zero_le _, rfl, fun k hk => absurd hk (Nat.not_lt_zero _), hB⟩
      case round =>
        clear hB
        obtain ⟨j, hj, rfl, hall, hB⟩ := hrel
        by_cases hlt : j < l0.length
        · have hC0 := H0r.out _ hB
          obtain ⟨ad, A2, c2, e0, h1, h2, h3, h4⟩ := at_T34 hC0 j (by omega) (by omega)
          obtain rfl := e0
          simp only [Int.toNat_natCast] at h1 h2
          have hrd : rd_T34 l0 (j : Int) = l0.getD j z34 := by unfold rd_T34; rw [Int.toNat_natCast]
          rw [hrd] at h1 h2 h3 h4
          have hst : firstM l1 (l0.getD j z34).f0 (l0.getD j z34).f1 = none → ∀ k, k < j + 1 → firstM l1 (l0.getD k z34).f0 (l0.getD k z34).f1 = none := fun hh k hk => by
            by_cases e : k = j
            · subst e; exact hh
            · exact hall k (by omega)
          have hfd := fun m => firstP_at l1 l0 j m hlt hall
          generalize l0.getD j z34 = x at *
          obtain ⟨f, ms⟩ := x
          dsimp only at h1 h2 h3 h4 hst hfd
          have hml : ms.length ≤ 9223372036854775807 := h4.2.1
          have Hst := Lib.hid hst
          have Hfd := Lib.hid hfd
          have Hall := Lib.hid hall
          clear hst hfd hall hC0 hrd
          go_wp2
          have hBp := hB.alloc hB.size (.cells #[.int .i64 f, .slice A2 ms.length c2] 34)
          have h4p := Kd.C_below h4 (below_alloc (Below.refl _ _) (.cells #[.int .i64 f, .slice A2 ms.length c2] 34))
          have hzp : (wr.alloc (.cells #[.int .i64 f, .slice A2 ms.length c2] 34)).heap[wr.heap.size]? = some (.cells #[.int .i64 f, .slice A2 ms.length c2] 34 (0, 0)) := heap_alloc_new wr _
          have hsp : wr.heap.size < (wr.alloc (.cells #[.int .i64 f, .slice A2 ms.length c2] 34)).heap.size := by simp
          generalize wr.alloc (.cells #[.int .i64 f, .slice A2 ms.length c2] 34) = Wp at *
          generalize wr.heap.size = Bp at *
          have H4p := Lib.hid h4p
          have Hzp := Lib.hid hzp
          clear h1 h2 h4 h4p hzp
          go_loopw [38] (fun i wr => ∃ q : Nat, q ≤ ms.length ∧ i = .int .i64 q ∧ (∀ k, k < q → hasPx l1 f (ms.getD k 0) = false) ∧ Below Wp.heap.size Wp wr) (fun i _ => ms.length - (intOf i).toNat)
          case atStart => exact ⟨0, Nat.zero_le _, rfl, fun k hk => absurd hk (Nat.not_lt_zero _), Below.refl _ _⟩
          case round =>
            obtain ⟨q, hq, rfl, hnone, hBq⟩ := hrel
            have hBq0 := hBp.trans (hBq.mono hBp.size)
            have czp := (hBq.block _ hsp).trans Hzp.out
            have p0 : wr.cell? ⟨Bp, 0, none⟩ = some (.int .i64 f) := by simp [World.cell?, czp]
            by_cases hlq : q < ms.length
            · have hC := Kd.C_below H4p.out hBq
              obtain ⟨ad2, rfl, h1⟩ := Kd.at_int hC q (by omega) (by omega)
              simp only [Int.toNat_natCast] at h1
              have hrd : rd ms (q : Int) = ms.getD q 0 := by unfold rd; rw [Int.toNat_natCast]
              rw [hrd] at h1
              have hst : hasPx l1 f (ms.getD q 0) = false → ∀ k, k < q + 1 → hasPx l1 f (ms.getD k 0) = false := fun hh k hk => by
                by_cases e : k = q
                · subst e; exact hh
                · exact hnone k (by omega)
              have hfm := firstM_at l1 f ms q hlq hnone
              rw [hasPx_eq] at hst hfm
              generalize ms.getD q 0 = m at *
              have hBm : Below W0.heap.size W0 (wr.alloc (.cells #[.int .i64 m] 3)) := hBq0.alloc hBq0.size _
              have hcon := contains65 66 #[.pointer (some ⟨Bp, 0, none⟩), .pointer (some ⟨wr.heap.size, 0, none⟩)] (inPx f m) (enters_of Try.func66 (by kernel_rfl) rfl) A1 c1 l1 (wr.alloc (.cells #[.int .i64 m] 3)) (H1r.out _ hBm) hc1 (fun x A c W hW hxc hxC => closure66 f m Bp wr.heap.size x A c W
                ((hW.cell (p := ⟨Bp, 0, none⟩) (by have := hBq.size; simp; omega)).trans (pw_cell_below (below_alloc (Below.refl _ _) _) p0)) ((hW.cell (p := ⟨wr.heap.size, 0, none⟩) (by simp)).trans (by simp [go_sem])) hxc hxC)
              generalize l1.any (inPx f m) = b at *
              have Hst2 := Lib.hid hst
              have Hfm := Lib.hid hfm
              have Hcon := Lib.hid hcon
              have P0 := Lib.hid p0
              have hsz : Bp < wr.heap.size := Nat.lt_of_lt_of_le hsp hBq.size
              clear hst hfm hcon hnone hC hrd czp
              cases b
              · go_wp2_with (go_at_call 65; refine Hcon.out.mono ?_; rintro e w5 ⟨rfl, hB5⟩)
                go_roundw
                case rel => exact ⟨q + 1, by omega, by go_num, Hst2.out (by first | rfl | trivial), (hBq.alloc hBq.size _).trans (hB5.mono (by have := hBq.size; simp; omega))⟩
                case measure => simp [intOf]; omega
              · go_wp2_with fail
                refine Hcon.out.mono ?_
                rintro e w5 ⟨rfl, hB5⟩
                have hB6 := hBm.trans (hB5.mono hBm.size)
                have p0' : w5.cell? ⟨Bp, 0, none⟩ = some (.int .i64 f) := pw_cell_below hB5 (pw_cell_below (below_alloc (Below.refl _ _) _) P0.out)
                have p1' : w5.cell? ⟨wr.heap.size, 0, none⟩ = some (.int .i64 m) := pw_cell_below hB5 (by simp [go_sem])
                have cz := Hcell.out w5 hB6
                have g0 : w5.cell? ⟨w.heap.size, 0, none⟩ = some (.int .i64 0) := by simp [World.cell?, cz]
                have g1 : w5.cell? ⟨w.heap.size, 1, none⟩ = some (.slice none 0 0) := by simp [World.cell?, cz]
                have f0 : w5.frozen? ⟨w.heap.size, 0, none⟩ = false := by simp [World.frozen?, cz]
                have f1 : w5.frozen? ⟨w.heap.size, 1, none⟩ = false := by simp [World.frozen?, cz]
                have Cz := Lib.hid cz
                clear cz
                have hR := Hyes.out f m HN.out.1 HN.out.2 (Hfd.out m (Hfm.out (by first | rfl | trivial)))
                have HR := Lib.hid hR
                clear hR p0 h1 g0 g1 f0 f1
                have cz := (Deep.blk_alloc_lt w5 (.cells #[.int .i64 m] 3) w.heap.size (by have := hB6.size; have := Hs0.out; omega)).trans Cz.out
                have g0 : (w5.alloc (.cells #[.int .i64 m] 3)).cell? ⟨w.heap.size, 0, none⟩ = some (.int .i64 0) := by simp [World.cell?, cz]
                have g1 : (w5.alloc (.cells #[.int .i64 m] 3)).cell? ⟨w.heap.size, 1, none⟩ = some (.slice none 0 0) := by simp [World.cell?, cz]
                have f0 : (w5.alloc (.cells #[.int .i64 m] 3)).frozen? ⟨w.heap.size, 0, none⟩ = false := by simp [World.frozen?, cz]
                have f1 : (w5.alloc (.cells #[.int .i64 m] 3)).frozen? ⟨w.heap.size, 1, none⟩ = false := by simp [World.frozen?, cz]
                have Cz2 := Lib.hid cz
                clear cz
                go_wp2
                refine bodyPost_ret (results_ct rfl _ _ w.heap.size 34 #[.int .i64 f, .slice (some ⟨w5.heap.size, 0, none⟩) 1 1] (0, 0) _ rfl ?_ Try.underlying34 rfl (by kernel_rfl)) rfl ?_
                · refine blk_put (cs := #[.int .i64 f, .slice none 0 0]) ?_ 1 _ rfl
                  refine blk_put (cs := #[.int .i64 0, .slice none 0 0]) ?_ 0 _ rfl
                  exact Cz2.out
                · rw [HR.out]
                  refine ⟨.slice (some ⟨w5.heap.size, 0, none⟩) 1 1, rfl, own_one (by have := hB6.size; have := Hs0.out; omega) ?_, ((((HB0.out.trans (hB6.mono HB0.out.size)).alloc (by have := hB6.size; have := Hs0.out; omega) _)).setCell (Nat.le_refl _) _).setCell (Nat.le_refl _) _⟩
                  rw [Deep.blk_setCell_other _ _ _ _ (by have := hB6.size; have := Hs0.out; simp; omega), Deep.blk_setCell_other _ _ _ _ (by have := hB6.size; have := Hs0.out; simp; omega)]
                  exact heap_alloc_new w5 _
            · have e : q = ms.length := by omega
              subst e
              have hnn := Hst.out (firstM_none l1 f ms hnone)
              have Hnn := Lib.hid hnn
              clear hnn hnone
              go_wp2
              go_roundw
              case rel => exact ⟨j + 1, by omega, by go_num, Hnn.out, hBq0⟩
              case measure => simp [intOf]; omega
        · have e : j = l0.length := by omega
          subst e
          have hR := Hno.out HN.out.1 HN.out.2 (firstP_none l1 l0 hall)
          have HR := Lib.hid hR
          clear hR hall
          have cz := Hcell.out wr hB
          have g0 : wr.cell? ⟨w.heap.size, 0, none⟩ = some (.int .i64 0) := by simp [World.cell?, cz]
          have g1 : wr.cell? ⟨w.heap.size, 1, none⟩ = some (.slice none 0 0) := by simp [World.cell?, cz]
          have f0 : wr.frozen? ⟨w.heap.size, 0, none⟩ = false := by simp [World.frozen?, cz]
          have f1 : wr.frozen? ⟨w.heap.size, 1, none⟩ = false := by simp [World.frozen?, cz]
          have Cz := Lib.hid cz
          clear cz
          go_wp2
          refine bodyPost_ret (results_ct rfl _ _ w.heap.size 34 #[.int .i64 0, .slice none 0 0] (0, 0) _ rfl ?_ Try.underlying34 rfl (by kernel_rfl)) rfl ?_
          · refine blk_put (cs := #[.int .i64 0, .slice none 0 0]) ?_ 1 _ rfl
            refine blk_put (cs := #[.int .i64 0, .slice none 0 0]) ?_ 0 _ rfl
            exact Cz.out
          · rw [HR.out]
            exact ⟨.slice none 0 0, rfl, Kd.R_nil _ _ _ _ _, ((HB0.out.trans (hB.mono HB0.out.size)).setCell (Nat.le_refl _) _).setCell (Nat.le_refl _) _⟩
end Go.Proofs.Ytenaegjiggodkaa.PV

-- Printed by vprint.py (a program of this claim over the translation's own print). Lean checks it.
namespace Go.Proofs.Ytenaegjiggodkaa.PV
open Go.RowKit Go.Proofs.YtenaegjiggodkaaW.PrintWords Go.Proofs.YtenaegjiggodkaaW.PrintLast Go.Proofs.YtenaegjiggodkaaW.PrintMore
attribute [local go_sem] max2_int min2_int max_two min_two max_three min_three max_four min_four   -- for this text's walks alone
set_option linter.unusedVariables false
set_option linter.unusedSimpArgs false

/-! ### continuoref25_pixels: function 68 -/
mutual
def continuoref25_pixels.l0 : Nat → List (S34) → Int → Int → Option (Int)
  | 0, _, _, _ => none
  | k + 1, x0, x3, x4 => if x4 < (x0.length : Int) then (if 0 ≤ x4 then (if ((rd_T34 x0 x4).f0) < 1 then (continuoref25_pixels.j1 k x0 x3 x4 true) else (continuoref25_pixels.j1 k x0 x3 x4 (decide (((rd_T34 x0 x4).f0) > 4)))) else (none)) else (some x3)
def continuoref25_pixels.j1 : Nat → List (S34) → Int → Int → Bool → Option (Int)
  | 0, _, _, _, _ => none
  | k + 1, x0, x3, x4, x25 => if x25 = true then (continuoref25_pixels.j2 k x0 7 x4) else (continuoref25_pixels.j2 k x0 x3 x4)
def continuoref25_pixels.j2 : Nat → List (S34) → Int → Int → Option (Int)
  | 0, _, _, _ => none
  | k + 1, x0, x3, x4 => continuoref25_pixels.l1 k x0 x3 x4 0
def continuoref25_pixels.l1 : Nat → List (S34) → Int → Int → Int → Option (Int)
  | 0, _, _, _, _ => none
  | k + 1, x0, x3, x4, x5 => if 0 ≤ x4 then (if x4 < (x0.length : Int) then (if x5 < (((rd_T34 x0 x4).f1).length : Int) then (if 0 ≤ x5 then (if (rd ((rd_T34 x0 x4).f1) x5) < 0 then (continuoref25_pixels.l1 k x0 7 x4 (wrap64 (x5 + 1))) else (if (rd ((rd_T34 x0 x4).f1) x5) > 1 then (continuoref25_pixels.l1 k x0 7 x4 (wrap64 (x5 + 1))) else (continuoref25_pixels.l1 k x0 x3 x4 (wrap64 (x5 + 1))))) else (none)) else (continuoref25_pixels.l0 k x0 x3 (wrap64 (x4 + 1)))) else (none)) else (none)
end
def continuoref25_pixels.f (k : Nat) (l0 : List (S34)) : Option (Int) := continuoref25_pixels.l0 k l0 0 0
theorem continuoref25_pixels.mono_l : ∀ k, (∀ y0 y1 y2, LeO (continuoref25_pixels.l0 k y0 y1 y2) (continuoref25_pixels.l0 (k + 1) y0 y1 y2)) ∧ (∀ y0 y1 y2 y3, LeO (continuoref25_pixels.j1 k y0 y1 y2 y3) (continuoref25_pixels.j1 (k + 1) y0 y1 y2 y3)) ∧ (∀ y0 y1 y2, LeO (continuoref25_pixels.j2 k y0 y1 y2) (continuoref25_pixels.j2 (k + 1) y0 y1 y2)) ∧ (∀ y0 y1 y2 y3, LeO (continuoref25_pixels.l1 k y0 y1 y2 y3) (continuoref25_pixels.l1 (k + 1) y0 y1 y2 y3))
  | 0 => ⟨fun _ _ _ r h => by simp [continuoref25_pixels.l0] at h, fun _ _ _ _ r h => by simp [continuoref25_pixels.j1] at h, fun _ _ _ r h => by simp [continuoref25_pixels.j2] at h, fun _ _ _ _ r h => by simp [continuoref25_pixels.l1] at h⟩
  | k + 1 => by
    obtain ⟨ih0, ih1, ih2, ih3⟩ := continuoref25_pixels.mono_l k
    refine ⟨?_, ?_, ?_, ?_⟩
    · intro y0 y1 y2
      unfold continuoref25_pixels.l0
      repeat' first
      | (with_reducible exact ih0 _ _ _)
      | (with_reducible exact ih1 _ _ _ _)
      | (with_reducible exact ih2 _ _ _)
      | (with_reducible exact ih3 _ _ _ _)
      | (with_reducible exact LeO.refl _)
      | (with_reducible exact LeO.none _)
      | (with_reducible refine LeO.ite ?_ ?_)
      | (with_reducible refine LeO.bind ?_ (fun _ => ?_))
      | exact ih0 _ _ _
      | exact ih1 _ _ _ _
      | exact ih2 _ _ _
      | exact ih3 _ _ _ _
      | exact LeO.none _
      | refine LeO.ite ?_ ?_
      | refine LeO.bind ?_ (fun _ => ?_)
    · intro y0 y1 y2 y3
      unfold continuoref25_pixels.j1
      repeat' first
      | (with_reducible exact ih0 _ _ _)
      | (with_reducible exact ih1 _ _ _ _)
      | (with_reducible exact ih2 _ _ _)
      | (with_reducible exact ih3 _ _ _ _)
      | (with_reducible exact LeO.refl _)
      | (with_reducible exact LeO.none _)
      | (with_reducible refine LeO.ite ?_ ?_)
      | (with_reducible refine LeO.bind ?_ (fun _ => ?_))
      | exact ih0 _ _ _
      | exact ih1 _ _ _ _
      | exact ih2 _ _ _
      | exact ih3 _ _ _ _
      | exact LeO.none _
      | refine LeO.ite ?_ ?_
      | refine LeO.bind ?_ (fun _ => ?_)
    · intro y0 y1 y2
      unfold continuoref25_pixels.j2
      repeat' first
      | (with_reducible exact ih0 _ _ _)
      | (with_reducible exact ih1 _ _ _ _)
      | (with_reducible exact ih2 _ _ _)
      | (with_reducible exact ih3 _ _ _ _)
      | (with_reducible exact LeO.refl _)
      | (with_reducible exact LeO.none _)
      | (with_reducible refine LeO.ite ?_ ?_)
      | (with_reducible refine LeO.bind ?_ (fun _ => ?_))
      | exact ih0 _ _ _
      | exact ih1 _ _ _ _
      | exact ih2 _ _ _
      | exact ih3 _ _ _ _
      | exact LeO.none _
      | refine LeO.ite ?_ ?_
      | refine LeO.bind ?_ (fun _ => ?_)
    · intro y0 y1 y2 y3
      unfold continuoref25_pixels.l1
      repeat' first
      | (with_reducible exact ih0 _ _ _)
      | (with_reducible exact ih1 _ _ _ _)
      | (with_reducible exact ih2 _ _ _)
      | (with_reducible exact ih3 _ _ _ _)
      | (with_reducible exact LeO.refl _)
      | (with_reducible exact LeO.none _)
      | (with_reducible refine LeO.ite ?_ ?_)
      | (with_reducible refine LeO.bind ?_ (fun _ => ?_))
      | exact ih0 _ _ _
      | exact ih1 _ _ _ _
      | exact ih2 _ _ _
      | exact ih3 _ _ _ _
      | exact LeO.none _
      | refine LeO.ite ?_ ?_
      | refine LeO.bind ?_ (fun _ => ?_)
theorem continuoref25_pixels.mono : ∀ a0 k, LeO (continuoref25_pixels.f k a0) (continuoref25_pixels.f (k + 1) a0) := by
  intro a0 k
  obtain ⟨ih0, ih1, ih2, ih3⟩ := continuoref25_pixels.mono_l k
  unfold continuoref25_pixels.f
  repeat' first
      | (with_reducible exact ih0 _ _ _)
      | (with_reducible exact ih1 _ _ _ _)
      | (with_reducible exact ih2 _ _ _)
      | (with_reducible exact ih3 _ _ _ _)
      | (with_reducible exact LeO.refl _)
      | (with_reducible exact LeO.none _)
      | (with_reducible refine LeO.ite ?_ ?_)
      | (with_reducible refine LeO.bind ?_ (fun _ => ?_))
      | exact ih0 _ _ _
      | exact ih1 _ _ _ _
      | exact ih2 _ _ _
      | exact ih3 _ _ _ _
      | exact LeO.none _
      | refine LeO.ite ?_ ?_
      | refine LeO.bind ?_ (fun _ => ?_)
set_option maxHeartbeats 8000000 in
set_option maxRecDepth 100000 in
theorem continuoref25_pixels.calls (k : Nat) (A0 : Option Addr) (c0 : Nat) (l0 : List (S34)) (r : Int) (w : World) (hr0 : Kd.C k34 w A0 l0.length l0) (hc0 : l0.length ≤ c0) (h : continuoref25_pixels.f k l0 = some r) :
    Calls Try.prog 68 #[.slice A0 l0.length c0] w fun e w' => e = .returned (.int .i64 r) ∧ Drawn0 w w' := by
  have HR0 := Aside0.mk hr0
  have HC0 := Aside0.mk hc0
  clear hr0 hc0
  have H : (continuoref25_pixels.l0 k l0 0 0) = some r := h
  clear h
  have H' := Aside0.mk H
  clear H
  go_enter Try.func68, Try.ntmps68
  go_wp2
  go_loopg [3, 4] k (fun kq v3 v4 w' => ∃ (x3_1 : Int) (x4_1 : Int), v3 = .int .i64 x3_1 ∧ v4 = .int .i64 x4_1 ∧ Aside0 (continuoref25_pixels.l0 kq l0 x3_1 x4_1 = some r) ∧ Aside0 (kq ≤ k) ∧ Drawn0 w w')
  case atStart => exact ⟨(0), (0), (by first | rfl | (simp; done) | (simp [*]; done)), (by first | rfl | (simp; done) | (simp [*]; done)), H', ⟨Nat.le_refl _⟩, by repeat (first | exact Drawn0.refl _ | apply Drawn0.step)⟩
  case round =>
    clear H'
    obtain ⟨x3_1, x4_1, rfl, rfl, HA, HK1, ⟨m1, rfl⟩⟩ := hrel
    cases gk with
    | zero => exact absurd HA.out (by simp [continuoref25_pixels.l0])
    | succ k1 =>
      have H := HA.out
      clear HA
      simp only [continuoref25_pixels.l0] at H
      by_cases c2 : x4_1 < (l0.length : Int)
      · rw [if_pos c2] at H
        have c2b0 : decide (x4_1 < (l0.length : Int)) = true := decide_eq_true c2
        clear c2
        have HC3 := Aside0.mk H
        clear H
        go_upto_region 5 with (fail)
        go_cut [25] (fun v25 wc => ∃ (kq : Nat) (x25_2 : Bool), v25 = .bool x25_2 ∧ Aside0 (continuoref25_pixels.j1 kq l0 x3_1 x4_1 x25_2 = some r) ∧ Aside0 (kq ≤ k1) ∧ Drawn0 w wc)
        case first =>
          have H := HC3.out
          clear HC3
          by_cases c4 : 0 ≤ x4_1
          · rw [if_pos c4] at H
            have c4b0 : decide (0 ≤ x4_1) = true := decide_eq_true c4
            clear c4
            (first | rw [c4b0] | (simp only [i64_w, i32_w]; rw [c4b0]) | skip)
            by_cases c5 : ((rd_T34 l0 x4_1).f0) < 1
            · rw [if_pos c5] at H
              have c5b0 : decide (((rd_T34 l0 x4_1).f0) < 1) = true := decide_eq_true c5
              clear c5
              have H' := Aside0.mk H
              clear H
              have p400 : 0 ≤ (x4_1 : Int) := of_decide_eq_true (by first | (with_reducible assumption) | assumption)
              have q400 : x4_1 < (l0.length : Int) := of_decide_eq_true (by first | (with_reducible assumption) | assumption)
              obtain ⟨ad400, A400_1, c400_1, e400, hx400_0, hx400_1, hl400_1, hi400_1⟩ := at_T34 HR0.out x4_1 p400 q400
              cases e400
              have HR400_1 := Aside0.mk hi400_1
              have HC400_1 := Aside0.mk hl400_1
              clear hi400_1 hl400_1
              replace p400 := eq_true p400
              replace q400 := eq_true q400
              go_wp2
              go_meet
              case rel => exact ⟨_, (true), (by first | rfl | (simp; done) | (simp [*]; done)), H', ⟨by have := HK1.out; first | omega | exact Nat.le_refl _⟩, by repeat (first | exact Drawn0.refl _ | apply Drawn0.step)⟩
            · rw [if_neg c5] at H
              have c5b0 : decide (((rd_T34 l0 x4_1).f0) < 1) = false := decide_eq_false c5
              clear c5
              have H' := Aside0.mk H
              clear H
              have p400 : 0 ≤ (x4_1 : Int) := of_decide_eq_true (by first | (with_reducible assumption) | assumption)
              have q400 : x4_1 < (l0.length : Int) := of_decide_eq_true (by first | (with_reducible assumption) | assumption)
              obtain ⟨ad400, A400_1, c400_1, e400, hx400_0, hx400_1, hl400_1, hi400_1⟩ := at_T34 HR0.out x4_1 p400 q400
              cases e400
              have HR400_1 := Aside0.mk hi400_1
              have HC400_1 := Aside0.mk hl400_1
              clear hi400_1 hl400_1
              replace p400 := eq_true p400
              replace q400 := eq_true q400
              have p401 : 0 ≤ (x4_1 : Int) := of_decide_eq_true (by first | (with_reducible assumption) | assumption)
              have q401 : x4_1 < (l0.length : Int) := of_decide_eq_true (by first | (with_reducible assumption) | assumption)
              obtain ⟨ad401, A401_1, c401_1, e401, hx401_0, hx401_1, hl401_1, hi401_1⟩ := at_T34 HR0.out x4_1 p401 q401
              obtain rfl : ad400 = ad401 := (by injection e401)
              have HR401_1 := Aside0.mk hi401_1
              have HC401_1 := Aside0.mk hl401_1
              clear hi401_1 hl401_1
              replace p401 := eq_true p401
              replace q401 := eq_true q401
              have ea_ := Option.some.inj (hx400_1.symm.trans hx401_1)
              injection ea_ with ea_ en_ ec_
              subst ea_
              subst ec_
              clear en_
              go_wp2
              go_meet
              case rel => exact ⟨_, (decide (((rd_T34 l0 x4_1).f0) > 4)), (by first | rfl | (simp; done) | (simp [*]; done)), H', ⟨by have := HK1.out; first | omega | exact Nat.le_refl _⟩, by repeat (first | exact Drawn0.refl _ | apply Drawn0.step)⟩
          · rw [if_neg c4] at H
            exact absurd H (by simp)
        case rest =>
          clear HC3
          try clear c2
          try clear c2b0
          try clear p2
          try clear c4
          try clear c4b0
          try clear p4
          try clear q4
          try clear hx4
          try clear c5
          try clear c5b0
          try clear hx400_0
          try clear hx400_1
          try clear hx401_0
          try clear hx401_1
          try clear p400
          try clear p401
          try clear q400
          try clear q401
          obtain ⟨kq, x25_2, rfl, HA, HJ2, ⟨mc2, rfl⟩⟩ := hcut
          cases kq with
          | zero => exact absurd HA.out (by simp [continuoref25_pixels.j1])
          | succ kj2 =>
            have H := HA.out
            clear HA
            simp only [continuoref25_pixels.j1] at H
            have HC6 := Aside0.mk H
            clear H
            go_upto_if 25 with (fail)
            go_cut [3] (fun v3 wc => ∃ (kq : Nat) (x3_5 : Int), v3 = .int .i64 x3_5 ∧ Aside0 (continuoref25_pixels.j2 kq l0 x3_5 x4_1 = some r) ∧ Aside0 (kq ≤ kj2) ∧ Drawn0 w wc)
            case first =>
              have H := HC6.out
              clear HC6
              by_cases c7 : x25_2 = true
              · subst c7
                have H1 : (continuoref25_pixels.j2 kj2 l0 7 x4_1) = some r := by rw [if_pos rfl] at H; exact H
                clear H
                have H := H1
                clear H1
                have H' := Aside0.mk H
                clear H
                go_wp2
                go_meet
                case rel => exact ⟨_, (7), (by first | rfl | (simp; done) | (simp [*]; done)), H', ⟨by have := HK1.out; have := HJ2.out; first | omega | exact Nat.le_refl _⟩, by repeat (first | exact Drawn0.refl _ | apply Drawn0.step)⟩
              · replace c7 := Bool.eq_false_iff.mpr c7
                subst c7
                have H1 : (continuoref25_pixels.j2 kj2 l0 x3_1 x4_1) = some r := by rw [if_neg (show ¬ (false = true) by decide)] at H; exact H
                clear H
                have H := H1
                clear H1
                have H' := Aside0.mk H
                clear H
                go_wp2
                go_meet
                case rel => exact ⟨_, (x3_1), (by first | rfl | (simp; done) | (simp [*]; done)), H', ⟨by have := HK1.out; have := HJ2.out; first | omega | exact Nat.le_refl _⟩, by repeat (first | exact Drawn0.refl _ | apply Drawn0.step)⟩
            case rest =>
              clear HC6
              try clear c2
              try clear c2b0
              try clear p2
              try clear c4
              try clear c4b0
              try clear p4
              try clear q4
              try clear hx4
              try clear c5
              try clear c5b0
              try clear c6
              try clear c7
              try clear hx400_0
              try clear hx400_1
              try clear hx401_0
              try clear hx401_1
              try clear p2
              try clear p4
              try clear p400
              try clear p401
              try clear q4
              try clear q400
              try clear q401
              obtain ⟨kq, x3_5, rfl, HA, HJ5, ⟨mc5, rfl⟩⟩ := hcut
              cases kq with
              | zero => exact absurd HA.out (by simp [continuoref25_pixels.j2])
              | succ kj5 =>
                have H := HA.out
                clear HA
                simp only [continuoref25_pixels.j2] at H
                have H' := Aside0.mk H
                clear H
                go_wp2
                go_loopg [3, 5] kj5 (fun kq v3 v5 w' => ∃ (x3_4 : Int) (x5_4 : Int), v3 = .int .i64 x3_4 ∧ v5 = .int .i64 x5_4 ∧ Aside0 (continuoref25_pixels.l1 kq l0 x3_4 x4_1 x5_4 = some r) ∧ Aside0 (kq ≤ kj5) ∧ Drawn0 w w')
                case atStart => exact ⟨(x3_5), (0), (by first | rfl | (simp; done) | (simp [*]; done)), (by first | rfl | (simp; done) | (simp [*]; done)), H', ⟨Nat.le_refl _⟩, by repeat (first | exact Drawn0.refl _ | apply Drawn0.step)⟩
                case round =>
                  clear H'
                  try clear c2
                  try clear c2b0
                  try clear p2
                  try clear c4
                  try clear c4b0
                  try clear p4
                  try clear q4
                  try clear hx4
                  try clear c5
                  try clear c5b0
                  try clear c6
                  try clear c7
                  try clear hx400_0
                  try clear hx400_1
                  try clear hx401_0
                  try clear hx401_1
                  try clear p2
                  try clear p4
                  try clear p400
                  try clear p401
                  try clear q4
                  try clear q400
                  try clear q401
                  obtain ⟨x3_4, x5_4, rfl, rfl, HA, HK4, ⟨m4, rfl⟩⟩ := hrel
                  cases gk with
                  | zero => exact absurd HA.out (by simp [continuoref25_pixels.l1])
                  | succ k4 =>
                    have H := HA.out
                    clear HA
                    simp only [continuoref25_pixels.l1] at H
                    by_cases c8 : 0 ≤ x4_1
                    · rw [if_pos c8] at H
                      have c8b0 : decide (0 ≤ x4_1) = true := decide_eq_true c8
                      clear c8
                      by_cases c9 : x4_1 < (l0.length : Int)
                      · rw [if_pos c9] at H
                        have c9b0 : decide (x4_1 < (l0.length : Int)) = true := decide_eq_true c9
                        clear c9
                        by_cases c10 : x5_4 < (((rd_T34 l0 x4_1).f1).length : Int)
                        · rw [if_pos c10] at H
                          have c10b0 : decide (x5_4 < (((rd_T34 l0 x4_1).f1).length : Int)) = true := decide_eq_true c10
                          clear c10
                          by_cases c11 : 0 ≤ x5_4
                          · rw [if_pos c11] at H
                            have c11b0 : decide (0 ≤ x5_4) = true := decide_eq_true c11
                            clear c11
                            by_cases c12 : (rd ((rd_T34 l0 x4_1).f1) x5_4) < 0
                            · rw [if_pos c12] at H
                              have c12b0 : decide ((rd ((rd_T34 l0 x4_1).f1) x5_4) < 0) = true := decide_eq_true c12
                              clear c12
                              have H' := Aside0.mk H
                              clear H
                              have p402 : 0 ≤ (x4_1 : Int) := of_decide_eq_true (by first | (with_reducible assumption) | assumption)
                              have q402 : x4_1 < (l0.length : Int) := of_decide_eq_true (by first | (with_reducible assumption) | assumption)
                              obtain ⟨ad402, A402_1, c402_1, e402, hx402_0, hx402_1, hl402_1, hi402_1⟩ := at_T34 HR0.out x4_1 p402 q402
                              cases e402
                              have HR402_1 := Aside0.mk hi402_1
                              have HC402_1 := Aside0.mk hl402_1
                              clear hi402_1 hl402_1
                              replace p402 := eq_true p402
                              replace q402 := eq_true q402
                              have p403 : 0 ≤ (x4_1 : Int) := of_decide_eq_true (by first | (with_reducible assumption) | assumption)
                              have q403 : x4_1 < (l0.length : Int) := of_decide_eq_true (by first | (with_reducible assumption) | assumption)
                              obtain ⟨ad403, A403_1, c403_1, e403, hx403_0, hx403_1, hl403_1, hi403_1⟩ := at_T34 HR0.out x4_1 p403 q403
                              obtain rfl : ad402 = ad403 := (by injection e403)
                              have HR403_1 := Aside0.mk hi403_1
                              have HC403_1 := Aside0.mk hl403_1
                              clear hi403_1 hl403_1
                              replace p403 := eq_true p403
                              replace q403 := eq_true q403
                              have ea_ := Option.some.inj (hx402_1.symm.trans hx403_1)
                              injection ea_ with ea_ en_ ec_
                              subst ea_
                              subst ec_
                              clear en_
                              have p404 : 0 ≤ (x5_4 : Int) := of_decide_eq_true (by first | (with_reducible assumption) | assumption)
                              have q404 : x5_4 < (((rd_T34 l0 x4_1).f1).length : Int) := of_decide_eq_true (by first | (with_reducible assumption) | assumption)
                              obtain ⟨ad404, e404, hx404_0⟩ := Kd.at_int HR403_1.out x5_4 p404 q404
                              cases e404
                              replace p404 := eq_true p404
                              replace q404 := eq_true q404
                              go_wp2
                              go_roundg k4
                              case measure => have := HK1.out; have := HJ2.out; have := HJ5.out; have := HK4.out; omega
                              case rel => exact ⟨(7), (wrap64 (x5_4 + 1)), (by first | rfl | (simp; done) | (simp [*]; done)), (by first | rfl | (simp; done) | (simp [*]; done)), H', ⟨by have := HK1.out; have := HJ2.out; have := HJ5.out; have := HK4.out; omega⟩, by repeat (first | exact Drawn0.refl _ | apply Drawn0.step)⟩
                            · rw [if_neg c12] at H
                              have c12b0 : decide ((rd ((rd_T34 l0 x4_1).f1) x5_4) < 0) = false := decide_eq_false c12
                              clear c12
                              by_cases c13 : (rd ((rd_T34 l0 x4_1).f1) x5_4) > 1
                              · rw [if_pos c13] at H
                                have c13b0 : decide (1 < (rd ((rd_T34 l0 x4_1).f1) x5_4)) = true := decide_eq_true c13
                                clear c13
                                have H' := Aside0.mk H
                                clear H
                                have p402 : 0 ≤ (x4_1 : Int) := of_decide_eq_true (by first | (with_reducible assumption) | assumption)
                                have q402 : x4_1 < (l0.length : Int) := of_decide_eq_true (by first | (with_reducible assumption) | assumption)
                                obtain ⟨ad402, A402_1, c402_1, e402, hx402_0, hx402_1, hl402_1, hi402_1⟩ := at_T34 HR0.out x4_1 p402 q402
                                cases e402
                                have HR402_1 := Aside0.mk hi402_1
                                have HC402_1 := Aside0.mk hl402_1
                                clear hi402_1 hl402_1
                                replace p402 := eq_true p402
                                replace q402 := eq_true q402
                                have p403 : 0 ≤ (x4_1 : Int) := of_decide_eq_true (by first | (with_reducible assumption) | assumption)
                                have q403 : x4_1 < (l0.length : Int) := of_decide_eq_true (by first | (with_reducible assumption) | assumption)
                                obtain ⟨ad403, A403_1, c403_1, e403, hx403_0, hx403_1, hl403_1, hi403_1⟩ := at_T34 HR0.out x4_1 p403 q403
                                obtain rfl : ad402 = ad403 := (by injection e403)
                                have HR403_1 := Aside0.mk hi403_1
                                have HC403_1 := Aside0.mk hl403_1
                                clear hi403_1 hl403_1
                                replace p403 := eq_true p403
                                replace q403 := eq_true q403
                                have ea_ := Option.some.inj (hx402_1.symm.trans hx403_1)
                                injection ea_ with ea_ en_ ec_
                                subst ea_
                                subst ec_
                                clear en_
                                have p404 : 0 ≤ (x5_4 : Int) := of_decide_eq_true (by first | (with_reducible assumption) | assumption)
                                have q404 : x5_4 < (((rd_T34 l0 x4_1).f1).length : Int) := of_decide_eq_true (by first | (with_reducible assumption) | assumption)
                                obtain ⟨ad404, e404, hx404_0⟩ := Kd.at_int HR403_1.out x5_4 p404 q404
                                cases e404
                                replace p404 := eq_true p404
                                replace q404 := eq_true q404
                                have p405 : 0 ≤ (x4_1 : Int) := of_decide_eq_true (by first | (with_reducible assumption) | assumption)
                                have q405 : x4_1 < (l0.length : Int) := of_decide_eq_true (by first | (with_reducible assumption) | assumption)
                                obtain ⟨ad405, A405_1, c405_1, e405, hx405_0, hx405_1, hl405_1, hi405_1⟩ := at_T34 HR0.out x4_1 p405 q405
                                obtain rfl : ad402 = ad405 := (by injection e405)
                                have HR405_1 := Aside0.mk hi405_1
                                have HC405_1 := Aside0.mk hl405_1
                                clear hi405_1 hl405_1
                                replace p405 := eq_true p405
                                replace q405 := eq_true q405
                                have ea_ := Option.some.inj (hx402_1.symm.trans hx405_1)
                                injection ea_ with ea_ en_ ec_
                                subst ea_
                                subst ec_
                                clear en_
                                have p406 : 0 ≤ (x5_4 : Int) := of_decide_eq_true (by first | (with_reducible assumption) | assumption)
                                have q406 : x5_4 < (((rd_T34 l0 x4_1).f1).length : Int) := of_decide_eq_true (by first | (with_reducible assumption) | assumption)
                                obtain ⟨ad406, e406, hx406_0⟩ := Kd.at_int HR405_1.out x5_4 p406 q406
                                cases e406
                                replace p406 := eq_true p406
                                replace q406 := eq_true q406
                                go_wp2
                                go_roundg k4
                                case measure => have := HK1.out; have := HJ2.out; have := HJ5.out; have := HK4.out; omega
                                case rel => exact ⟨(7), (wrap64 (x5_4 + 1)), (by first | rfl | (simp; done) | (simp [*]; done)), (by first | rfl | (simp; done) | (simp [*]; done)), H', ⟨by have := HK1.out; have := HJ2.out; have := HJ5.out; have := HK4.out; omega⟩, by repeat (first | exact Drawn0.refl _ | apply Drawn0.step)⟩
                              · rw [if_neg c13] at H
                                have c13b0 : decide (1 < (rd ((rd_T34 l0 x4_1).f1) x5_4)) = false := decide_eq_false c13
                                clear c13
                                have H' := Aside0.mk H
                                clear H
                                have p402 : 0 ≤ (x4_1 : Int) := of_decide_eq_true (by first | (with_reducible assumption) | assumption)
                                have q402 : x4_1 < (l0.length : Int) := of_decide_eq_true (by first | (with_reducible assumption) | assumption)
                                obtain ⟨ad402, A402_1, c402_1, e402, hx402_0, hx402_1, hl402_1, hi402_1⟩ := at_T34 HR0.out x4_1 p402 q402
                                cases e402
                                have HR402_1 := Aside0.mk hi402_1
                                have HC402_1 := Aside0.mk hl402_1
                                clear hi402_1 hl402_1
                                replace p402 := eq_true p402
                                replace q402 := eq_true q402
                                have p403 : 0 ≤ (x4_1 : Int) := of_decide_eq_true (by first | (with_reducible assumption) | assumption)
                                have q403 : x4_1 < (l0.length : Int) := of_decide_eq_true (by first | (with_reducible assumption) | assumption)
                                obtain ⟨ad403, A403_1, c403_1, e403, hx403_0, hx403_1, hl403_1, hi403_1⟩ := at_T34 HR0.out x4_1 p403 q403
                                obtain rfl : ad402 = ad403 := (by injection e403)
                                have HR403_1 := Aside0.mk hi403_1
                                have HC403_1 := Aside0.mk hl403_1
                                clear hi403_1 hl403_1
                                replace p403 := eq_true p403
                                replace q403 := eq_true q403
                                have ea_ := Option.some.inj (hx402_1.symm.trans hx403_1)
                                injection ea_ with ea_ en_ ec_
                                subst ea_
                                subst ec_
                                clear en_
                                have p404 : 0 ≤ (x5_4 : Int) := of_decide_eq_true (by first | (with_reducible assumption) | assumption)
                                have q404 : x5_4 < (((rd_T34 l0 x4_1).f1).length : Int) := of_decide_eq_true (by first | (with_reducible assumption) | assumption)
                                obtain ⟨ad404, e404, hx404_0⟩ := Kd.at_int HR403_1.out x5_4 p404 q404
                                cases e404
                                replace p404 := eq_true p404
                                replace q404 := eq_true q404
                                have p405 : 0 ≤ (x4_1 : Int) := of_decide_eq_true (by first | (with_reducible assumption) | assumption)
                                have q405 : x4_1 < (l0.length : Int) := of_decide_eq_true (by first | (with_reducible assumption) | assumption)
                                obtain ⟨ad405, A405_1, c405_1, e405, hx405_0, hx405_1, hl405_1, hi405_1⟩ := at_T34 HR0.out x4_1 p405 q405
                                obtain rfl : ad402 = ad405 := (by injection e405)
                                have HR405_1 := Aside0.mk hi405_1
                                have HC405_1 := Aside0.mk hl405_1
                                clear hi405_1 hl405_1
                                replace p405 := eq_true p405
                                replace q405 := eq_true q405
                                have ea_ := Option.some.inj (hx402_1.symm.trans hx405_1)
                                injection ea_ with ea_ en_ ec_
                                subst ea_
                                subst ec_
                                clear en_
                                have p406 : 0 ≤ (x5_4 : Int) := of_decide_eq_true (by first | (with_reducible assumption) | assumption)
                                have q406 : x5_4 < (((rd_T34 l0 x4_1).f1).length : Int) := of_decide_eq_true (by first | (with_reducible assumption) | assumption)
                                obtain ⟨ad406, e406, hx406_0⟩ := Kd.at_int HR405_1.out x5_4 p406 q406
                                cases e406
                                replace p406 := eq_true p406
                                replace q406 := eq_true q406
                                go_wp2
                                go_roundg k4
                                case measure => have := HK1.out; have := HJ2.out; have := HJ5.out; have := HK4.out; omega
                                case rel => exact ⟨(x3_4), (wrap64 (x5_4 + 1)), (by first | rfl | (simp; done) | (simp [*]; done)), (by first | rfl | (simp; done) | (simp [*]; done)), H', ⟨by have := HK1.out; have := HJ2.out; have := HJ5.out; have := HK4.out; omega⟩, by repeat (first | exact Drawn0.refl _ | apply Drawn0.step)⟩
                          · rw [if_neg c11] at H
                            exact absurd H (by simp)
                        · rw [if_neg c10] at H
                          have c10b0 : decide (x5_4 < (((rd_T34 l0 x4_1).f1).length : Int)) = false := decide_eq_false c10
                          clear c10
                          have H' := Aside0.mk H
                          clear H
                          have p402 : 0 ≤ (x4_1 : Int) := of_decide_eq_true (by first | (with_reducible assumption) | assumption)
                          have q402 : x4_1 < (l0.length : Int) := of_decide_eq_true (by first | (with_reducible assumption) | assumption)
                          obtain ⟨ad402, A402_1, c402_1, e402, hx402_0, hx402_1, hl402_1, hi402_1⟩ := at_T34 HR0.out x4_1 p402 q402
                          cases e402
                          have HR402_1 := Aside0.mk hi402_1
                          have HC402_1 := Aside0.mk hl402_1
                          clear hi402_1 hl402_1
                          replace p402 := eq_true p402
                          replace q402 := eq_true q402
                          go_wp2
                          go_roundg k4
                          case measure => have := HK1.out; have := HJ2.out; have := HJ5.out; have := HK4.out; omega
                          case rel => exact ⟨(x3_4), (wrap64 (x4_1 + 1)), (by first | rfl | (simp; done) | (simp [*]; done)), (by first | rfl | (simp; done) | (simp [*]; done)), H', ⟨by have := HK1.out; have := HJ2.out; have := HJ5.out; have := HK4.out; omega⟩, by repeat (first | exact Drawn0.refl _ | apply Drawn0.step)⟩
                      · rw [if_neg c9] at H
                        exact absurd H (by simp)
                    · rw [if_neg c8] at H
                      exact absurd H (by simp)
      · rw [if_neg c2] at H
        have c2b0 : decide (x4_1 < (l0.length : Int)) = false := decide_eq_false c2
        clear c2
        obtain rfl := Option.some.inj H
        go_wp2
        go_ret
        exact ⟨by first | rfl | (simp; done) | (simp [*]; done), by repeat (first | exact Drawn0.refl _ | apply Drawn0.step)⟩

end Go.Proofs.Ytenaegjiggodkaa.PV

-- Printed by vprint.py (a program of this claim over the translation's own print). Lean checks it.
namespace Go.Proofs.Ytenaegjiggodkaa.PV
open Go.RowKit Go.Proofs.YtenaegjiggodkaaW.PrintWords Go.Proofs.YtenaegjiggodkaaW.PrintLast Go.Proofs.YtenaegjiggodkaaW.PrintMore
attribute [local go_sem] max2_int min2_int max_two min_two max_three min_three max_four min_four   -- for this text's walks alone
set_option linter.unusedVariables false
set_option linter.unusedSimpArgs false

/-! ### continuoref25_Many: function 69 -/
def continuoref25_Many.l0 : Nat → List (S34) → Int → Option (Bool)
  | 0, _, _ => none
  | k + 1, x0, x3 => if x3 < (x0.length : Int) then (if 0 ≤ x3 then (if (((rd_T34 x0 x3).f1).length : Int) > 10 then (some true) else (continuoref25_Many.l0 k x0 (wrap64 (x3 + 1)))) else (none)) else (some false)
def continuoref25_Many.f (k : Nat) (l0 : List (S34)) : Option (Bool) := if (l0.length : Int) > 10 then (some true) else (continuoref25_Many.l0 k l0 0)
theorem continuoref25_Many.mono_l : ∀ k, (∀ y0 y1, LeO (continuoref25_Many.l0 k y0 y1) (continuoref25_Many.l0 (k + 1) y0 y1))
  | 0 => fun _ _ r h => by simp [continuoref25_Many.l0] at h
  | k + 1 => by
    have ih0 := continuoref25_Many.mono_l k
    · intro y0 y1
      unfold continuoref25_Many.l0
      repeat' first
      | (with_reducible exact ih0 _ _)
      | (with_reducible exact LeO.refl _)
      | (with_reducible exact LeO.none _)
      | (with_reducible refine LeO.ite ?_ ?_)
      | (with_reducible refine LeO.bind ?_ (fun _ => ?_))
      | exact ih0 _ _
      | exact LeO.none _
      | refine LeO.ite ?_ ?_
      | refine LeO.bind ?_ (fun _ => ?_)
theorem continuoref25_Many.mono : ∀ a0 k, LeO (continuoref25_Many.f k a0) (continuoref25_Many.f (k + 1) a0) := by
  intro a0 k
  have ih0 := continuoref25_Many.mono_l k
  unfold continuoref25_Many.f
  repeat' first
      | (with_reducible exact ih0 _ _)
      | (with_reducible exact LeO.refl _)
      | (with_reducible exact LeO.none _)
      | (with_reducible refine LeO.ite ?_ ?_)
      | (with_reducible refine LeO.bind ?_ (fun _ => ?_))
      | exact ih0 _ _
      | exact LeO.none _
      | refine LeO.ite ?_ ?_
      | refine LeO.bind ?_ (fun _ => ?_)
set_option maxHeartbeats 8000000 in
set_option maxRecDepth 100000 in
theorem continuoref25_Many.calls (k : Nat) (A0 : Option Addr) (c0 : Nat) (l0 : List (S34)) (r : Bool) (w : World) (hr0 : Kd.C k34 w A0 l0.length l0) (hc0 : l0.length ≤ c0) (h : continuoref25_Many.f k l0 = some r) :
    Calls Try.prog 69 #[.slice A0 l0.length c0] w fun e w' => e = .returned (.bool r) ∧ Drawn0 w w' := by
  have HR0 := Aside0.mk hr0
  have HC0 := Aside0.mk hc0
  clear hr0 hc0
  have H : (if (l0.length : Int) > 10 then (some true) else (continuoref25_Many.l0 k l0 0)) = some r := h
  clear h
  by_cases c2 : (l0.length : Int) > 10
  · rw [if_pos c2] at H
    have c2b0 : decide (10 < (l0.length : Int)) = true := decide_eq_true c2
    have c2b1 : decide (10 < l0.length) = true := decide_eq_true (by omega)
    clear c2
    obtain rfl := Option.some.inj H
    go_enter Try.func69, Try.ntmps69
    go_wp2
    go_ret
    exact ⟨by first | rfl | (simp; done) | (simp [*]; done), by repeat (first | exact Drawn0.refl _ | apply Drawn0.step)⟩
  · rw [if_neg c2] at H
    have c2b0 : decide (10 < (l0.length : Int)) = false := decide_eq_false c2
    have c2b1 : decide (10 < l0.length) = false := decide_eq_false (by omega)
    clear c2
    have H' := Aside0.mk H
    clear H
    go_enter Try.func69, Try.ntmps69
    go_wp2
    go_loopg [3] k (fun kq v3 w' => ∃ (x3_1 : Int), v3 = .int .i64 x3_1 ∧ Aside0 (continuoref25_Many.l0 kq l0 x3_1 = some r) ∧ Aside0 (kq ≤ k) ∧ Drawn0 w w')
    case atStart => exact ⟨(0), (by first | rfl | (simp; done) | (simp [*]; done)), H', ⟨Nat.le_refl _⟩, by repeat (first | exact Drawn0.refl _ | apply Drawn0.step)⟩
    case round =>
      clear H'
      try clear c2
      try clear c2b0
      try clear c2b1
      try clear p2
      obtain ⟨x3_1, rfl, HA, HK1, ⟨m1, rfl⟩⟩ := hrel
      cases gk with
      | zero => exact absurd HA.out (by simp [continuoref25_Many.l0])
      | succ k1 =>
        have H := HA.out
        clear HA
        simp only [continuoref25_Many.l0] at H
        by_cases c3 : x3_1 < (l0.length : Int)
        · rw [if_pos c3] at H
          have c3b0 : decide (x3_1 < (l0.length : Int)) = true := decide_eq_true c3
          clear c3
          by_cases c4 : 0 ≤ x3_1
          · rw [if_pos c4] at H
            have c4b0 : decide (0 ≤ x3_1) = true := decide_eq_true c4
            clear c4
            by_cases c5 : (((rd_T34 l0 x3_1).f1).length : Int) > 10
            · rw [if_pos c5] at H
              have c5b0 : decide (10 < (((rd_T34 l0 x3_1).f1).length : Int)) = true := decide_eq_true c5
              have c5b1 : decide (10 < ((rd_T34 l0 x3_1).f1).length) = true := decide_eq_true (by omega)
              clear c5
              obtain rfl := Option.some.inj H
              have p407 : 0 ≤ (x3_1 : Int) := of_decide_eq_true (by first | (with_reducible assumption) | assumption)
              have q407 : x3_1 < (l0.length : Int) := of_decide_eq_true (by first | (with_reducible assumption) | assumption)
              obtain ⟨ad407, A407_1, c407_1, e407, hx407_0, hx407_1, hl407_1, hi407_1⟩ := at_T34 HR0.out x3_1 p407 q407
              cases e407
              have HR407_1 := Aside0.mk hi407_1
              have HC407_1 := Aside0.mk hl407_1
              clear hi407_1 hl407_1
              replace p407 := eq_true p407
              replace q407 := eq_true q407
              go_wp2
              go_ret
              exact ⟨by first | rfl | (simp; done) | (simp [*]; done), by repeat (first | exact Drawn0.refl _ | apply Drawn0.step)⟩
            · rw [if_neg c5] at H
              have c5b0 : decide (10 < (((rd_T34 l0 x3_1).f1).length : Int)) = false := decide_eq_false c5
              have c5b1 : decide (10 < ((rd_T34 l0 x3_1).f1).length) = false := decide_eq_false (by omega)
              clear c5
              have H' := Aside0.mk H
              clear H
              have p407 : 0 ≤ (x3_1 : Int) := of_decide_eq_true (by first | (with_reducible assumption) | assumption)
              have q407 : x3_1 < (l0.length : Int) := of_decide_eq_true (by first | (with_reducible assumption) | assumption)
              obtain ⟨ad407, A407_1, c407_1, e407, hx407_0, hx407_1, hl407_1, hi407_1⟩ := at_T34 HR0.out x3_1 p407 q407
              cases e407
              have HR407_1 := Aside0.mk hi407_1
              have HC407_1 := Aside0.mk hl407_1
              clear hi407_1 hl407_1
              replace p407 := eq_true p407
              replace q407 := eq_true q407
              go_wp2
              go_roundg k1
              case measure => have := HK1.out; omega
              case rel => exact ⟨(wrap64 (x3_1 + 1)), (by first | rfl | (simp; done) | (simp [*]; done)), H', ⟨by have := HK1.out; omega⟩, by repeat (first | exact Drawn0.refl _ | apply Drawn0.step)⟩
          · rw [if_neg c4] at H
            exact absurd H (by simp)
        · rw [if_neg c3] at H
          have c3b0 : decide (x3_1 < (l0.length : Int)) = false := decide_eq_false c3
          clear c3
          obtain rfl := Option.some.inj H
          go_wp2
          go_ret
          exact ⟨by first | rfl | (simp; done) | (simp [*]; done), by repeat (first | exact Drawn0.refl _ | apply Drawn0.step)⟩

end Go.Proofs.Ytenaegjiggodkaa.PV
