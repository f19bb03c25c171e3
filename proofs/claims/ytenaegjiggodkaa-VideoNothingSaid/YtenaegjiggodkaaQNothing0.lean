/- Part 0 of the proof of VideoNothing: contracts of the functions that the law reaches, and plain facts. -/
import Derived.Test.YtenaegjiggodkaaProg
import Derived.Below
import Derived.Deep.Draws
import Derived.Deep.AppendLies
import Derived.Maps.AppendAt
import Derived.OwnWalk
import Derived.Laws.BytesArg
import Derived.Laws.MakeOwn
import Derived.Laws.OwnMore
import Derived.Deep.OwnRows
import Derived.Tactics
import Derived.Lib.ConvBytes
import Derived.Laws.Slices
import Derived.WalkKit
import Derived.KernelRfl
import Derived.RowKit3
import Derived.Deep.LoopGhost
import Derived.Deep.QuietTactic
import Derived.BigQuiet
import Derived.WideLaws
import Derived.Deep.DeepCutAuto
import Derived.Deep.CutBlock
import Derived.Deep.RegionHeld3
import Derived.Laws.Rows
import Derived.Lib.AppendStr
import Derived.ArgAppend
import Derived.Laws.IdiomCopy
import Derived.OrdersHeld
import Derived.Laws.BitsLemmas
import Derived.RowKit
import Derived.Test.YtenaegjiggodkaaWWords
import Derived.Test.YtenaegjiggodkaaWLast
import Derived.Test.YtenaegjiggodkaaWTab
import Derived.Test.YtenaegjiggodkaaWFour
import Derived.Test.YtenaegjiggodkaaWQPut
import Derived.Test.YtenaegjiggodkaaWApart
import Derived.Test.YtenaegjiggodkaaWArr
import Derived.Test.YtenaegjiggodkaaWZeros
import Derived.Test.YtenaegjiggodkaaWFoot
import Derived.Test.YtenaegjiggodkaaWKept
import Derived.Test.YtenaegjiggodkaaWShare
import Derived.Test.YtenaegjiggodkaaWN
import Derived.Test.YtenaegjiggodkaaWFootNe
import Derived.Test.YtenaegjiggodkaaWAt
import Derived.Test.YtenaegjiggodkaaWEqStruct
import Derived.Test.YtenaegjiggodkaaWRepsOne
import Derived.Test.YtenaegjiggodkaaWInv
import Derived.Test.YtenaegjiggodkaaWInvWords
import Derived.Test.YtenaegjiggodkaaWGuard
import Derived.Test.YtenaegjiggodkaaWNEv
import Derived.Test.YtenaegjiggodkaaWMore
import Derived.Outline
import Derived.Shelf.Abstract
import Derived.Lib.Hide
import Derived.Lib.LazyBuf
import Derived.Laws.IdiomStrings

-- Printed by vprint.py (a program of this claim over the translation's own print). Lean checks it.
namespace Go.Proofs.Ytenaegjiggodkaa.PV
open Go.RowKit Go.Proofs.YtenaegjiggodkaaW.PrintWords Go.Proofs.YtenaegjiggodkaaW.PrintLast Go.Proofs.YtenaegjiggodkaaW.PrintMore
attribute [local go_sem] max2_int min2_int max_two min_two max_three min_three max_four min_four   -- for this text's walks alone
set_option linter.unusedVariables false
set_option linter.unusedSimpArgs false



def errW : Option Int → Value
  | none => .nilIface
  | some c => .iface 0 (.int .i64 c)
theorem errW_none : errW none = .nilIface := rfl
theorem errW_some (c : Int) : errW (some c) = .iface 0 (.int .i64 c) := rfl

theorem info3 : (Try.prog.info? 3).map (fun i => (i.zero, i.size, i.bytes)) = some (some (.int .i64 0), 1, 8) := by kernel_rfl
theorem info4 : (Try.prog.info? 4).map (fun i => (i.zero, i.size, i.bytes)) = some (some (.bool false), 1, 1) := by kernel_rfl
theorem info5 : (Try.prog.info? 5).map (fun i => (i.zero, i.size, i.bytes)) = some (some (.int .u8 0), 1, 1) := by kernel_rfl
theorem info9 : (Try.prog.info? 9).map (fun i => (i.zero, i.size, i.bytes)) = some (some (.string ⟨#[]⟩), 1, 16) := by kernel_rfl
theorem info22 : (Try.prog.info? 22).map (fun i => (i.zero, i.size, i.bytes)) = some (some (.slice none 0 0), 1, 24) := by kernel_rfl
theorem info43 : (Try.prog.info? 43).map (fun i => (i.zero, i.size, i.bytes)) = some (some (.agg #[(.int .i64 0), (.int .i64 0), (.int .i64 0), (.int .i64 0)]), 4, 32) := by kernel_rfl
theorem info94 : (Try.prog.info? 94).map (fun i => (i.zero, i.size, i.bytes)) = some (some (.agg #[(.int .i64 0), (.int .i64 0), (.int .i64 0)]), 3, 24) := by kernel_rfl
theorem info109 : (Try.prog.info? 109).map (fun i => (i.zero, i.size, i.bytes)) = some (some (.slice none 0 0), 1, 24) := by kernel_rfl
theorem info110 : (Try.prog.info? 110).map (fun i => (i.zero, i.size, i.bytes)) = some (some (.slice none 0 0), 1, 24) := by kernel_rfl
theorem info114 : (Try.prog.info? 114).map (fun i => (i.zero, i.size, i.bytes)) = some (some (.agg #[(.int .i64 0), (.int .i64 0), (.int .i64 0), (.int .i64 0), (.string ⟨#[]⟩)]), 5, 48) := by kernel_rfl
-- the values' own types
/-! #### struct type 145 -/
structure S145 where
  f0 : Int
  f1 : Int
def z145 : S145 := ⟨(0 : Int), (0 : Int)⟩
def k145 : Kd S145 := Kd.iso (Kd.pair (Kd.int .i64) (Kd.int .i64)) (fun x : S145 => (x.f0, x.f1))
theorem k145_open {w : World} {x : S145} {cs : List Value} (h : k145.K w x cs) : cs = [.int .i64 x.f0, .int .i64 x.f1] := by
  obtain ⟨_, _, rfl, rfl, rfl⟩ := h
  exact rfl
theorem k145_openM {w : World} {base : Nat} {ok : Nat → Prop} {x : S145} {cs : List Value} (h : k145.M w base ok x cs) : cs = [.int .i64 x.f0, .int .i64 x.f1] := by
  obtain ⟨_, _, rfl, rfl, rfl⟩ := h
  exact rfl
theorem k145_mk (w : World) (x : S145)  : k145.K w x [.int .i64 x.f0, .int .i64 x.f1] := ⟨[.int .i64 x.f0], [.int .i64 x.f1], rfl, rfl, rfl⟩
theorem k145_mkM (w : World) (base : Nat) (ok : Nat → Prop) (x : S145)  : k145.M w base ok x [.int .i64 x.f0, .int .i64 x.f1] := ⟨[.int .i64 x.f0], [.int .i64 x.f1], rfl, rfl, rfl⟩
theorem k145_mkF (W : World) (ok : Nat → Prop) (x : S145) : Kd.FK k145 W ok x [.int .i64 x.f0, .int .i64 x.f1] := fun W2 _ => k145_mk W2 x
def rd_T145 (xs : List S145) (i : Int) : S145 := xs.getD i.toNat z145
theorem at_T145 {w : World} {A : Option Addr} {n : Nat} {xs : List S145} (h : Kd.C k145 w A n xs) (i : Int) (h0 : 0 ≤ i) (h1 : i < n) : ∃ ad , A = some ad ∧ w.cell? (ad.add (i.toNat * 2)) = some (.int .i64 (rd_T145 xs i).f0) ∧ w.cell? ⟨(ad.add (i.toNat * 2)).block, (ad.add (i.toNat * 2)).off + 1, none⟩ = some (.int .i64 (rd_T145 xs i).f1) := by
  obtain ⟨ad, c, e, _, hK, hc0⟩ := Kd.C_get h z145 i h0 h1
  have hc : ∀ j u, c[j]? = some u → w.cell? (ad.add (i.toNat * 2 + j)) = some u := hc0
  obtain rfl := k145_open hK
  exact ⟨ad, e, hc 0 _ rfl, by rw [← add_field _ _ 1 (by omega)]; exact hc 1 _ rfl⟩

def rd_L2 (xs : List (List S145)) (i : Int) : (List S145) := xs.getD i.toNat ([] : List S145)
theorem at_L2 {w : World} {A : Option Addr} {n : Nat} {xs : List (List S145)} (h : Kd.C (Kd.slice 145 k145) w A n xs) (i : Int) (h0 : 0 ≤ i) (h1 : i < n) : ∃ ad A0 c0, A = some ad ∧ w.cell? (ad.add i.toNat) = some (.slice A0 (rd_L2 xs i).length c0) ∧ (rd_L2 xs i).length ≤ c0 ∧ k145.C w A0 (rd_L2 xs i).length (rd_L2 xs i) := by
  obtain ⟨ad, c, e, _, hK, hc0⟩ := Kd.C_get h ([] : List S145) i h0 h1
  have hc : ∀ j u, c[j]? = some u → w.cell? (ad.add (i.toNat * 1 + j)) = some u := hc0
  obtain ⟨A0, c0, rfl, l0, g0⟩ := hK
  exact ⟨ad, A0, c0, e, by have hq := hc 0 _ rfl; rwa [Nat.mul_one, Nat.add_zero] at hq, l0, g0⟩

/-! #### struct type 142 -/
structure S142 where
  f0 : Int
  f1 : Int
  f2 : (List S145)
def z142 : S142 := ⟨(0 : Int), (0 : Int), ([] : List S145)⟩
def k142 : Kd S142 := Kd.iso (Kd.pair (Kd.int .i64) (Kd.pair (Kd.int .i64) (Kd.slice 145 k145))) (fun x : S142 => (x.f0, x.f1, x.f2))
theorem k142_open {w : World} {x : S142} {cs : List Value} (h : k142.K w x cs) : ∃ A2 c2, cs = [.int .i64 x.f0, .int .i64 x.f1, .slice A2 x.f2.length c2] ∧ x.f2.length ≤ c2 ∧ k145.C w A2 x.f2.length x.f2 := by
  obtain ⟨_, _, rfl, rfl, ⟨_, _, rfl, rfl, ⟨A2, c2, rfl, l2, g2⟩⟩⟩ := h
  exact ⟨A2, c2, rfl, l2, g2⟩
theorem k142_openM {w : World} {base : Nat} {ok : Nat → Prop} {x : S142} {cs : List Value} (h : k142.M w base ok x cs) : ∃ v2, cs = [.int .i64 x.f0, .int .i64 x.f1, v2] ∧ k145.R 145 w base ok v2 x.f2 := by
  obtain ⟨_, _, rfl, rfl, ⟨_, _, rfl, rfl, ⟨v2, rfl, g2⟩⟩⟩ := h
  exact ⟨v2, rfl, g2⟩
theorem k142_mk (w : World) (x : S142) {A2 : Option Addr} {c2 : Nat} (l2 : x.f2.length ≤ c2) (g2 : k145.C w A2 x.f2.length x.f2) : k142.K w x [.int .i64 x.f0, .int .i64 x.f1, .slice A2 x.f2.length c2] := ⟨[.int .i64 x.f0], [.int .i64 x.f1, .slice A2 x.f2.length c2], rfl, rfl, ⟨[.int .i64 x.f1], [.slice A2 x.f2.length c2], rfl, rfl, ⟨A2, c2, rfl, l2, g2⟩⟩⟩
theorem k142_mkM (w : World) (base : Nat) (ok : Nat → Prop) (x : S142) {v2 : Value} (g2 : k145.R 145 w base ok v2 x.f2) : k142.M w base ok x [.int .i64 x.f0, .int .i64 x.f1, v2] := ⟨[.int .i64 x.f0], [.int .i64 x.f1, v2], rfl, rfl, ⟨[.int .i64 x.f1], [v2], rfl, rfl, ⟨v2, rfl, g2⟩⟩⟩
theorem k142_openF {W : World} {ok : Nat → Prop} {x : S142} {cs : List Value} (h : Kd.FK k142 W ok x cs) : ∃ A2 c2, cs = [.int .i64 x.f0, .int .i64 x.f1, .slice A2 x.f2.length c2] ∧ x.f2.length ≤ c2 ∧ Kd.F k145 W ok A2 x.f2.length x.f2 := by
  obtain ⟨A2, c2, rfl, l2, _⟩ := k142_open (Kd.FK_now h)
  exact ⟨A2, c2, rfl, l2, (fun W' hW => by obtain ⟨A2_, c2_, he, l2_, g2_⟩ := k142_open (h W' hW); injection (Option.some.inj (show some (Value.slice A2 x.f2.length c2) = some (Value.slice A2_ x.f2.length c2_) from congrArg (fun l => l[2]?) he)) with ha_ _ _; rw [ha_]; exact g2_)⟩
theorem k142_mkF (W : World) (ok : Nat → Prop) (x : S142) {A2 : Option Addr} {c2 : Nat} (l2 : x.f2.length ≤ c2) (g2 : Kd.F k145 W ok A2 x.f2.length x.f2) : Kd.FK k142 W ok x [.int .i64 x.f0, .int .i64 x.f1, .slice A2 x.f2.length c2] := fun W2 hW => k142_mk W2 x l2 (g2 W2 hW)
def rd_T142 (xs : List S142) (i : Int) : S142 := xs.getD i.toNat z142
theorem at_T142 {w : World} {A : Option Addr} {n : Nat} {xs : List S142} (h : Kd.C k142 w A n xs) (i : Int) (h0 : 0 ≤ i) (h1 : i < n) : ∃ ad A2 c2, A = some ad ∧ w.cell? (ad.add (i.toNat * 3)) = some (.int .i64 (rd_T142 xs i).f0) ∧ w.cell? ⟨(ad.add (i.toNat * 3)).block, (ad.add (i.toNat * 3)).off + 1, none⟩ = some (.int .i64 (rd_T142 xs i).f1) ∧ w.cell? ⟨(ad.add (i.toNat * 3)).block, (ad.add (i.toNat * 3)).off + 2, none⟩ = some (.slice A2 (rd_T142 xs i).f2.length c2) ∧ (rd_T142 xs i).f2.length ≤ c2 ∧ k145.C w A2 (rd_T142 xs i).f2.length (rd_T142 xs i).f2 := by
  obtain ⟨ad, c, e, _, hK, hc0⟩ := Kd.C_get h z142 i h0 h1
  have hc : ∀ j u, c[j]? = some u → w.cell? (ad.add (i.toNat * 3 + j)) = some u := hc0
  obtain ⟨A2, c2, rfl, l2, g2⟩ := k142_open hK
  exact ⟨ad, A2, c2, e, hc 0 _ rfl, by rw [← add_field _ _ 1 (by omega)]; exact hc 1 _ rfl, by rw [← add_field _ _ 2 (by omega)]; exact hc 2 _ rfl, l2, g2⟩

/-! #### struct type 43 -/
structure S43 where
  f0 : Int
  f1 : Int
  f2 : Int
  f3 : Int
def z43 : S43 := ⟨(0 : Int), (0 : Int), (0 : Int), (0 : Int)⟩
def k43 : Kd S43 := Kd.iso (Kd.pair (Kd.int .i64) (Kd.pair (Kd.int .i64) (Kd.pair (Kd.int .i64) (Kd.int .i64)))) (fun x : S43 => (x.f0, x.f1, x.f2, x.f3))
theorem k43_open {w : World} {x : S43} {cs : List Value} (h : k43.K w x cs) : cs = [.int .i64 x.f0, .int .i64 x.f1, .int .i64 x.f2, .int .i64 x.f3] := by
  obtain ⟨_, _, rfl, rfl, ⟨_, _, rfl, rfl, ⟨_, _, rfl, rfl, rfl⟩⟩⟩ := h
  exact rfl
theorem k43_openM {w : World} {base : Nat} {ok : Nat → Prop} {x : S43} {cs : List Value} (h : k43.M w base ok x cs) : cs = [.int .i64 x.f0, .int .i64 x.f1, .int .i64 x.f2, .int .i64 x.f3] := by
  obtain ⟨_, _, rfl, rfl, ⟨_, _, rfl, rfl, ⟨_, _, rfl, rfl, rfl⟩⟩⟩ := h
  exact rfl
theorem k43_mk (w : World) (x : S43)  : k43.K w x [.int .i64 x.f0, .int .i64 x.f1, .int .i64 x.f2, .int .i64 x.f3] := ⟨[.int .i64 x.f0], [.int .i64 x.f1, .int .i64 x.f2, .int .i64 x.f3], rfl, rfl, ⟨[.int .i64 x.f1], [.int .i64 x.f2, .int .i64 x.f3], rfl, rfl, ⟨[.int .i64 x.f2], [.int .i64 x.f3], rfl, rfl, rfl⟩⟩⟩
theorem k43_mkM (w : World) (base : Nat) (ok : Nat → Prop) (x : S43)  : k43.M w base ok x [.int .i64 x.f0, .int .i64 x.f1, .int .i64 x.f2, .int .i64 x.f3] := ⟨[.int .i64 x.f0], [.int .i64 x.f1, .int .i64 x.f2, .int .i64 x.f3], rfl, rfl, ⟨[.int .i64 x.f1], [.int .i64 x.f2, .int .i64 x.f3], rfl, rfl, ⟨[.int .i64 x.f2], [.int .i64 x.f3], rfl, rfl, rfl⟩⟩⟩
theorem k43_mkF (W : World) (ok : Nat → Prop) (x : S43) : Kd.FK k43 W ok x [.int .i64 x.f0, .int .i64 x.f1, .int .i64 x.f2, .int .i64 x.f3] := fun W2 _ => k43_mk W2 x
def rd_T43 (xs : List S43) (i : Int) : S43 := xs.getD i.toNat z43
theorem at_T43 {w : World} {A : Option Addr} {n : Nat} {xs : List S43} (h : Kd.C k43 w A n xs) (i : Int) (h0 : 0 ≤ i) (h1 : i < n) : ∃ ad , A = some ad ∧ w.cell? (ad.add (i.toNat * 4)) = some (.int .i64 (rd_T43 xs i).f0) ∧ w.cell? ⟨(ad.add (i.toNat * 4)).block, (ad.add (i.toNat * 4)).off + 1, none⟩ = some (.int .i64 (rd_T43 xs i).f1) ∧ w.cell? ⟨(ad.add (i.toNat * 4)).block, (ad.add (i.toNat * 4)).off + 2, none⟩ = some (.int .i64 (rd_T43 xs i).f2) ∧ w.cell? ⟨(ad.add (i.toNat * 4)).block, (ad.add (i.toNat * 4)).off + 3, none⟩ = some (.int .i64 (rd_T43 xs i).f3) := by
  obtain ⟨ad, c, e, _, hK, hc0⟩ := Kd.C_get h z43 i h0 h1
  have hc : ∀ j u, c[j]? = some u → w.cell? (ad.add (i.toNat * 4 + j)) = some u := hc0
  obtain rfl := k43_open hK
  exact ⟨ad, e, hc 0 _ rfl, by rw [← add_field _ _ 1 (by omega)]; exact hc 1 _ rfl, by rw [← add_field _ _ 2 (by omega)]; exact hc 2 _ rfl, by rw [← add_field _ _ 3 (by omega)]; exact hc 3 _ rfl⟩

def rd_L5 (xs : List (List S43)) (i : Int) : (List S43) := xs.getD i.toNat ([] : List S43)
theorem at_L5 {w : World} {A : Option Addr} {n : Nat} {xs : List (List S43)} (h : Kd.C (Kd.slice 43 k43) w A n xs) (i : Int) (h0 : 0 ≤ i) (h1 : i < n) : ∃ ad A0 c0, A = some ad ∧ w.cell? (ad.add i.toNat) = some (.slice A0 (rd_L5 xs i).length c0) ∧ (rd_L5 xs i).length ≤ c0 ∧ k43.C w A0 (rd_L5 xs i).length (rd_L5 xs i) := by
  obtain ⟨ad, c, e, _, hK, hc0⟩ := Kd.C_get h ([] : List S43) i h0 h1
  have hc : ∀ j u, c[j]? = some u → w.cell? (ad.add (i.toNat * 1 + j)) = some u := hc0
  obtain ⟨A0, c0, rfl, l0, g0⟩ := hK
  exact ⟨ad, A0, c0, e, by have hq := hc 0 _ rfl; rwa [Nat.mul_one, Nat.add_zero] at hq, l0, g0⟩

/-! #### struct type 49 -/
structure S49 where
  f0 : Int
  f1 : Int
  f2 : Int
  f3 : Int
  f4 : ByteArray
def z49 : S49 := ⟨(0 : Int), (0 : Int), (0 : Int), (0 : Int), (⟨#[]⟩ : ByteArray)⟩
def k49 : Kd S49 := Kd.iso (Kd.pair (Kd.int .i64) (Kd.pair (Kd.int .i64) (Kd.pair (Kd.int .i64) (Kd.pair (Kd.int .i64) Kd.string)))) (fun x : S49 => (x.f0, x.f1, x.f2, x.f3, x.f4))
theorem k49_open {w : World} {x : S49} {cs : List Value} (h : k49.K w x cs) : cs = [.int .i64 x.f0, .int .i64 x.f1, .int .i64 x.f2, .int .i64 x.f3, .string x.f4] := by
  obtain ⟨_, _, rfl, rfl, ⟨_, _, rfl, rfl, ⟨_, _, rfl, rfl, ⟨_, _, rfl, rfl, rfl⟩⟩⟩⟩ := h
  exact rfl
theorem k49_openM {w : World} {base : Nat} {ok : Nat → Prop} {x : S49} {cs : List Value} (h : k49.M w base ok x cs) : cs = [.int .i64 x.f0, .int .i64 x.f1, .int .i64 x.f2, .int .i64 x.f3, .string x.f4] := by
  obtain ⟨_, _, rfl, rfl, ⟨_, _, rfl, rfl, ⟨_, _, rfl, rfl, ⟨_, _, rfl, rfl, rfl⟩⟩⟩⟩ := h
  exact rfl
theorem k49_mk (w : World) (x : S49)  : k49.K w x [.int .i64 x.f0, .int .i64 x.f1, .int .i64 x.f2, .int .i64 x.f3, .string x.f4] := ⟨[.int .i64 x.f0], [.int .i64 x.f1, .int .i64 x.f2, .int .i64 x.f3, .string x.f4], rfl, rfl, ⟨[.int .i64 x.f1], [.int .i64 x.f2, .int .i64 x.f3, .string x.f4], rfl, rfl, ⟨[.int .i64 x.f2], [.int .i64 x.f3, .string x.f4], rfl, rfl, ⟨[.int .i64 x.f3], [.string x.f4], rfl, rfl, rfl⟩⟩⟩⟩
theorem k49_mkM (w : World) (base : Nat) (ok : Nat → Prop) (x : S49)  : k49.M w base ok x [.int .i64 x.f0, .int .i64 x.f1, .int .i64 x.f2, .int .i64 x.f3, .string x.f4] := ⟨[.int .i64 x.f0], [.int .i64 x.f1, .int .i64 x.f2, .int .i64 x.f3, .string x.f4], rfl, rfl, ⟨[.int .i64 x.f1], [.int .i64 x.f2, .int .i64 x.f3, .string x.f4], rfl, rfl, ⟨[.int .i64 x.f2], [.int .i64 x.f3, .string x.f4], rfl, rfl, ⟨[.int .i64 x.f3], [.string x.f4], rfl, rfl, rfl⟩⟩⟩⟩
theorem k49_mkF (W : World) (ok : Nat → Prop) (x : S49) : Kd.FK k49 W ok x [.int .i64 x.f0, .int .i64 x.f1, .int .i64 x.f2, .int .i64 x.f3, .string x.f4] := fun W2 _ => k49_mk W2 x
def rd_T49 (xs : List S49) (i : Int) : S49 := xs.getD i.toNat z49
theorem at_T49 {w : World} {A : Option Addr} {n : Nat} {xs : List S49} (h : Kd.C k49 w A n xs) (i : Int) (h0 : 0 ≤ i) (h1 : i < n) : ∃ ad , A = some ad ∧ w.cell? (ad.add (i.toNat * 5)) = some (.int .i64 (rd_T49 xs i).f0) ∧ w.cell? ⟨(ad.add (i.toNat * 5)).block, (ad.add (i.toNat * 5)).off + 1, none⟩ = some (.int .i64 (rd_T49 xs i).f1) ∧ w.cell? ⟨(ad.add (i.toNat * 5)).block, (ad.add (i.toNat * 5)).off + 2, none⟩ = some (.int .i64 (rd_T49 xs i).f2) ∧ w.cell? ⟨(ad.add (i.toNat * 5)).block, (ad.add (i.toNat * 5)).off + 3, none⟩ = some (.int .i64 (rd_T49 xs i).f3) ∧ w.cell? ⟨(ad.add (i.toNat * 5)).block, (ad.add (i.toNat * 5)).off + 4, none⟩ = some (.string (rd_T49 xs i).f4) := by
  obtain ⟨ad, c, e, _, hK, hc0⟩ := Kd.C_get h z49 i h0 h1
  have hc : ∀ j u, c[j]? = some u → w.cell? (ad.add (i.toNat * 5 + j)) = some u := hc0
  obtain rfl := k49_open hK
  exact ⟨ad, e, hc 0 _ rfl, by rw [← add_field _ _ 1 (by omega)]; exact hc 1 _ rfl, by rw [← add_field _ _ 2 (by omega)]; exact hc 2 _ rfl, by rw [← add_field _ _ 3 (by omega)]; exact hc 3 _ rfl, by rw [← add_field _ _ 4 (by omega)]; exact hc 4 _ rfl⟩

def rd_L9 (xs : List (List Int)) (i : Int) : (List Int) := xs.getD i.toNat ([] : List Int)
theorem at_L9 {w : World} {A : Option Addr} {n : Nat} {xs : List (List Int)} (h : Kd.C (Kd.slice 3 (Kd.int .i64)) w A n xs) (i : Int) (h0 : 0 ≤ i) (h1 : i < n) : ∃ ad A0 c0, A = some ad ∧ w.cell? (ad.add i.toNat) = some (.slice A0 (rd_L9 xs i).length c0) ∧ (rd_L9 xs i).length ≤ c0 ∧ (Kd.int .i64).C w A0 (rd_L9 xs i).length (rd_L9 xs i) := by
  obtain ⟨ad, c, e, _, hK, hc0⟩ := Kd.C_get h ([] : List Int) i h0 h1
  have hc : ∀ j u, c[j]? = some u → w.cell? (ad.add (i.toNat * 1 + j)) = some u := hc0
  obtain ⟨A0, c0, rfl, l0, g0⟩ := hK
  exact ⟨ad, A0, c0, e, by have hq := hc 0 _ rfl; rwa [Nat.mul_one, Nat.add_zero] at hq, l0, g0⟩

/-! #### struct type 34 -/
structure S34 where
  f0 : Int
  f1 : (List Int)
def z34 : S34 := ⟨(0 : Int), ([] : List Int)⟩
def k34 : Kd S34 := Kd.iso (Kd.pair (Kd.int .i64) (Kd.slice 3 (Kd.int .i64))) (fun x : S34 => (x.f0, x.f1))
theorem k34_open {w : World} {x : S34} {cs : List Value} (h : k34.K w x cs) : ∃ A1 c1, cs = [.int .i64 x.f0, .slice A1 x.f1.length c1] ∧ x.f1.length ≤ c1 ∧ (Kd.int .i64).C w A1 x.f1.length x.f1 := by
  obtain ⟨_, _, rfl, rfl, ⟨A1, c1, rfl, l1, g1⟩⟩ := h
  exact ⟨A1, c1, rfl, l1, g1⟩
theorem k34_openM {w : World} {base : Nat} {ok : Nat → Prop} {x : S34} {cs : List Value} (h : k34.M w base ok x cs) : ∃ v1, cs = [.int .i64 x.f0, v1] ∧ (Kd.int .i64).R 3 w base ok v1 x.f1 := by
  obtain ⟨_, _, rfl, rfl, ⟨v1, rfl, g1⟩⟩ := h
  exact ⟨v1, rfl, g1⟩
theorem k34_mk (w : World) (x : S34) {A1 : Option Addr} {c1 : Nat} (l1 : x.f1.length ≤ c1) (g1 : (Kd.int .i64).C w A1 x.f1.length x.f1) : k34.K w x [.int .i64 x.f0, .slice A1 x.f1.length c1] := ⟨[.int .i64 x.f0], [.slice A1 x.f1.length c1], rfl, rfl, ⟨A1, c1, rfl, l1, g1⟩⟩
theorem k34_mkM (w : World) (base : Nat) (ok : Nat → Prop) (x : S34) {v1 : Value} (g1 : (Kd.int .i64).R 3 w base ok v1 x.f1) : k34.M w base ok x [.int .i64 x.f0, v1] := ⟨[.int .i64 x.f0], [v1], rfl, rfl, ⟨v1, rfl, g1⟩⟩
theorem k34_openF {W : World} {ok : Nat → Prop} {x : S34} {cs : List Value} (h : Kd.FK k34 W ok x cs) : ∃ A1 c1, cs = [.int .i64 x.f0, .slice A1 x.f1.length c1] ∧ x.f1.length ≤ c1 ∧ Kd.F (Kd.int .i64) W ok A1 x.f1.length x.f1 := by
  obtain ⟨A1, c1, rfl, l1, _⟩ := k34_open (Kd.FK_now h)
  exact ⟨A1, c1, rfl, l1, (fun W' hW => by obtain ⟨A1_, c1_, he, l1_, g1_⟩ := k34_open (h W' hW); injection (Option.some.inj (show some (Value.slice A1 x.f1.length c1) = some (Value.slice A1_ x.f1.length c1_) from congrArg (fun l => l[1]?) he)) with ha_ _ _; rw [ha_]; exact g1_)⟩
theorem k34_mkF (W : World) (ok : Nat → Prop) (x : S34) {A1 : Option Addr} {c1 : Nat} (l1 : x.f1.length ≤ c1) (g1 : Kd.F (Kd.int .i64) W ok A1 x.f1.length x.f1) : Kd.FK k34 W ok x [.int .i64 x.f0, .slice A1 x.f1.length c1] := fun W2 hW => k34_mk W2 x l1 (g1 W2 hW)
def rd_T34 (xs : List S34) (i : Int) : S34 := xs.getD i.toNat z34
theorem at_T34 {w : World} {A : Option Addr} {n : Nat} {xs : List S34} (h : Kd.C k34 w A n xs) (i : Int) (h0 : 0 ≤ i) (h1 : i < n) : ∃ ad A1 c1, A = some ad ∧ w.cell? (ad.add (i.toNat * 2)) = some (.int .i64 (rd_T34 xs i).f0) ∧ w.cell? ⟨(ad.add (i.toNat * 2)).block, (ad.add (i.toNat * 2)).off + 1, none⟩ = some (.slice A1 (rd_T34 xs i).f1.length c1) ∧ (rd_T34 xs i).f1.length ≤ c1 ∧ (Kd.int .i64).C w A1 (rd_T34 xs i).f1.length (rd_T34 xs i).f1 := by
  obtain ⟨ad, c, e, _, hK, hc0⟩ := Kd.C_get h z34 i h0 h1
  have hc : ∀ j u, c[j]? = some u → w.cell? (ad.add (i.toNat * 2 + j)) = some u := hc0
  obtain ⟨A1, c1, rfl, l1, g1⟩ := k34_open hK
  exact ⟨ad, A1, c1, e, hc 0 _ rfl, by rw [← add_field _ _ 1 (by omega)]; exact hc 1 _ rfl, l1, g1⟩

/-! #### struct type 94 -/
structure S94 where
  f0 : Int
  f1 : Int
  f2 : Int
def z94 : S94 := ⟨(0 : Int), (0 : Int), (0 : Int)⟩
def k94 : Kd S94 := Kd.iso (Kd.pair (Kd.int .i64) (Kd.pair (Kd.int .i64) (Kd.int .i64))) (fun x : S94 => (x.f0, x.f1, x.f2))
theorem k94_open {w : World} {x : S94} {cs : List Value} (h : k94.K w x cs) : cs = [.int .i64 x.f0, .int .i64 x.f1, .int .i64 x.f2] := by
  obtain ⟨_, _, rfl, rfl, ⟨_, _, rfl, rfl, rfl⟩⟩ := h
  exact rfl
theorem k94_openM {w : World} {base : Nat} {ok : Nat → Prop} {x : S94} {cs : List Value} (h : k94.M w base ok x cs) : cs = [.int .i64 x.f0, .int .i64 x.f1, .int .i64 x.f2] := by
  obtain ⟨_, _, rfl, rfl, ⟨_, _, rfl, rfl, rfl⟩⟩ := h
  exact rfl
theorem k94_mk (w : World) (x : S94)  : k94.K w x [.int .i64 x.f0, .int .i64 x.f1, .int .i64 x.f2] := ⟨[.int .i64 x.f0], [.int .i64 x.f1, .int .i64 x.f2], rfl, rfl, ⟨[.int .i64 x.f1], [.int .i64 x.f2], rfl, rfl, rfl⟩⟩
theorem k94_mkM (w : World) (base : Nat) (ok : Nat → Prop) (x : S94)  : k94.M w base ok x [.int .i64 x.f0, .int .i64 x.f1, .int .i64 x.f2] := ⟨[.int .i64 x.f0], [.int .i64 x.f1, .int .i64 x.f2], rfl, rfl, ⟨[.int .i64 x.f1], [.int .i64 x.f2], rfl, rfl, rfl⟩⟩
theorem k94_mkF (W : World) (ok : Nat → Prop) (x : S94) : Kd.FK k94 W ok x [.int .i64 x.f0, .int .i64 x.f1, .int .i64 x.f2] := fun W2 _ => k94_mk W2 x
def rd_T94 (xs : List S94) (i : Int) : S94 := xs.getD i.toNat z94
theorem at_T94 {w : World} {A : Option Addr} {n : Nat} {xs : List S94} (h : Kd.C k94 w A n xs) (i : Int) (h0 : 0 ≤ i) (h1 : i < n) : ∃ ad , A = some ad ∧ w.cell? (ad.add (i.toNat * 3)) = some (.int .i64 (rd_T94 xs i).f0) ∧ w.cell? ⟨(ad.add (i.toNat * 3)).block, (ad.add (i.toNat * 3)).off + 1, none⟩ = some (.int .i64 (rd_T94 xs i).f1) ∧ w.cell? ⟨(ad.add (i.toNat * 3)).block, (ad.add (i.toNat * 3)).off + 2, none⟩ = some (.int .i64 (rd_T94 xs i).f2) := by
  obtain ⟨ad, c, e, _, hK, hc0⟩ := Kd.C_get h z94 i h0 h1
  have hc : ∀ j u, c[j]? = some u → w.cell? (ad.add (i.toNat * 3 + j)) = some u := hc0
  obtain rfl := k94_open hK
  exact ⟨ad, e, hc 0 _ rfl, by rw [← add_field _ _ 1 (by omega)]; exact hc 1 _ rfl, by rw [← add_field _ _ 2 (by omega)]; exact hc 2 _ rfl⟩

def rd_L12 (xs : List (List ByteArray)) (i : Int) : (List ByteArray) := xs.getD i.toNat ([] : List ByteArray)
theorem at_L12 {w : World} {A : Option Addr} {n : Nat} {xs : List (List ByteArray)} (h : Kd.C (Kd.slice 9 Kd.string) w A n xs) (i : Int) (h0 : 0 ≤ i) (h1 : i < n) : ∃ ad A0 c0, A = some ad ∧ w.cell? (ad.add i.toNat) = some (.slice A0 (rd_L12 xs i).length c0) ∧ (rd_L12 xs i).length ≤ c0 ∧ Kd.string.C w A0 (rd_L12 xs i).length (rd_L12 xs i) := by
  obtain ⟨ad, c, e, _, hK, hc0⟩ := Kd.C_get h ([] : List ByteArray) i h0 h1
  have hc : ∀ j u, c[j]? = some u → w.cell? (ad.add (i.toNat * 1 + j)) = some u := hc0
  obtain ⟨A0, c0, rfl, l0, g0⟩ := hK
  exact ⟨ad, A0, c0, e, by have hq := hc 0 _ rfl; rwa [Nat.mul_one, Nat.add_zero] at hq, l0, g0⟩

def rd_L13 (xs : List (List (List ByteArray))) (i : Int) : (List (List ByteArray)) := xs.getD i.toNat ([] : List (List ByteArray))
theorem at_L13 {w : World} {A : Option Addr} {n : Nat} {xs : List (List (List ByteArray))} (h : Kd.C (Kd.slice 110 (Kd.slice 9 Kd.string)) w A n xs) (i : Int) (h0 : 0 ≤ i) (h1 : i < n) : ∃ ad A0 c0, A = some ad ∧ w.cell? (ad.add i.toNat) = some (.slice A0 (rd_L13 xs i).length c0) ∧ (rd_L13 xs i).length ≤ c0 ∧ (Kd.slice 9 Kd.string).C w A0 (rd_L13 xs i).length (rd_L13 xs i) := by
  obtain ⟨ad, c, e, _, hK, hc0⟩ := Kd.C_get h ([] : List (List ByteArray)) i h0 h1
  have hc : ∀ j u, c[j]? = some u → w.cell? (ad.add (i.toNat * 1 + j)) = some u := hc0
  obtain ⟨A0, c0, rfl, l0, g0⟩ := hK
  exact ⟨ad, A0, c0, e, by have hq := hc 0 _ rfl; rwa [Nat.mul_one, Nat.add_zero] at hq, l0, g0⟩

def rd_L14 (xs : List (List (List (List ByteArray)))) (i : Int) : (List (List (List ByteArray))) := xs.getD i.toNat ([] : List (List (List ByteArray)))
theorem at_L14 {w : World} {A : Option Addr} {n : Nat} {xs : List (List (List (List ByteArray)))} (h : Kd.C (Kd.slice 109 (Kd.slice 110 (Kd.slice 9 Kd.string))) w A n xs) (i : Int) (h0 : 0 ≤ i) (h1 : i < n) : ∃ ad A0 c0, A = some ad ∧ w.cell? (ad.add i.toNat) = some (.slice A0 (rd_L14 xs i).length c0) ∧ (rd_L14 xs i).length ≤ c0 ∧ (Kd.slice 110 (Kd.slice 9 Kd.string)).C w A0 (rd_L14 xs i).length (rd_L14 xs i) := by
  obtain ⟨ad, c, e, _, hK, hc0⟩ := Kd.C_get h ([] : List (List (List ByteArray))) i h0 h1
  have hc : ∀ j u, c[j]? = some u → w.cell? (ad.add (i.toNat * 1 + j)) = some u := hc0
  obtain ⟨A0, c0, rfl, l0, g0⟩ := hK
  exact ⟨ad, A0, c0, e, by have hq := hc 0 _ rfl; rwa [Nat.mul_one, Nat.add_zero] at hq, l0, g0⟩

/-! #### struct type 114 -/
structure S114 where
  f0 : S43
  f1 : ByteArray
def z114 : S114 := ⟨z43, (⟨#[]⟩ : ByteArray)⟩
def k114 : Kd S114 := Kd.iso (Kd.pair k43 Kd.string) (fun x : S114 => (x.f0, x.f1))
theorem k114_open {w : World} {x : S114} {cs : List Value} (h : k114.K w x cs) : cs = [.int .i64 x.f0.f0, .int .i64 x.f0.f1, .int .i64 x.f0.f2, .int .i64 x.f0.f3, .string x.f1] := by
  obtain ⟨_, _, rfl, s0, rfl⟩ := h
  obtain rfl := k43_open s0
  exact rfl
theorem k114_openM {w : World} {base : Nat} {ok : Nat → Prop} {x : S114} {cs : List Value} (h : k114.M w base ok x cs) : cs = [.int .i64 x.f0.f0, .int .i64 x.f0.f1, .int .i64 x.f0.f2, .int .i64 x.f0.f3, .string x.f1] := by
  obtain ⟨_, _, rfl, s0, rfl⟩ := h
  obtain rfl := k43_openM s0
  exact rfl
theorem k114_mk (w : World) (x : S114)  : k114.K w x [.int .i64 x.f0.f0, .int .i64 x.f0.f1, .int .i64 x.f0.f2, .int .i64 x.f0.f3, .string x.f1] := ⟨[.int .i64 x.f0.f0, .int .i64 x.f0.f1, .int .i64 x.f0.f2, .int .i64 x.f0.f3], [.string x.f1], rfl, (k43_mk w x.f0 ), rfl⟩
theorem k114_mkM (w : World) (base : Nat) (ok : Nat → Prop) (x : S114)  : k114.M w base ok x [.int .i64 x.f0.f0, .int .i64 x.f0.f1, .int .i64 x.f0.f2, .int .i64 x.f0.f3, .string x.f1] := ⟨[.int .i64 x.f0.f0, .int .i64 x.f0.f1, .int .i64 x.f0.f2, .int .i64 x.f0.f3], [.string x.f1], rfl, (k43_mkM w base ok x.f0 ), rfl⟩
theorem k114_mkF (W : World) (ok : Nat → Prop) (x : S114) : Kd.FK k114 W ok x [.int .i64 x.f0.f0, .int .i64 x.f0.f1, .int .i64 x.f0.f2, .int .i64 x.f0.f3, .string x.f1] := fun W2 _ => k114_mk W2 x
def rd_T114 (xs : List S114) (i : Int) : S114 := xs.getD i.toNat z114
theorem at_T114 {w : World} {A : Option Addr} {n : Nat} {xs : List S114} (h : Kd.C k114 w A n xs) (i : Int) (h0 : 0 ≤ i) (h1 : i < n) : ∃ ad , A = some ad ∧ w.cell? (ad.add (i.toNat * 5)) = some (.int .i64 (rd_T114 xs i).f0.f0) ∧ w.cell? ⟨(ad.add (i.toNat * 5)).block, (ad.add (i.toNat * 5)).off + 1, none⟩ = some (.int .i64 (rd_T114 xs i).f0.f1) ∧ w.cell? ⟨(ad.add (i.toNat * 5)).block, (ad.add (i.toNat * 5)).off + 2, none⟩ = some (.int .i64 (rd_T114 xs i).f0.f2) ∧ w.cell? ⟨(ad.add (i.toNat * 5)).block, (ad.add (i.toNat * 5)).off + 3, none⟩ = some (.int .i64 (rd_T114 xs i).f0.f3) ∧ w.cell? ⟨(ad.add (i.toNat * 5)).block, (ad.add (i.toNat * 5)).off + 4, none⟩ = some (.string (rd_T114 xs i).f1) := by
  obtain ⟨ad, c, e, _, hK, hc0⟩ := Kd.C_get h z114 i h0 h1
  have hc : ∀ j u, c[j]? = some u → w.cell? (ad.add (i.toNat * 5 + j)) = some u := hc0
  obtain rfl := k114_open hK
  exact ⟨ad, e, hc 0 _ rfl, by rw [← add_field _ _ 1 (by omega)]; exact hc 1 _ rfl, by rw [← add_field _ _ 2 (by omega)]; exact hc 2 _ rfl, by rw [← add_field _ _ 3 (by omega)]; exact hc 3 _ rfl, by rw [← add_field _ _ 4 (by omega)]; exact hc 4 _ rfl⟩

def rd_L17 (xs : List (List S114)) (i : Int) : (List S114) := xs.getD i.toNat ([] : List S114)
theorem at_L17 {w : World} {A : Option Addr} {n : Nat} {xs : List (List S114)} (h : Kd.C (Kd.slice 114 k114) w A n xs) (i : Int) (h0 : 0 ≤ i) (h1 : i < n) : ∃ ad A0 c0, A = some ad ∧ w.cell? (ad.add i.toNat) = some (.slice A0 (rd_L17 xs i).length c0) ∧ (rd_L17 xs i).length ≤ c0 ∧ k114.C w A0 (rd_L17 xs i).length (rd_L17 xs i) := by
  obtain ⟨ad, c, e, _, hK, hc0⟩ := Kd.C_get h ([] : List S114) i h0 h1
  have hc : ∀ j u, c[j]? = some u → w.cell? (ad.add (i.toNat * 1 + j)) = some u := hc0
  obtain ⟨A0, c0, rfl, l0, g0⟩ := hK
  exact ⟨ad, A0, c0, e, by have hq := hc 0 _ rfl; rwa [Nat.mul_one, Nat.add_zero] at hq, l0, g0⟩

end Go.Proofs.Ytenaegjiggodkaa.PV

/- Fields of a picture that is no variable. -/
namespace Go.Proofs.Ytenaegjiggodkaa.PV
open Go.RowKit
theorem field49_4 (a b c d e : Value) (w : World) : (Instr.field 49 (.agg #[a, b, c, d, e]) 4).run Try.prog w = .ok e w := by kernel_rfl
end Go.Proofs.Ytenaegjiggodkaa.PV

-- Printed by vprint.py (a program of this claim over the translation's own print). Lean checks it.
namespace Go.Proofs.Ytenaegjiggodkaa.PV
open Go.RowKit Go.Proofs.YtenaegjiggodkaaW.PrintWords Go.Proofs.YtenaegjiggodkaaW.PrintLast Go.Proofs.YtenaegjiggodkaaW.PrintMore
attribute [local go_sem] max2_int min2_int max_two min_two max_three min_three max_four min_four   -- for this text's walks alone
set_option linter.unusedVariables false
set_option linter.unusedSimpArgs false

/-! ### video_formats: function 115 -/
def video_formats.f (a0 : Int) : Option (Bool) := if a0 ≥ 1 then (some (decide (a0 ≤ 4))) else (some false)
set_option maxHeartbeats 8000000 in
set_option maxRecDepth 100000 in
theorem video_formats.calls (a0 : Int) (r : Bool) (w : World) (h : video_formats.f a0 = some r) :
    Calls Try.prog 115 #[.int .i64 a0] w fun e w' => e = .returned (.bool r) ∧ Drawn0 w w' := by
  have H : (if a0 ≥ 1 then (some (decide (a0 ≤ 4))) else (some false)) = some r := h
  clear h
  by_cases c2 : a0 ≥ 1
  · rw [if_pos c2] at H
    have c2b0 : decide (1 ≤ a0) = true := decide_eq_true c2
    clear c2
    obtain rfl := Option.some.inj H
    go_enter Try.func115, Try.ntmps115
    go_wp2
    go_ret
    exact ⟨by first | rfl | (simp; done) | (simp [*]; done), by repeat (first | exact Drawn0.refl _ | apply Drawn0.step)⟩
  · rw [if_neg c2] at H
    have c2b0 : decide (1 ≤ a0) = false := decide_eq_false c2
    clear c2
    obtain rfl := Option.some.inj H
    go_enter Try.func115, Try.ntmps115
    go_wp2
    go_ret
    exact ⟨by first | rfl | (simp; done) | (simp [*]; done), by repeat (first | exact Drawn0.refl _ | apply Drawn0.step)⟩

end Go.Proofs.Ytenaegjiggodkaa.PV

-- Printed by vprint.py (a program of this claim over the translation's own print). Lean checks it.
namespace Go.Proofs.Ytenaegjiggodkaa.PV
open Go.RowKit Go.Proofs.YtenaegjiggodkaaW.PrintWords Go.Proofs.YtenaegjiggodkaaW.PrintLast Go.Proofs.YtenaegjiggodkaaW.PrintMore
attribute [local go_sem] max2_int min2_int max_two min_two max_three min_three max_four min_four   -- for this text's walks alone
set_option linter.unusedVariables false
set_option linter.unusedSimpArgs false

/-! ### video_modifiers: function 95 -/
def video_modifiers.f (a0 : Int) : Option (Bool) := if a0 = 0 then (some true) else (some (a0 == 1))
set_option maxHeartbeats 8000000 in
set_option maxRecDepth 100000 in
theorem video_modifiers.calls (a0 : Int) (r : Bool) (w : World) (h : video_modifiers.f a0 = some r) :
    Calls Try.prog 95 #[.int .i64 a0] w fun e w' => e = .returned (.bool r) ∧ Drawn0 w w' := by
  have H : (if a0 = 0 then (some true) else (some (a0 == 1))) = some r := h
  clear h
  by_cases c2 : a0 = 0
  · rw [if_pos c2] at H
    have c2b0 : (a0 == 0) = true := beq_iff_eq.mpr c2
    have c2b1 : (a0 != 0) = false := bne_eq_false_iff_eq.mpr c2
    clear c2
    obtain rfl := Option.some.inj H
    go_enter Try.func95, Try.ntmps95
    go_wp2
    go_ret
    exact ⟨by first | rfl | (simp; done) | (simp [*]; done), by repeat (first | exact Drawn0.refl _ | apply Drawn0.step)⟩
  · rw [if_neg c2] at H
    have c2b0 : (a0 == 0) = false := beq_eq_false_iff_ne.mpr c2
    have c2b1 : (a0 != 0) = true := bne_iff_ne.mpr c2
    obtain rfl := Option.some.inj H
    go_enter Try.func95, Try.ntmps95
    go_wp2
    go_ret
    exact ⟨by first | rfl | (simp; done) | (simp [*]; done), by repeat (first | exact Drawn0.refl _ | apply Drawn0.step)⟩

end Go.Proofs.Ytenaegjiggodkaa.PV

-- Printed by vprint.py (a program of this claim over the translation's own print). Lean checks it.
namespace Go.Proofs.Ytenaegjiggodkaa.PV
open Go.RowKit Go.Proofs.YtenaegjiggodkaaW.PrintWords Go.Proofs.YtenaegjiggodkaaW.PrintLast Go.Proofs.YtenaegjiggodkaaW.PrintMore
attribute [local go_sem] max2_int min2_int max_two min_two max_three min_three max_four min_four   -- for this text's walks alone
set_option linter.unusedVariables false
set_option linter.unusedSimpArgs false

/-! ### video_right: function 83 -/
def video_right.f (a0 : Int) (a1 : Int) (a2 : Int) (a3 : Int) : Option (Bool) := (video_formats.f a0).bind fun t203 => (if t203 = true then ((video_modifiers.f a1).bind fun t204 => (if t204 = true then (if a2 ≥ 1 then (if a2 ≤ 64 then (if a3 ≥ 1 then (some (decide (a3 ≤ 64))) else (some false)) else (some false)) else (some false)) else (some false))) else (some false))
set_option maxHeartbeats 8000000 in
set_option maxRecDepth 100000 in
theorem video_right.calls (a0 : Int) (a1 : Int) (a2 : Int) (a3 : Int) (r : Bool) (w : World) (h : video_right.f a0 a1 a2 a3 = some r) :
    Calls Try.prog 83 #[.int .i64 a0, .int .i64 a1, .int .i64 a2, .int .i64 a3] w fun e w' => e = .returned (.bool r) ∧ Drawn0 w w' := by
  have H : ((video_formats.f a0).bind fun t203 => (if t203 = true then ((video_modifiers.f a1).bind fun t204 => (if t204 = true then (if a2 ≥ 1 then (if a2 ≤ 64 then (if a3 ≥ 1 then (some (decide (a3 ≤ 64))) else (some false)) else (some false)) else (some false)) else (some false))) else (some false))) = some r := h
  clear h
  replace H := Option.bind_eq_some_iff.mp H
  obtain ⟨t203, A50, H⟩ := H
  replace H : (if t203 = true then ((video_modifiers.f a1).bind fun t204 => (if t204 = true then (if a2 ≥ 1 then (if a2 ≤ 64 then (if a3 ≥ 1 then (some (decide (a3 ≤ 64))) else (some false)) else (some false)) else (some false)) else (some false))) else (some false)) = some r := H
  have A5 := Aside0.mk A50
  clear A50
  by_cases c6 : t203 = true
  · subst c6
    have H1 : ((video_modifiers.f a1).bind fun t204 => (if t204 = true then (if a2 ≥ 1 then (if a2 ≤ 64 then (if a3 ≥ 1 then (some (decide (a3 ≤ 64))) else (some false)) else (some false)) else (some false)) else (some false))) = some r := by rw [if_pos rfl] at H; exact H
    clear H
    have H := H1
    clear H1
    replace H := Option.bind_eq_some_iff.mp H
    obtain ⟨t204, A70, H⟩ := H
    replace H : (if t204 = true then (if a2 ≥ 1 then (if a2 ≤ 64 then (if a3 ≥ 1 then (some (decide (a3 ≤ 64))) else (some false)) else (some false)) else (some false)) else (some false)) = some r := H
    have A7 := Aside0.mk A70
    clear A70
    by_cases c8 : t204 = true
    · subst c8
      have H1 : (if a2 ≥ 1 then (if a2 ≤ 64 then (if a3 ≥ 1 then (some (decide (a3 ≤ 64))) else (some false)) else (some false)) else (some false)) = some r := by rw [if_pos rfl] at H; exact H
      clear H
      have H := H1
      clear H1
      by_cases c9 : a2 ≥ 1
      · rw [if_pos c9] at H
        have c9b0 : decide (1 ≤ a2) = true := decide_eq_true c9
        clear c9
        by_cases c10 : a2 ≤ 64
        · rw [if_pos c10] at H
          have c10b0 : decide (a2 ≤ 64) = true := decide_eq_true c10
          clear c10
          by_cases c11 : a3 ≥ 1
          · rw [if_pos c11] at H
            have c11b0 : decide (1 ≤ a3) = true := decide_eq_true c11
            clear c11
            obtain rfl := Option.some.inj H
            go_enter Try.func83, Try.ntmps83
            go_wp2_with (first | ((with_reducible refine gate_callee (f := 115) rfl ?_); refine goesL_ (some 10) rfl rfl Try.func115 (by kernel_rfl) rfl #[.int .i64 a0] rfl (by (try simp only [List.map_toArray, List.map_cons, List.map_nil]); first | done | rfl | (simp only [List.length_drop, List.length_take]; rfl)) ?_; (with_reducible refine (video_formats.calls a0 true _ A5.out).mono ?_); rintro e w' ⟨rfl, ⟨nd, rfl⟩⟩; refine ⟨_, rfl, ?_⟩) | (go_at_call 95; (with_reducible refine (video_modifiers.calls a1 true _ A7.out).mono ?_); rintro e w' ⟨rfl, ⟨nd, rfl⟩⟩))
            go_ret
            exact ⟨by first | rfl | (simp; done) | (simp [*]; done), by repeat (first | exact Drawn0.refl _ | apply Drawn0.step)⟩
          · rw [if_neg c11] at H
            have c11b0 : decide (1 ≤ a3) = false := decide_eq_false c11
            clear c11
            obtain rfl := Option.some.inj H
            go_enter Try.func83, Try.ntmps83
            go_wp2_with (first | ((with_reducible refine gate_callee (f := 115) rfl ?_); refine goesL_ (some 10) rfl rfl Try.func115 (by kernel_rfl) rfl #[.int .i64 a0] rfl (by (try simp only [List.map_toArray, List.map_cons, List.map_nil]); first | done | rfl | (simp only [List.length_drop, List.length_take]; rfl)) ?_; (with_reducible refine (video_formats.calls a0 true _ A5.out).mono ?_); rintro e w' ⟨rfl, ⟨nd, rfl⟩⟩; refine ⟨_, rfl, ?_⟩) | (go_at_call 95; (with_reducible refine (video_modifiers.calls a1 true _ A7.out).mono ?_); rintro e w' ⟨rfl, ⟨nd, rfl⟩⟩))
            go_ret
            exact ⟨by first | rfl | (simp; done) | (simp [*]; done), by repeat (first | exact Drawn0.refl _ | apply Drawn0.step)⟩
        · rw [if_neg c10] at H
          have c10b0 : decide (a2 ≤ 64) = false := decide_eq_false c10
          clear c10
          obtain rfl := Option.some.inj H
          go_enter Try.func83, Try.ntmps83
          go_wp2_with (first | ((with_reducible refine gate_callee (f := 115) rfl ?_); refine goesL_ (some 10) rfl rfl Try.func115 (by kernel_rfl) rfl #[.int .i64 a0] rfl (by (try simp only [List.map_toArray, List.map_cons, List.map_nil]); first | done | rfl | (simp only [List.length_drop, List.length_take]; rfl)) ?_; (with_reducible refine (video_formats.calls a0 true _ A5.out).mono ?_); rintro e w' ⟨rfl, ⟨nd, rfl⟩⟩; refine ⟨_, rfl, ?_⟩) | (go_at_call 95; (with_reducible refine (video_modifiers.calls a1 true _ A7.out).mono ?_); rintro e w' ⟨rfl, ⟨nd, rfl⟩⟩))
          go_ret
          exact ⟨by first | rfl | (simp; done) | (simp [*]; done), by repeat (first | exact Drawn0.refl _ | apply Drawn0.step)⟩
      · rw [if_neg c9] at H
        have c9b0 : decide (1 ≤ a2) = false := decide_eq_false c9
        clear c9
        obtain rfl := Option.some.inj H
        go_enter Try.func83, Try.ntmps83
        go_wp2_with (first | ((with_reducible refine gate_callee (f := 115) rfl ?_); refine goesL_ (some 10) rfl rfl Try.func115 (by kernel_rfl) rfl #[.int .i64 a0] rfl (by (try simp only [List.map_toArray, List.map_cons, List.map_nil]); first | done | rfl | (simp only [List.length_drop, List.length_take]; rfl)) ?_; (with_reducible refine (video_formats.calls a0 true _ A5.out).mono ?_); rintro e w' ⟨rfl, ⟨nd, rfl⟩⟩; refine ⟨_, rfl, ?_⟩) | (go_at_call 95; (with_reducible refine (video_modifiers.calls a1 true _ A7.out).mono ?_); rintro e w' ⟨rfl, ⟨nd, rfl⟩⟩))
        go_ret
        exact ⟨by first | rfl | (simp; done) | (simp [*]; done), by repeat (first | exact Drawn0.refl _ | apply Drawn0.step)⟩
    · replace c8 := Bool.eq_false_iff.mpr c8
      subst c8
      have H1 : (some false) = some r := by rw [if_neg (show ¬ (false = true) by decide)] at H; exact H
      clear H
      have H := H1
      clear H1
      obtain rfl := Option.some.inj H
      go_enter Try.func83, Try.ntmps83
      go_wp2_with (first | ((with_reducible refine gate_callee (f := 115) rfl ?_); refine goesL_ (some 10) rfl rfl Try.func115 (by kernel_rfl) rfl #[.int .i64 a0] rfl (by (try simp only [List.map_toArray, List.map_cons, List.map_nil]); first | done | rfl | (simp only [List.length_drop, List.length_take]; rfl)) ?_; (with_reducible refine (video_formats.calls a0 true _ A5.out).mono ?_); rintro e w' ⟨rfl, ⟨nd, rfl⟩⟩; refine ⟨_, rfl, ?_⟩) | (go_at_call 95; (with_reducible refine (video_modifiers.calls a1 false _ A7.out).mono ?_); rintro e w' ⟨rfl, ⟨nd, rfl⟩⟩))
      go_ret
      exact ⟨by first | rfl | (simp; done) | (simp [*]; done), by repeat (first | exact Drawn0.refl _ | apply Drawn0.step)⟩
  · replace c6 := Bool.eq_false_iff.mpr c6
    subst c6
    have H1 : (some false) = some r := by rw [if_neg (show ¬ (false = true) by decide)] at H; exact H
    clear H
    have H := H1
    clear H1
    obtain rfl := Option.some.inj H
    go_enter Try.func83, Try.ntmps83
    go_wp2_with (first | ((with_reducible refine gate_callee (f := 115) rfl ?_); refine goesL_ (some 10) rfl rfl Try.func115 (by kernel_rfl) rfl #[.int .i64 a0] rfl (by (try simp only [List.map_toArray, List.map_cons, List.map_nil]); first | done | rfl | (simp only [List.length_drop, List.length_take]; rfl)) ?_; (with_reducible refine (video_formats.calls a0 false _ A5.out).mono ?_); rintro e w' ⟨rfl, ⟨nd, rfl⟩⟩; refine ⟨_, rfl, ?_⟩))
    go_ret
    exact ⟨by first | rfl | (simp; done) | (simp [*]; done), by repeat (first | exact Drawn0.refl _ | apply Drawn0.step)⟩

end Go.Proofs.Ytenaegjiggodkaa.PV

/- The plain functions that the hand-written contracts of video's functions are stated over: no program in sight. -/
namespace Go.Proofs.Ytenaegjiggodkaa.PV
open Go.RowKit Go.Proofs.YtenaegjiggodkaaW.PrintWords Go.Proofs.YtenaegjiggodkaaW.PrintLast Go.Proofs.YtenaegjiggodkaaW.PrintMore
set_option linter.unusedVariables false

theorem S43.eq_iff (a b : S43) : a = b ↔ a.f0 = b.f0 ∧ a.f1 = b.f1 ∧ a.f2 = b.f2 ∧ a.f3 = b.f3 := by cases a; cases b; simp
theorem S145.eq_iff (a b : S145) : a = b ↔ a.f0 = b.f0 ∧ a.f1 = b.f1 := by cases a; cases b; simp
theorem S142.eq_iff (a b : S142) : a = b ↔ a.f0 = b.f0 ∧ a.f1 = b.f1 ∧ a.f2 = b.f2 := by cases a; cases b; simp
instance : DecidableEq S43 := fun a b => decidable_of_iff _ (S43.eq_iff a b).symm
instance : DecidableEq S145 := fun a b => decidable_of_iff _ (S145.eq_iff a b).symm
instance : DecidableEq S142 := fun a b => decidable_of_iff _ (S142.eq_iff a b).symm

/-- A rectangle within its bounds. -/
def okR (r : S43) : Bool := (decide (-10000 ≤ r.f0) && decide (r.f0 ≤ 10000)) && ((decide (-10000 ≤ r.f1) && decide (r.f1 ≤ 10000)) && ((decide (0 ≤ r.f2) && decide (r.f2 ≤ 20000)) && (decide (0 ≤ r.f3) && decide (r.f3 ≤ 20000))))
def covR (x y : Int) (r : S43) : Bool := decide (x ≥ r.f0) && (decide (x < wrap64 (r.f0 + r.f2)) && (decide (y ≥ r.f1) && decide (y < wrap64 (r.f1 + r.f3))))
def covL (l : List S43) (x y : Int) : Bool := l.any (covR x y)

/-- Numbers ascending, each once. -/
def insL (x : Int) : List Int → List Int
  | [] => [x]
  | y :: t => if x < y then x :: y :: t else if x = y then y :: t else y :: insL x t
def cutsL (l : List Int) : List Int := l.foldl (fun acc x => insL x acc) []
def fullR (r : S43) : Bool := decide (0 < r.f2) && decide (0 < r.f3)
def endsX (r : S43) : List Int := [r.f0, r.f0 + r.f2]
def endsY (r : S43) : List Int := [r.f1, r.f1 + r.f3]
def edgesX (l : List S43) : List Int := cutsL ((l.filter fullR).flatMap endsX)
def edgesY (l : List S43) : List Int := cutsL ((l.filter fullR).flatMap endsY)

/-- Neighbours in a list. -/
def pairs : List Int → List (Int × Int)
  | a :: b :: t => (a, b) :: pairs (b :: t)
  | _ => []
def stepS (acc : List S145) (p : Int × Int) : List S145 :=
  if 0 < acc.length ∧ (acc.getD (acc.length - 1) z145).f1 = p.1 then acc.set (acc.length - 1) ⟨(acc.getD (acc.length - 1) z145).f0, p.2⟩ else acc ++ [⟨p.1, p.2⟩]
def stepSel (sel : Int → Bool) (acc : List S145) (p : Int × Int) : List S145 := if sel p.1 = true then stepS acc p else acc
def spansOf (sel : Int → Bool) (xs : List Int) : List S145 := (pairs xs).foldl (stepSel sel) []
def bandOf (sel : Int → Int → Bool) (xs : List Int) (p : Int × Int) : S142 := ⟨p.1, p.2, spansOf (fun x => sel x p.1) xs⟩
def bandsOf (sel : Int → Int → Bool) (xs ys : List Int) : List S142 := (pairs ys).map (bandOf sel xs)
def stepB (l : List S142) (b : S142) : List S142 :=
  if 0 < l.length ∧ (l.getD (l.length - 1) z142).f1 = b.f0 ∧ (l.getD (l.length - 1) z142).f2 = b.f2 then l.set (l.length - 1) ⟨(l.getD (l.length - 1) z142).f0, b.f1, (l.getD (l.length - 1) z142).f2⟩ else l ++ [b]
def outB (b : S142) : List S43 := b.f2.map fun s => ⟨s.f0, b.f0, wrap64 (s.f1 - s.f0), wrap64 (b.f1 - b.f0)⟩
def outOf (l : List S142) : List S43 := l.flatMap outB
/-- The rectangles of the points of which sel holds, by a grid. -/
def gridL (sel : Int → Int → Bool) (xs ys : List Int) : List S43 := outOf ((bandsOf sel xs ys).foldl stepB [])
def selL (a b : List S43) (is : Bool → Bool → Bool) (x y : Int) : Bool := is (covL a x y) (covL b x y)
def madeL (a b : List S43) (is : Bool → Bool → Bool) : List S43 := gridL (selL a b is) (edgesX (a ++ b)) (edgesY (a ++ b))
def toldR (out : List S43) : List S43 × Int := if out.any (fun r => !okR r) = true then ([], 7) else if 200 < out.length then ([], 4) else (out, 0)
def madeR (a b : List S43) (is : Bool → Bool → Bool) : List S43 × Int := toldR (madeL a b is)
def eitherB (a b : Bool) : Bool := a || b
def bothB (a b : Bool) : Bool := a && b
def firstB (a b : Bool) : Bool := a && !b
def validRegionB (l : List S43) : Bool := if l.length ≤ 200 ∧ l.all okR = true then decide ((madeR l [] eitherB).2 = 0 ∧ (madeR l [] eitherB).1 = l) else false
def joinedR (a b : List S43) (is : Bool → Bool → Bool) : List S43 × Int := if validRegionB a = true ∧ validRegionB b = true then madeR a b is else ([], 1)

def video_valid.f (a0_0 : Int) (a0_1 : Int) (a0_2 : Int) (a0_3 : Int) : Option Bool := some (okR ⟨a0_0, a0_1, a0_2, a0_3⟩)
def video_covers.f (l0 : List S43) (a1 : Int) (a2 : Int) : Option Bool := some (covL l0 a1 a2)
def video_Region.f (l0 : List S43) : Option (List S43 × Int) := some (if l0.all okR = true then (if 200 < l0.length then ([], 4) else madeR l0 [] eitherB) else ([], 1))
def video_ValidRegion.f (l0 : List S43) : Option Bool := some (validRegionB l0)
def video_Union.f (l0 l1 : List S43) : Option (List S43 × Int) := some (joinedR l0 l1 eitherB)
def video_Meet.f (l0 l1 : List S43) : Option (List S43 × Int) := some (joinedR l0 l1 bothB)
def video_Less.f (l0 l1 : List S43) : Option (List S43 × Int) := some (joinedR l0 l1 firstB)
def aroundR (l : List S43) : S43 := ⟨(edgesX l).getD 0 0, (edgesY l).getD 0 0, wrap64 ((edgesX l).getD ((edgesX l).length - 1) 0 - (edgesX l).getD 0 0), wrap64 ((edgesY l).getD ((edgesY l).length - 1) 0 - (edgesY l).getD 0 0)⟩
def video_around.f (l0 : List S43) : Option (Int × Int × Int × Int) :=
  if l0.length = 0 then some (0, 0, 0, 0)
  else if l0.length ≤ 10000 ∧ l0.all okR = true ∧ l0.any fullR = true then some ((aroundR l0).f0, (aroundR l0).f1, (aroundR l0).f2, (aroundR l0).f3) else none
def api_Rect_82.f (l0 : List S43) : Option (List S43) := if l0.length ≤ 1000000 then some l0 else none
def continuoref25_cuts.f (l0 : List Int) : Option (List Int) := if l0.length ≤ 1000000 then some (cutsL l0) else none
/-- The rectangles of a band: neighbours that touch are one. -/
def stepRow (acc : List S43) (r : S43) : List S43 :=
  if 0 < acc.length ∧ wrap64 ((acc.getD (acc.length - 1) z43).f0 + (acc.getD (acc.length - 1) z43).f2) = r.f0 then acc.set (acc.length - 1) { acc.getD (acc.length - 1) z43 with f2 := wrap64 ((acc.getD (acc.length - 1) z43).f2 + r.f2) } else acc ++ [r]
def rowL (l : List S43) : List S43 := l.foldl stepRow []
def continuoref25_row.f (l0 : List S43) : Option (List S43) := if l0.length ≤ 1000000 then some (rowL l0) else none
end Go.Proofs.Ytenaegjiggodkaa.PV

/- The contracts of video's planes. -/
namespace Go.Proofs.Ytenaegjiggodkaa.PV
open Go.RowKit Go.Proofs.YtenaegjiggodkaaW.PrintWords Go.Proofs.YtenaegjiggodkaaW.PrintLast Go.Proofs.YtenaegjiggodkaaW.PrintMore
set_option linter.unusedVariables false
set_option linter.unusedSimpArgs false
/-- The format of a number, as the program holds it. -/
def ofV (n : Int) : Value := if n = 4 then .iface 169 (.agg #[]) else .iface 167 (.agg #[.int .i64 (if n = 1 then 1 else if n = 2 then 3 else 4)])
theorem idx170_1 (w : World) : (Instr.index 170 (.agg #[.nilIface, .iface 167 (.agg #[.int .i64 1]), .iface 167 (.agg #[.int .i64 3]), .iface 167 (.agg #[.int .i64 4]), .iface 169 (.agg #[])]) (.int .i64 1)).run Try.prog w = .ok (.iface 167 (.agg #[.int .i64 1])) w := by kernel_rfl
theorem idx170_2 (w : World) : (Instr.index 170 (.agg #[.nilIface, .iface 167 (.agg #[.int .i64 1]), .iface 167 (.agg #[.int .i64 3]), .iface 167 (.agg #[.int .i64 4]), .iface 169 (.agg #[])]) (.int .i64 2)).run Try.prog w = .ok (.iface 167 (.agg #[.int .i64 3])) w := by kernel_rfl
theorem idx170_3 (w : World) : (Instr.index 170 (.agg #[.nilIface, .iface 167 (.agg #[.int .i64 1]), .iface 167 (.agg #[.int .i64 3]), .iface 167 (.agg #[.int .i64 4]), .iface 169 (.agg #[])]) (.int .i64 3)).run Try.prog w = .ok (.iface 167 (.agg #[.int .i64 4])) w := by kernel_rfl
theorem idx170_4 (w : World) : (Instr.index 170 (.agg #[.nilIface, .iface 167 (.agg #[.int .i64 1]), .iface 167 (.agg #[.int .i64 3]), .iface 167 (.agg #[.int .i64 4]), .iface 169 (.agg #[])]) (.int .i64 4)).run Try.prog w = .ok (.iface 169 (.agg #[])) w := by kernel_rfl
attribute [local go_sem] idx170_1 idx170_2 idx170_3 idx170_4
set_option maxHeartbeats 1000000 in
set_option maxRecDepth 100000 in
theorem of_any (n : Int) (h0 : 1 ≤ n) (h1 : n ≤ 4) (w : World) : Calls Try.prog 131 #[.int .i64 n] w fun e w' => e = .returned (ofV n) ∧ w = w' := by
  obtain rfl | rfl | rfl | rfl : n = 1 ∨ n = 2 ∨ n = 3 ∨ n = 4 := by omega
  all_goals
    go_enter Try.func131, Try.ntmps131
    go_wp2
    go_ret
    exact ⟨rfl, rfl⟩
theorem heap_new_at (W : World) (o : Obj) (k : Nat) (hk : k = W.heap.size) : (W.alloc o).heap[k]? = some o := by subst hk; exact heap_alloc_new W o
theorem cell_add {W : World} {g : Nat} {arr : Array Value} {t : TypeId} (h : W.heap[g]? = some (.cells arr t (0, 0))) (k : Nat) : W.cell? ((⟨g, 0, none⟩ : Addr).add k) = arr[k]? := by
  cases k with
  | zero => simp [World.cell?, Addr.add, h]
  | succ k => simp [World.cell?, Addr.add, h]
theorem C43_one {W : World} {g : Nat} {p : S43} {t : TypeId} (h : W.heap[g]? = some (.cells #[.int .i64 p.f0, .int .i64 p.f1, .int .i64 p.f2, .int .i64 p.f3] t (0, 0))) : Kd.C k43 W (some ⟨g, 0, none⟩) 1 [p] := by
  refine ⟨rfl, by omega, fun _ => ⟨_, rfl, fun j q hj => ?_⟩⟩
  match j, hj with
  | 0, hj =>
    simp at hj; subst hj
    refine ⟨[.int .i64 p.f0, .int .i64 p.f1, .int .i64 p.f2, .int .i64 p.f3], rfl, Kd.K_of_M k43 (k43_mkM W 0 (fun _ => True) p), fun i u hi => ?_⟩
    rw [cell_add h]
    simpa using hi
  | j + 1, hj => simp at hj
theorem C43_three {W : World} {g : Nat} {p q r : S43} {t : TypeId} (h : W.heap[g]? = some (.cells #[.int .i64 p.f0, .int .i64 p.f1, .int .i64 p.f2, .int .i64 p.f3, .int .i64 q.f0, .int .i64 q.f1, .int .i64 q.f2, .int .i64 q.f3, .int .i64 r.f0, .int .i64 r.f1, .int .i64 r.f2, .int .i64 r.f3] t (0, 0))) : Kd.C k43 W (some ⟨g, 0, none⟩) 3 [p, q, r] := by
  refine ⟨rfl, by omega, fun _ => ⟨_, rfl, fun j x hj => ?_⟩⟩
  have hx : x = [p, q, r].getD j z43 := by simp [List.getD, hj]
  have hjl : j < 3 := by have := (List.getElem?_eq_some_iff.1 hj).1; simpa using this
  refine ⟨[.int .i64 x.f0, .int .i64 x.f1, .int .i64 x.f2, .int .i64 x.f3], rfl, Kd.K_of_M k43 (k43_mkM W 0 (fun _ => True) x), fun i u hi => ?_⟩
  have hil : i < 4 := by have := (List.getElem?_eq_some_iff.1 hi).1; simpa using this
  rw [show k43.sz = 4 from rfl, cell_add h, ← hi]
  match j, hjl, i, hil with
  | 0, _, 0, _ | 0, _, 1, _ | 0, _, 2, _ | 0, _, 3, _ | 1, _, 0, _ | 1, _, 1, _ | 1, _, 2, _ | 1, _, 3, _ | 2, _, 0, _ | 2, _, 1, _ | 2, _, 2, _ | 2, _, 3, _ => subst hx; rfl
def halfP (w h : Int) : S43 := ⟨wrap64 (Int.tdiv (wrap64 (w + 1)) 2), wrap64 (Int.tdiv (wrap64 (h + 1)) 2), 1, 2⟩
set_option maxHeartbeats 1000000 in
set_option maxRecDepth 100000 in
theorem planes179 (b x y : Int) (w : World) : Calls Try.prog 179 #[.agg #[.int .i64 b], .int .i64 x, .int .i64 y] w fun e w' => ∃ ad, e = .returned (.slice (some ad) 1 1) ∧ Kd.C k43 w' (some ad) 1 [⟨x, y, b, 1⟩] ∧ w.heap.size ≤ ad.block ∧ Below w.heap.size w w' := by
  go_enter Try.func179, Try.ntmps179
  go_wp2
  go_ret
  refine ⟨_, rfl, ?_, ?_, ?_⟩
  · exact C43_one (p := ⟨x, y, b, 1⟩) (heap_new_at _ _ _ (by simp))
  · simp
  · exact ((Below.refl _ _).alloc (Nat.le_refl _) _).alloc (by simp) _
set_option maxHeartbeats 1000000 in
set_option maxRecDepth 100000 in
theorem planes180 (x y : Int) (w : World) : Calls Try.prog 180 #[.agg #[], .int .i64 x, .int .i64 y] w fun e w' => ∃ ad, e = .returned (.slice (some ad) 3 3) ∧ Kd.C k43 w' (some ad) 3 [⟨x, y, 1, 1⟩, halfP x y, halfP x y] ∧ w.heap.size ≤ ad.block ∧ Below w.heap.size w w' := by
  go_enter Try.func180, Try.ntmps180
  go_wp2
  go_ret
  refine ⟨_, rfl, ?_, ?_, ?_⟩
  · exact C43_three (p := ⟨x, y, 1, 1⟩) (q := halfP x y) (r := halfP x y) (heap_new_at _ _ _ (by simp))
  · simp; omega
  · exact (((Below.refl _ _).alloc (Nat.le_refl _) _).alloc (by simp) _).alloc (by simp; omega) _
end Go.Proofs.Ytenaegjiggodkaa.PV

/- The plain functions of video's planes: sizes, places, pictures turned; no program in sight. -/
namespace Go.Proofs.Ytenaegjiggodkaa.PV
set_option linter.unusedVariables false
set_option linter.unusedSimpArgs false

def halfQ (w h : Int) : S43 := ⟨(w + 1) / 2, (h + 1) / 2, 1, 2⟩
def planesL (f w h : Int) : List S43 := if f = 4 then [⟨w, h, 1, 1⟩, halfQ w h, halfQ w h] else [⟨w, h, if f = 1 then 1 else if f = 2 then 3 else 4, 1⟩]
def pSize (m : Int) (q : S43) : Int := if m = 0 then q.f0 * q.f1 * q.f2 else (q.f0 + 3) / 4 * ((q.f1 + 3) / 4) * 16 * q.f2
def pAt (m : Int) (q : S43) (x y : Int) : Int := if m = 0 then (y * q.f0 + x) * q.f2 else ((y / 4 * ((q.f0 + 3) / 4) + x / 4) * 16 + y % 4 * 4 + x % 4) * q.f2
def okP (q : S43) : Prop := (1 ≤ q.f0 ∧ q.f0 ≤ 64) ∧ (1 ≤ q.f1 ∧ q.f1 ≤ 64) ∧ (1 ≤ q.f2 ∧ q.f2 ≤ 4) ∧ (1 ≤ q.f3 ∧ q.f3 ≤ 2)
def okM (m : Int) : Prop := m = 0 ∨ m = 1
/-- A picture's numbers are right. -/
def okF (f m w h : Int) : Prop := (1 ≤ f ∧ f ≤ 4) ∧ okM m ∧ (1 ≤ w ∧ w ≤ 64) ∧ (1 ≤ h ∧ h ≤ 64)
def sumL : List Int → Int
  | [] => 0
  | a :: t => a + sumL t
theorem sumL_append (a b : List Int) : sumL (a ++ b) = sumL a + sumL b := by
  induction a with
  | nil => simp [sumL]
  | cons x t ih => simp only [List.cons_append, sumL, ih]; omega
def sizeL (f m w h : Int) : Int := sumL ((planesL f w h).map (pSize m))
theorem planes_ok {f w h : Int} (hf : 1 ≤ f ∧ f ≤ 4) (hw : 1 ≤ w ∧ w ≤ 64) (hh : 1 ≤ h ∧ h ≤ 64) : ∀ q ∈ planesL f w h, okP q := by
  intro q hq
  unfold planesL at hq
  split at hq
  · simp at hq
    rcases hq with rfl | rfl
    · unfold okP; dsimp only; omega
    · unfold okP halfQ; dsimp only; omega
  · simp at hq
    subst hq
    unfold okP
    dsimp only
    split
    · omega
    · split <;> omega
theorem planes_length (f w h : Int) : 1 ≤ (planesL f w h).length ∧ (planesL f w h).length ≤ 3 := by unfold planesL; split <;> simp
theorem mul_bd {a b A B : Int} (ha : 0 ≤ a) (hb : 0 ≤ b) (hA : a ≤ A) (hB : b ≤ B) : 0 ≤ a * b ∧ a * b ≤ A * B :=
  ⟨Int.mul_nonneg ha hb, Int.mul_le_mul hA hB hb (Int.le_trans ha hA)⟩
theorem pSize_bd {q : S43} (h : okP q) {m : Int} (hm : okM m) : 0 < pSize m q ∧ pSize m q ≤ 16384 := by
  obtain ⟨⟨a1, a2⟩, ⟨b1, b2⟩, ⟨c1, c2⟩, _⟩ := h
  unfold pSize
  split
  · have h1 := mul_bd (by omega : (0 : Int) ≤ q.f0) (by omega : (0 : Int) ≤ q.f1) a2 b2
    have h2 := mul_bd h1.1 (by omega : (0 : Int) ≤ q.f2) h1.2 c2
    have h3 : 0 < q.f0 * q.f1 * q.f2 := Int.mul_pos (Int.mul_pos (by omega) (by omega)) (by omega)
    omega
  · have h1 := mul_bd (by omega : (0 : Int) ≤ (q.f0 + 3) / 4) (by omega : (0 : Int) ≤ (q.f1 + 3) / 4) (by omega : (q.f0 + 3) / 4 ≤ 16) (by omega : (q.f1 + 3) / 4 ≤ 16)
    have h2 := mul_bd (by omega : (0 : Int) ≤ (q.f0 + 3) / 4 * ((q.f1 + 3) / 4) * 16) (by omega : (0 : Int) ≤ q.f2) (by omega : (q.f0 + 3) / 4 * ((q.f1 + 3) / 4) * 16 ≤ 16 * 16 * 16) c2
    have h3 : 0 < (q.f0 + 3) / 4 * ((q.f1 + 3) / 4) * 16 * q.f2 := Int.mul_pos (Int.mul_pos (Int.mul_pos (by omega) (by omega)) (by omega)) (by omega)
    omega
theorem idx0_bd {q : S43} (h : okP q) {x y : Int} (hx : 0 ≤ x ∧ x < q.f0) (hy : 0 ≤ y ∧ y < q.f1) : 0 ≤ y * q.f0 + x ∧ y * q.f0 + x + 1 ≤ q.f0 * q.f1 := by
  have h1 : 0 ≤ y * q.f0 := Int.mul_nonneg hy.1 (by omega)
  have h2 : (y + 1) * q.f0 ≤ q.f1 * q.f0 := Int.mul_le_mul_of_nonneg_right (by omega) (by omega)
  rw [Int.add_mul, Int.one_mul] at h2
  rw [Int.mul_comm q.f0 q.f1]
  omega
theorem idx1_bd {q : S43} (h : okP q) {x y : Int} (hx : 0 ≤ x ∧ x < q.f0) (hy : 0 ≤ y ∧ y < q.f1) : 0 ≤ (y / 4 * ((q.f0 + 3) / 4) + x / 4) * 16 + y % 4 * 4 + x % 4 ∧ (y / 4 * ((q.f0 + 3) / 4) + x / 4) * 16 + y % 4 * 4 + x % 4 + 1 ≤ (q.f0 + 3) / 4 * ((q.f1 + 3) / 4) * 16 := by
  have h1 : 0 ≤ y / 4 * ((q.f0 + 3) / 4) := Int.mul_nonneg (by omega) (by omega)
  have h2 : (y / 4 + 1) * ((q.f0 + 3) / 4) ≤ (q.f1 + 3) / 4 * ((q.f0 + 3) / 4) := Int.mul_le_mul_of_nonneg_right (by omega) (by omega)
  rw [Int.add_mul, Int.one_mul] at h2
  rw [Int.mul_comm ((q.f0 + 3) / 4) ((q.f1 + 3) / 4)]
  omega
/-- The place of a point among those of a plane. -/
def pIdx (m : Int) (q : S43) (x y : Int) : Int := if m = 0 then y * q.f0 + x else (y / 4 * ((q.f0 + 3) / 4) + x / 4) * 16 + y % 4 * 4 + x % 4
def pPts (m : Int) (q : S43) : Int := if m = 0 then q.f0 * q.f1 else (q.f0 + 3) / 4 * ((q.f1 + 3) / 4) * 16
theorem pAt_idx (m : Int) (q : S43) (x y : Int) : pAt m q x y = pIdx m q x y * q.f2 := by unfold pAt pIdx; split <;> rfl
theorem pSize_pts (m : Int) (q : S43) : pSize m q = pPts m q * q.f2 := by unfold pSize pPts; split <;> rfl
theorem pIdx_bd {q : S43} (h : okP q) (m : Int) {x y : Int} (hx : 0 ≤ x ∧ x < q.f0) (hy : 0 ≤ y ∧ y < q.f1) : 0 ≤ pIdx m q x y ∧ pIdx m q x y + 1 ≤ pPts m q := by
  unfold pIdx pPts
  split
  · exact idx0_bd h hx hy
  · exact idx1_bd h hx hy
theorem pAt_bd {q : S43} (h : okP q) (m : Int) {x y : Int} (hx : 0 ≤ x ∧ x < q.f0) (hy : 0 ≤ y ∧ y < q.f1) : 0 ≤ pAt m q x y ∧ pAt m q x y + q.f2 ≤ pSize m q := by
  obtain ⟨h1, h2⟩ := pIdx_bd h m hx hy
  obtain ⟨_, _, ⟨c1, c2⟩, _⟩ := h
  rw [pAt_idx, pSize_pts]
  have h3 := Int.mul_nonneg h1 (by omega : (0 : Int) ≤ q.f2)
  have h4 : (pIdx m q x y + 1) * q.f2 ≤ pPts m q * q.f2 := Int.mul_le_mul_of_nonneg_right h2 (by omega)
  rw [Int.add_mul, Int.one_mul] at h4
  omega
theorem idx0_inj {w x y x' y' : Int} (hx : 0 ≤ x ∧ x < w) (hx' : 0 ≤ x' ∧ x' < w) (h : y * w + x = y' * w + x') : x = x' ∧ y = y' := by
  have e1 : (y * w + x) / w = y := by rw [Int.add_comm, Int.add_mul_ediv_right _ _ (by omega), Int.ediv_eq_zero_of_lt hx.1 hx.2, Int.zero_add]
  have e2 : (y' * w + x') / w = y' := by rw [Int.add_comm, Int.add_mul_ediv_right _ _ (by omega), Int.ediv_eq_zero_of_lt hx'.1 hx'.2, Int.zero_add]
  have e3 : y = y' := by rw [← e1, ← e2, h]
  subst e3
  exact ⟨by omega, rfl⟩
theorem pIdx_inj {q : S43} (hq : okP q) (m : Int) {x y x' y' : Int} (hx : 0 ≤ x ∧ x < q.f0) (hx' : 0 ≤ x' ∧ x' < q.f0) (hy : 0 ≤ y ∧ y < q.f1) (hy' : 0 ≤ y' ∧ y' < q.f1) (h : pIdx m q x y = pIdx m q x' y') : x = x' ∧ y = y' := by
  unfold pIdx at h
  split at h
  · exact idx0_inj hx hx' h
  · have h0 : y / 4 * ((q.f0 + 3) / 4) + x / 4 = y' / 4 * ((q.f0 + 3) / 4) + x' / 4 := by omega
    have h1 := idx0_inj (w := (q.f0 + 3) / 4) (x := x / 4) (x' := x' / 4) (by omega) (by omega) h0
    omega

/-- Bytes put into a list from a place on; a piece of a list. -/
def putAt (out : List UInt8) (k : Nat) (bs : List UInt8) : List UInt8 := out.take k ++ bs ++ out.drop (k + bs.length)
def seg (d : List UInt8) (k n : Nat) : List UInt8 := (d.drop k).take n
theorem putAt_length (out : List UInt8) (k : Nat) (bs : List UInt8) (h : k + bs.length ≤ out.length) : (putAt out k bs).length = out.length := by
  unfold putAt; simp; omega
theorem putAt_get (out : List UInt8) (k : Nat) (bs : List UInt8) (h : k + bs.length ≤ out.length) (i : Nat) : (putAt out k bs)[i]? = if k ≤ i ∧ i < k + bs.length then bs[i - k]? else out[i]? := by
  unfold putAt
  have hl : (out.take k).length = k := by rw [List.length_take]; omega
  by_cases h1 : i < k
  · rw [List.append_assoc, List.getElem?_append_left (by omega), List.getElem?_take_of_lt h1, if_neg (by omega)]
  · by_cases h2 : i < k + bs.length
    · rw [List.append_assoc, List.getElem?_append_right (by omega), hl, List.getElem?_append_left (by omega), if_pos (by omega)]
    · rw [List.getElem?_append_right (by simp; omega), if_neg (by omega), List.getElem?_drop]
      congr 1
      simp
      omega
theorem seg_length (d : List UInt8) (k n : Nat) (h : k + n ≤ d.length) : (seg d k n).length = n := by unfold seg; simp; omega
def turnCell (d : List UInt8) (m m' : Int) (q : S43) (fr tz : Int) (y : Nat) (out : List UInt8) (x : Nat) : List UInt8 := putAt out (tz + pAt m' q x y).toNat (seg d (fr + pAt m q x y).toNat q.f2.toNat)
def turnRow (d : List UInt8) (m m' : Int) (q : S43) (fr tz : Int) (out : List UInt8) (y : Nat) : List UInt8 := (List.range q.f0.toNat).foldl (turnCell d m m' q fr tz y) out
def turnPlane (d : List UInt8) (m m' : Int) (q : S43) (fr tz : Int) (out : List UInt8) : List UInt8 := (List.range q.f1.toNat).foldl (turnRow d m m' q fr tz) out
structure TSt where
  fr : Int
  tz : Int
  out : List UInt8
def turnStep (d : List UInt8) (m m' : Int) (s : TSt) (q : S43) : TSt := ⟨s.fr + pSize m q, s.tz + pSize m' q, turnPlane d m m' q s.fr s.tz s.out⟩
def turnUpto (d : List UInt8) (m m' : Int) (l : List S43) (n : Nat) (j : Nat) : TSt := (l.take j).foldl (turnStep d m m') ⟨0, 0, List.replicate n 0⟩
/-- The bytes of a picture under another modifier. -/
def turnedL (d : List UInt8) (f m m' w h : Int) : List UInt8 := (turnUpto d m m' (planesL f w h) (sizeL f m' w h).toNat 3).out
theorem turnUpto_succ (d : List UInt8) (m m' : Int) (l : List S43) (n j : Nat) (h : j < l.length) : turnUpto d m m' l n (j + 1) = turnStep d m m' (turnUpto d m m' l n j) (rd_T43 l j) := by
  unfold turnUpto
  rw [List.take_succ_eq_append_getElem h, List.foldl_append]
  simp only [List.foldl_cons, List.foldl_nil]
  congr 1
  unfold rd_T43
  simp [List.getD_eq_getElem?_getD, List.getElem?_eq_getElem h]
theorem turnUpto_fr (d : List UInt8) (m m' : Int) (l : List S43) (n j : Nat) : (turnUpto d m m' l n j).fr = sumL ((l.take j).map (pSize m)) ∧ (turnUpto d m m' l n j).tz = sumL ((l.take j).map (pSize m')) := by
  have : ∀ (l : List S43) (s : TSt), (l.foldl (turnStep d m m') s).fr = s.fr + sumL (l.map (pSize m)) ∧ (l.foldl (turnStep d m m') s).tz = s.tz + sumL (l.map (pSize m')) := by
    intro l
    induction l with
    | nil => intro s; simp [sumL]
    | cons q t ih =>
      intro s
      obtain ⟨h1, h2⟩ := ih (turnStep d m m' s q)
      simp only [List.foldl_cons, List.map_cons, sumL]
      rw [h1, h2]
      unfold turnStep
      dsimp only
      omega
  obtain ⟨h1, h2⟩ := this (l.take j) ⟨0, 0, List.replicate n 0⟩
  unfold turnUpto
  rw [h1, h2]
  simp
theorem sumL_nonneg (l : List Int) (h : ∀ a ∈ l, 0 ≤ a) : 0 ≤ sumL l := by
  induction l with
  | nil => exact Int.le_refl _
  | cons a t ih =>
    have h1 := h a (by simp)
    have h2 := ih (fun b hb => h b (by simp [hb]))
    simp only [sumL]; omega
/-- The planes before the j-th one, and the j-th one, lie within all. -/
theorem sumL_take (l : List S43) (g : S43 → Int) (hg : ∀ q ∈ l, 0 ≤ g q) (j : Nat) (h : j < l.length) : 0 ≤ sumL ((l.take j).map g) ∧ sumL ((l.take j).map g) + g (rd_T43 l j) ≤ sumL (l.map g) := by
  have e1 : rd_T43 l j = l[j] := by unfold rd_T43; simp [List.getD_eq_getElem?_getD, List.getElem?_eq_getElem h]
  have e2 : l.map g = (l.take j).map g ++ (g l[j] :: (l.drop (j + 1)).map g) := by
    conv => lhs; rw [← List.take_append_drop j l, List.drop_eq_getElem_cons h, List.map_append, List.map_cons]
  refine ⟨sumL_nonneg _ (fun a ha => ?_), ?_⟩
  · obtain ⟨q, hq, rfl⟩ := List.mem_map.1 ha
    exact hg q (List.mem_of_mem_take hq)
  · rw [e1, e2, sumL_append, sumL]
    have := sumL_nonneg ((l.drop (j + 1)).map g) (fun a ha => by
      obtain ⟨q, hq, rfl⟩ := List.mem_map.1 ha
      exact hg q (List.mem_of_mem_drop hq))
    omega
theorem sizeL_bd {f m w h : Int} (ok : okF f m w h) : 0 < sizeL f m w h ∧ sizeL f m w h ≤ 50000 := by
  obtain ⟨hf, hm, hw, hh⟩ := ok
  have hq := planes_ok hf hw hh
  unfold sizeL
  unfold planesL at hq ⊢
  split
  · rename_i e
    rw [if_pos e] at hq
    have h1 := pSize_bd (hq _ (List.mem_cons_self ..)) hm
    have h2 := pSize_bd (hq (halfQ w h) (by simp)) hm
    simp only [List.map_cons, List.map_nil, sumL]; omega
  · rename_i e
    rw [if_neg e] at hq
    have h1 := pSize_bd (hq _ (List.mem_cons_self ..)) hm
    simp only [List.map_cons, List.map_nil, sumL]; omega

theorem turnRow_length {d : List UInt8} {m m' : Int} {q : S43} (hq : okP q) {fr tz : Int} (hf : 0 ≤ fr) (ht : 0 ≤ tz) (hfd : fr + pSize m q ≤ d.length) {N : Nat} (htN : tz + pSize m' q ≤ N) {y : Nat} (hy : (y : Int) < q.f1) :
    ∀ (xs : List Nat), (∀ x ∈ xs, (x : Int) < q.f0) → ∀ out : List UInt8, out.length = N → (xs.foldl (turnCell d m m' q fr tz y) out).length = N
  | [], _, out, h => h
  | x :: t, hx, out, h => by
    have b1 := pAt_bd hq m (x := x) (y := y) ⟨by omega, hx x (by simp)⟩ ⟨by omega, hy⟩
    have b2 := pAt_bd hq m' (x := x) (y := y) ⟨by omega, hx x (by simp)⟩ ⟨by omega, hy⟩
    refine turnRow_length hq hf ht hfd htN hy t (fun z hz => hx z (by simp [hz])) _ ?_
    unfold turnCell
    obtain ⟨_, _, ⟨c1, c2⟩, _⟩ := hq
    rw [putAt_length, h]
    rw [seg_length _ _ _ (by omega)]
    omega
theorem turnPlane_length {d : List UInt8} {m m' : Int} {q : S43} (hq : okP q) {fr tz : Int} (hf : 0 ≤ fr) (ht : 0 ≤ tz) (hfd : fr + pSize m q ≤ d.length) {N : Nat} (htN : tz + pSize m' q ≤ N) :
    ∀ (ys : List Nat), (∀ y ∈ ys, (y : Int) < q.f1) → ∀ out : List UInt8, out.length = N → (ys.foldl (turnRow d m m' q fr tz) out).length = N
  | [], _, out, h => h
  | y :: t, hy, out, h => by
    refine turnPlane_length hq hf ht hfd htN t (fun z hz => hy z (by simp [hz])) _ ?_
    exact turnRow_length hq hf ht hfd htN (hy y (by simp)) _ (fun x hx => by rw [List.mem_range] at hx; omega) _ h
theorem turnUpto_length {d : List UInt8} {m m' : Int} {l : List S43} (hl : ∀ q ∈ l, okP q) (hm : okM m) (hm' : okM m') (hd : sumL (l.map (pSize m)) ≤ d.length) {n : Nat} (hn : sumL (l.map (pSize m')) ≤ n) : ∀ j, j ≤ l.length → (turnUpto d m m' l n j).out.length = n
  | 0, _ => by simp [turnUpto]
  | j + 1, h => by
    rw [turnUpto_succ d m m' l n j (by omega)]
    obtain ⟨e1, e2⟩ := turnUpto_fr d m m' l n j
    have s1 := sumL_take l (pSize m) (fun q hq => by have := pSize_bd (hl q hq) hm; omega) j (by omega)
    have s2 := sumL_take l (pSize m') (fun q hq => by have := pSize_bd (hl q hq) hm'; omega) j (by omega)
    have hq : okP (rd_T43 l j) := by
      have e : rd_T43 l j = l[j] := by unfold rd_T43; simp [List.getD_eq_getElem?_getD, List.getElem?_eq_getElem (show j < l.length by omega)]
      rw [e]; exact hl _ (List.getElem_mem _)
    unfold turnStep
    dsimp only
    exact turnPlane_length hq (by rw [e1]; exact s1.1) (by rw [e2]; exact s2.1) (by rw [e1]; omega) (by rw [e2]; omega) _ (fun y hy => by rw [List.mem_range] at hy; omega) _ (turnUpto_length hl hm hm' hd hn j (by omega))
theorem range_foldl_succ {α : Type} (g : α → Nat → α) (a : α) (k : Nat) : (List.range (k + 1)).foldl g a = g ((List.range k).foldl g a) k := by rw [List.range_succ, List.foldl_append]; rfl
end Go.Proofs.Ytenaegjiggodkaa.PV

-- Printed by vprint.py (a program of this claim over the translation's own print). Lean checks it.
namespace Go.Proofs.Ytenaegjiggodkaa.PV
open Go.RowKit Go.Proofs.YtenaegjiggodkaaW.PrintWords Go.Proofs.YtenaegjiggodkaaW.PrintLast Go.Proofs.YtenaegjiggodkaaW.PrintMore
attribute [local go_sem] max2_int min2_int max_two min_two max_three min_three max_four min_four   -- for this text's walks alone
set_option linter.unusedVariables false
set_option linter.unusedSimpArgs false

/-! ### video_plane_size: function 132 -/
def video_plane_size.f (a0_0 : Int) (a0_1 : Int) (a0_2 : Int) (a0_3 : Int) (a1 : Int) : Option (Int) := if a1 = 0 then (some (wrap64 ((wrap64 (a0_0 * a0_1)) * a0_2))) else (some (wrap64 ((wrap64 ((wrap64 ((wrap64 ((wrap64 (Int.tdiv (wrap64 ((wrap64 (a0_0 + 4)) - 1)) 4)) * (wrap64 (Int.tdiv (wrap64 ((wrap64 (a0_1 + 4)) - 1)) 4)))) * 4)) * 4)) * a0_2)))
set_option maxHeartbeats 8000000 in
set_option maxRecDepth 100000 in
theorem video_plane_size.calls (a0_0 : Int) (a0_1 : Int) (a0_2 : Int) (a0_3 : Int) (a1 : Int) (r : Int) (w : World) (h : video_plane_size.f a0_0 a0_1 a0_2 a0_3 a1 = some r) :
    Calls Try.prog 132 #[.agg #[.int .i64 a0_0, .int .i64 a0_1, .int .i64 a0_2, .int .i64 a0_3], .int .i64 a1] w fun e w' => e = .returned (.int .i64 r) ∧ Below w.heap.size w w' := by
  have hu154 := Try.underlying154
  have HB := Aside0.mk (Below.refl w.heap.size w)
  have H : (if a1 = 0 then (some (wrap64 ((wrap64 (a0_0 * a0_1)) * a0_2))) else (some (wrap64 ((wrap64 ((wrap64 ((wrap64 ((wrap64 (Int.tdiv (wrap64 ((wrap64 (a0_0 + 4)) - 1)) 4)) * (wrap64 (Int.tdiv (wrap64 ((wrap64 (a0_1 + 4)) - 1)) 4)))) * 4)) * 4)) * a0_2)))) = some r := h
  clear h
  by_cases c3 : a1 = 0
  · rw [if_pos c3] at H
    have c3b0 : (a1 == 0) = true := beq_iff_eq.mpr c3
    have c3b1 : (a1 != 0) = false := bne_eq_false_iff_eq.mpr c3
    clear c3
    obtain rfl := Option.some.inj H
    go_enter Try.func132, Try.ntmps132
    go_wp2_with (first | ((with_reducible refine gate_dst (N := 2) rfl ?_); refine box_event ?hg (N := 2) ?hd (cs := #[.int .i64 a0_0, .int .i64 a0_1, .int .i64 a0_2, .int .i64 a0_3]) (t := 154) ?hr ?_; (case hd => rfl); (case hg => rfl); (case hr => first | (go_simp; done) | (go_simp; rfl)); intro gb205 hg w4 hbox hb; have n0_ := Aside0.mk (below_step (by repeat (first | (with_reducible first | exact HB.out | apply below_alloc | apply pw_below_drewN | apply below_drew1) | exact HB.out)) hb); have n1_ := Aside0.mk (hbox); have n2_ := Aside0.mk ((by rw [hg]; exact (below_size (by repeat (first | (with_reducible first | exact HB.out | apply below_alloc | apply pw_below_drewN | apply below_drew1) | exact HB.out))) : w.heap.size ≤ gb205)); have n3_ := Aside0.mk ((by rw [hg]; exact (below_size (by repeat (first | (with_reducible first | exact HB.out | apply below_alloc | apply pw_below_drewN | apply below_drew1) | exact HB.out))) : w.heap.size ≤ gb205)); clear HB; have HB := n0_; have BK205 := n1_; have GW205 := n2_; have GE205 := n3_; clear n0_ n1_ n2_ n3_; clear hb hbox hg; have hcz5_0 : w4.cell? ⟨gb205, 0, none⟩ = some (.int .i64 a0_0) := (blk_cell BK205.out 0).trans rfl; have hcz5_1 : w4.cell? ⟨gb205, 1, none⟩ = some (.int .i64 a0_1) := (blk_cell BK205.out 1).trans rfl; have hcz5_2 : w4.cell? ⟨gb205, 2, none⟩ = some (.int .i64 a0_2) := (blk_cell BK205.out 2).trans rfl; have hcz5_3 : w4.cell? ⟨gb205, 3, none⟩ = some (.int .i64 a0_3) := (blk_cell BK205.out 3).trans rfl; have hfz5_0 := blk_frozen BK205.out 0; have hfz5_1 := blk_frozen BK205.out 1; have hfz5_2 := blk_frozen BK205.out 2; have hfz5_3 := blk_frozen BK205.out 3))
    go_ret
    exact ⟨by first | rfl | (simp [errW_none, errW_some] <;> rfl) | (simp [*, errW_none, errW_some] <;> rfl), by repeat (first | (with_reducible first | exact HB.out | apply below_alloc | apply pw_below_drewN | apply below_drew1 | refine below_set ?_ GE205.out) | exact HB.out)⟩
  · rw [if_neg c3] at H
    have c3b0 : (a1 == 0) = false := beq_eq_false_iff_ne.mpr c3
    have c3b1 : (a1 != 0) = true := bne_iff_ne.mpr c3
    obtain rfl := Option.some.inj H
    go_enter Try.func132, Try.ntmps132
    go_wp2_with (first | ((with_reducible refine gate_dst (N := 2) rfl ?_); refine box_event ?hg (N := 2) ?hd (cs := #[.int .i64 a0_0, .int .i64 a0_1, .int .i64 a0_2, .int .i64 a0_3]) (t := 154) ?hr ?_; (case hd => rfl); (case hg => rfl); (case hr => first | (go_simp; done) | (go_simp; rfl)); intro gb205 hg w6 hbox hb; have n0_ := Aside0.mk (below_step (by repeat (first | (with_reducible first | exact HB.out | apply below_alloc | apply pw_below_drewN | apply below_drew1) | exact HB.out)) hb); have n1_ := Aside0.mk (hbox); have n2_ := Aside0.mk ((by rw [hg]; exact (below_size (by repeat (first | (with_reducible first | exact HB.out | apply below_alloc | apply pw_below_drewN | apply below_drew1) | exact HB.out))) : w.heap.size ≤ gb205)); have n3_ := Aside0.mk ((by rw [hg]; exact (below_size (by repeat (first | (with_reducible first | exact HB.out | apply below_alloc | apply pw_below_drewN | apply below_drew1) | exact HB.out))) : w.heap.size ≤ gb205)); clear HB; have HB := n0_; have BK205 := n1_; have GW205 := n2_; have GE205 := n3_; clear n0_ n1_ n2_ n3_; clear hb hbox hg; have hcz7_0 : w6.cell? ⟨gb205, 0, none⟩ = some (.int .i64 a0_0) := (blk_cell BK205.out 0).trans rfl; have hcz7_1 : w6.cell? ⟨gb205, 1, none⟩ = some (.int .i64 a0_1) := (blk_cell BK205.out 1).trans rfl; have hcz7_2 : w6.cell? ⟨gb205, 2, none⟩ = some (.int .i64 a0_2) := (blk_cell BK205.out 2).trans rfl; have hcz7_3 : w6.cell? ⟨gb205, 3, none⟩ = some (.int .i64 a0_3) := (blk_cell BK205.out 3).trans rfl; have hfz7_0 := blk_frozen BK205.out 0; have hfz7_1 := blk_frozen BK205.out 1; have hfz7_2 := blk_frozen BK205.out 2; have hfz7_3 := blk_frozen BK205.out 3))
    go_ret
    exact ⟨by first | rfl | (simp [errW_none, errW_some] <;> rfl) | (simp [*, errW_none, errW_some] <;> rfl), by repeat (first | (with_reducible first | exact HB.out | apply below_alloc | apply pw_below_drewN | apply below_drew1 | refine below_set ?_ GE205.out) | exact HB.out)⟩

end Go.Proofs.Ytenaegjiggodkaa.PV

-- Printed by vprint.py (a program of this claim over the translation's own print). Lean checks it.
namespace Go.Proofs.Ytenaegjiggodkaa.PV
open Go.RowKit Go.Proofs.YtenaegjiggodkaaW.PrintWords Go.Proofs.YtenaegjiggodkaaW.PrintLast Go.Proofs.YtenaegjiggodkaaW.PrintMore
attribute [local go_sem] max2_int min2_int max_two min_two max_three min_three max_four min_four   -- for this text's walks alone
set_option linter.unusedVariables false
set_option linter.unusedSimpArgs false

/-! ### video_plane_at: function 133 -/
def video_plane_at.f (a0_0 : Int) (a0_1 : Int) (a0_2 : Int) (a0_3 : Int) (a1 : Int) (a2 : Int) (a3 : Int) : Option (Int) := if a1 = 0 then (some (wrap64 ((wrap64 ((wrap64 (a3 * a0_0)) + a2)) * a0_2))) else (some (wrap64 ((wrap64 ((wrap64 ((wrap64 ((wrap64 ((wrap64 ((wrap64 ((wrap64 (Int.tdiv a3 4)) * (wrap64 (Int.tdiv (wrap64 ((wrap64 (a0_0 + 4)) - 1)) 4)))) + (wrap64 (Int.tdiv a2 4)))) * 4)) * 4)) + (wrap64 ((Int.tmod a3 4) * 4)))) + (Int.tmod a2 4))) * a0_2)))
set_option maxHeartbeats 8000000 in
set_option maxRecDepth 100000 in
theorem video_plane_at.calls (a0_0 : Int) (a0_1 : Int) (a0_2 : Int) (a0_3 : Int) (a1 : Int) (a2 : Int) (a3 : Int) (r : Int) (w : World) (h : video_plane_at.f a0_0 a0_1 a0_2 a0_3 a1 a2 a3 = some r) :
    Calls Try.prog 133 #[.agg #[.int .i64 a0_0, .int .i64 a0_1, .int .i64 a0_2, .int .i64 a0_3], .int .i64 a1, .int .i64 a2, .int .i64 a3] w fun e w' => e = .returned (.int .i64 r) ∧ Below w.heap.size w w' := by
  have hu154 := Try.underlying154
  have HB := Aside0.mk (Below.refl w.heap.size w)
  have H : (if a1 = 0 then (some (wrap64 ((wrap64 ((wrap64 (a3 * a0_0)) + a2)) * a0_2))) else (some (wrap64 ((wrap64 ((wrap64 ((wrap64 ((wrap64 ((wrap64 ((wrap64 ((wrap64 (Int.tdiv a3 4)) * (wrap64 (Int.tdiv (wrap64 ((wrap64 (a0_0 + 4)) - 1)) 4)))) + (wrap64 (Int.tdiv a2 4)))) * 4)) * 4)) + (wrap64 ((Int.tmod a3 4) * 4)))) + (Int.tmod a2 4))) * a0_2)))) = some r := h
  clear h
  by_cases c5 : a1 = 0
  · rw [if_pos c5] at H
    have c5b0 : (a1 == 0) = true := beq_iff_eq.mpr c5
    have c5b1 : (a1 != 0) = false := bne_eq_false_iff_eq.mpr c5
    clear c5
    obtain rfl := Option.some.inj H
    go_enter Try.func133, Try.ntmps133
    go_wp2_with (first | ((with_reducible refine gate_dst (N := 4) rfl ?_); refine box_event ?hg (N := 4) ?hd (cs := #[.int .i64 a0_0, .int .i64 a0_1, .int .i64 a0_2, .int .i64 a0_3]) (t := 154) ?hr ?_; (case hd => rfl); (case hg => rfl); (case hr => first | (go_simp; done) | (go_simp; rfl)); intro gb206 hg w6 hbox hb; have n0_ := Aside0.mk (below_step (by repeat (first | (with_reducible first | exact HB.out | apply below_alloc | apply pw_below_drewN | apply below_drew1) | exact HB.out)) hb); have n1_ := Aside0.mk (hbox); have n2_ := Aside0.mk ((by rw [hg]; exact (below_size (by repeat (first | (with_reducible first | exact HB.out | apply below_alloc | apply pw_below_drewN | apply below_drew1) | exact HB.out))) : w.heap.size ≤ gb206)); have n3_ := Aside0.mk ((by rw [hg]; exact (below_size (by repeat (first | (with_reducible first | exact HB.out | apply below_alloc | apply pw_below_drewN | apply below_drew1) | exact HB.out))) : w.heap.size ≤ gb206)); clear HB; have HB := n0_; have BK206 := n1_; have GW206 := n2_; have GE206 := n3_; clear n0_ n1_ n2_ n3_; clear hb hbox hg; have hcz7_0 : w6.cell? ⟨gb206, 0, none⟩ = some (.int .i64 a0_0) := (blk_cell BK206.out 0).trans rfl; have hcz7_1 : w6.cell? ⟨gb206, 1, none⟩ = some (.int .i64 a0_1) := (blk_cell BK206.out 1).trans rfl; have hcz7_2 : w6.cell? ⟨gb206, 2, none⟩ = some (.int .i64 a0_2) := (blk_cell BK206.out 2).trans rfl; have hcz7_3 : w6.cell? ⟨gb206, 3, none⟩ = some (.int .i64 a0_3) := (blk_cell BK206.out 3).trans rfl; have hfz7_0 := blk_frozen BK206.out 0; have hfz7_1 := blk_frozen BK206.out 1; have hfz7_2 := blk_frozen BK206.out 2; have hfz7_3 := blk_frozen BK206.out 3))
    go_ret
    exact ⟨by first | rfl | (simp [errW_none, errW_some] <;> rfl) | (simp [*, errW_none, errW_some] <;> rfl), by repeat (first | (with_reducible first | exact HB.out | apply below_alloc | apply pw_below_drewN | apply below_drew1 | refine below_set ?_ GE206.out) | exact HB.out)⟩
  · rw [if_neg c5] at H
    have c5b0 : (a1 == 0) = false := beq_eq_false_iff_ne.mpr c5
    have c5b1 : (a1 != 0) = true := bne_iff_ne.mpr c5
    obtain rfl := Option.some.inj H
    go_enter Try.func133, Try.ntmps133
    go_wp2_with (first | ((with_reducible refine gate_dst (N := 4) rfl ?_); refine box_event ?hg (N := 4) ?hd (cs := #[.int .i64 a0_0, .int .i64 a0_1, .int .i64 a0_2, .int .i64 a0_3]) (t := 154) ?hr ?_; (case hd => rfl); (case hg => rfl); (case hr => first | (go_simp; done) | (go_simp; rfl)); intro gb206 hg w8 hbox hb; have n0_ := Aside0.mk (below_step (by repeat (first | (with_reducible first | exact HB.out | apply below_alloc | apply pw_below_drewN | apply below_drew1) | exact HB.out)) hb); have n1_ := Aside0.mk (hbox); have n2_ := Aside0.mk ((by rw [hg]; exact (below_size (by repeat (first | (with_reducible first | exact HB.out | apply below_alloc | apply pw_below_drewN | apply below_drew1) | exact HB.out))) : w.heap.size ≤ gb206)); have n3_ := Aside0.mk ((by rw [hg]; exact (below_size (by repeat (first | (with_reducible first | exact HB.out | apply below_alloc | apply pw_below_drewN | apply below_drew1) | exact HB.out))) : w.heap.size ≤ gb206)); clear HB; have HB := n0_; have BK206 := n1_; have GW206 := n2_; have GE206 := n3_; clear n0_ n1_ n2_ n3_; clear hb hbox hg; have hcz9_0 : w8.cell? ⟨gb206, 0, none⟩ = some (.int .i64 a0_0) := (blk_cell BK206.out 0).trans rfl; have hcz9_1 : w8.cell? ⟨gb206, 1, none⟩ = some (.int .i64 a0_1) := (blk_cell BK206.out 1).trans rfl; have hcz9_2 : w8.cell? ⟨gb206, 2, none⟩ = some (.int .i64 a0_2) := (blk_cell BK206.out 2).trans rfl; have hcz9_3 : w8.cell? ⟨gb206, 3, none⟩ = some (.int .i64 a0_3) := (blk_cell BK206.out 3).trans rfl; have hfz9_0 := blk_frozen BK206.out 0; have hfz9_1 := blk_frozen BK206.out 1; have hfz9_2 := blk_frozen BK206.out 2; have hfz9_3 := blk_frozen BK206.out 3))
    go_ret
    exact ⟨by first | rfl | (simp [errW_none, errW_some] <;> rfl) | (simp [*, errW_none, errW_some] <;> rfl), by repeat (first | (with_reducible first | exact HB.out | apply below_alloc | apply pw_below_drewN | apply below_drew1 | refine below_set ?_ GE206.out) | exact HB.out)⟩

end Go.Proofs.Ytenaegjiggodkaa.PV

/- Contracts of the small functions and closures of video/region.go. -/
namespace Go.Proofs.Ytenaegjiggodkaa.PV
open Go.RowKit Go.Proofs.YtenaegjiggodkaaW.PrintWords Go.Proofs.YtenaegjiggodkaaW.PrintLast Go.Proofs.YtenaegjiggodkaaW.PrintMore
set_option linter.unusedVariables false
set_option linter.unusedSimpArgs false

theorem ret_bool {a b : Bool} (h : (a = true) ↔ (b = true)) : Ending.returned (.bool a) = .returned (.bool b) := by rw [Bool.eq_iff_iff.2 h]
theorem place_any (n : Int) (w : World) : Calls Try.prog 122 #[.int .i64 n] w fun e w' => e = .returned (.bool (decide (-10000 ≤ n) && decide (n ≤ 10000))) ∧ w = w' := by
  by_cases h1 : -10000 ≤ n
  · go_enter Try.func122, Try.ntmps122
    go_wp2
    go_ret
    exact ⟨by simp [h1], rfl⟩
  · go_enter Try.func122, Try.ntmps122
    go_wp2
    go_ret
    exact ⟨by simp; omega, rfl⟩
theorem wide_any (n : Int) (w : World) : Calls Try.prog 123 #[.int .i64 n] w fun e w' => e = .returned (.bool (decide (0 ≤ n) && decide (n ≤ 20000))) ∧ w = w' := by
  by_cases h1 : 0 ≤ n
  · go_enter Try.func123, Try.ntmps123
    go_wp2
    go_ret
    exact ⟨by simp [h1], rfl⟩
  · go_enter Try.func123, Try.ntmps123
    go_wp2
    go_ret
    exact ⟨by simp; omega, rfl⟩

def boxR (a b c d : Int) (w : World) : World := w.alloc (.cells #[.int .i64 a, .int .i64 b, .int .i64 c, .int .i64 d] 43)
theorem valid_any (a b c d : Int) (w : World) : Calls Try.prog 72 #[.agg #[.int .i64 a, .int .i64 b, .int .i64 c, .int .i64 d]] w fun e w' => e = .returned (.bool (okR ⟨a, b, c, d⟩)) ∧ w.alloc (.cells #[.int .i64 a, .int .i64 b, .int .i64 c, .int .i64 d] 43) = w' := by
  go_enter Try.func72, Try.ntmps72
  go_wp2_with (first | (go_at_call 122; refine (place_any _ _).mono ?_; rintro e w' ⟨rfl, rfl⟩) | (go_at_call 123; refine (wide_any _ _).mono ?_; rintro e w' ⟨rfl, rfl⟩))
  all_goals
    go_ret
    exact ⟨ret_bool (by unfold okR; simp; omega), rfl⟩
theorem video_valid.calls (a0_0 a0_1 a0_2 a0_3 : Int) (r : Bool) (w : World) (h : video_valid.f a0_0 a0_1 a0_2 a0_3 = some r) :
    Calls Try.prog 72 #[.agg #[.int .i64 a0_0, .int .i64 a0_1, .int .i64 a0_2, .int .i64 a0_3]] w fun e w' => e = .returned (.bool r) ∧ Below w.heap.size w w' := by
  obtain rfl := Option.some.inj h
  refine (valid_any a0_0 a0_1 a0_2 a0_3 w).mono ?_
  rintro e w' ⟨rfl, rfl⟩
  exact ⟨rfl, (Below.refl _ _).alloc (Nat.le_refl _) _⟩

/-- 'not valid', as Region, ValidRegion and made ask it of each rectangle. -/
theorem bad71 (a b c d : Int) (w : World) : Calls Try.prog 71 #[.agg #[.int .i64 a, .int .i64 b, .int .i64 c, .int .i64 d]] w fun e w' => e = .returned (.bool (!okR ⟨a, b, c, d⟩)) ∧ Below w.heap.size w w' := by
  go_enter Try.func71, Try.ntmps71
  go_wp2_with (go_at_call 72; refine (valid_any _ _ _ _ _).mono ?_; rintro e w' ⟨rfl, rfl⟩)
  go_ret
  exact ⟨rfl, ((Below.refl _ _).alloc (Nat.le_refl _) _).alloc (by simp) _⟩
theorem bad75 (a b c d : Int) (w : World) : Calls Try.prog 75 #[.agg #[.int .i64 a, .int .i64 b, .int .i64 c, .int .i64 d]] w fun e w' => e = .returned (.bool (!okR ⟨a, b, c, d⟩)) ∧ Below w.heap.size w w' := by
  go_enter Try.func75, Try.ntmps75
  go_wp2_with (go_at_call 72; refine (valid_any _ _ _ _ _).mono ?_; rintro e w' ⟨rfl, rfl⟩)
  go_ret
  exact ⟨rfl, ((Below.refl _ _).alloc (Nat.le_refl _) _).alloc (by simp) _⟩
theorem bad126 (a b c d : Int) (w : World) : Calls Try.prog 126 #[.agg #[.int .i64 a, .int .i64 b, .int .i64 c, .int .i64 d]] w fun e w' => e = .returned (.bool (!okR ⟨a, b, c, d⟩)) ∧ Below w.heap.size w w' := by
  go_enter Try.func126, Try.ntmps126
  go_wp2_with (go_at_call 72; refine (valid_any _ _ _ _ _).mono ?_; rintro e w' ⟨rfl, rfl⟩)
  go_ret
  exact ⟨rfl, ((Below.refl _ _).alloc (Nat.le_refl _) _).alloc (by simp) _⟩

/-- The closure of covers: is the point (x, y) in the rectangle? x and y lie in two cells of the caller's. -/
theorem covers1 (x y : Int) (Bx By : Nat) (a b c d : Int) (w : World) (hx : w.cell? ⟨Bx, 0, none⟩ = some (.int .i64 x)) (hy : w.cell? ⟨By, 0, none⟩ = some (.int .i64 y)) :
    Calls Try.prog 127 #[.agg #[.int .i64 a, .int .i64 b, .int .i64 c, .int .i64 d], .pointer (some ⟨Bx, 0, none⟩), .pointer (some ⟨By, 0, none⟩)] w fun e w' => e = .returned (.bool (covR x y ⟨a, b, c, d⟩)) ∧ Below w.heap.size w w' := by
  have hbx := World.block_lt_of_cell? w _ hx
  have hby := World.block_lt_of_cell? w _ hy
  have nx : Bx ≠ w.heap.size := by simp at hbx; omega
  have ny : By ≠ w.heap.size := by simp at hby; omega
  go_enter Try.func127, Try.ntmps127
  go_wp2
  all_goals
    go_ret
    exact ⟨ret_bool (by unfold covR; simp [*]; try omega), (Below.refl _ _).alloc (Nat.le_refl _) _⟩

/-- What a function value g (with what it has captured) tells of rectangles, in whatever world has come of w. -/
def Tells43 (g : Nat) (lb : Array Value) (p : S43 → Bool) (w : World) : Prop :=
  ∀ (x : S43) (W : World), Below w.heap.size w W → Calls Try.prog g (#[.agg #[.int .i64 x.f0, .int .i64 x.f1, .int .i64 x.f2, .int .i64 x.f3]] ++ lb) W fun e W' => e = .returned (.bool (p x)) ∧ Below W.heap.size W W'

def idx43 (p : S43 → Bool) (l : List S43) : Int := (l.findIdx? p).elim (-1) Int.ofNat
theorem idx43_at (p : S43 → Bool) (l : List S43) (j : Nat) (hj : j < l.length) (h0 : ∀ k, k < j → p (l.getD k z43) = false) (h1 : p (l.getD j z43) = true) : idx43 p l = j := by
  have : l.findIdx? p = some j := by
    rw [List.findIdx?_eq_some_iff_getElem]
    refine ⟨hj, ?_, fun k hk => ?_⟩
    · rw [List.getD_eq_getElem?_getD, List.getElem?_eq_getElem hj] at h1; exact h1
    · have := h0 k hk
      rw [List.getD_eq_getElem?_getD, List.getElem?_eq_getElem (by omega)] at this
      simpa using this
  unfold idx43; rw [this]; rfl
theorem idx43_none (p : S43 → Bool) (l : List S43) (h0 : ∀ k, k < l.length → p (l.getD k z43) = false) : idx43 p l = -1 := by
  have : l.findIdx? p = none := by
    rw [List.findIdx?_eq_none_iff]
    intro x hx
    obtain ⟨k, hk, rfl⟩ := List.getElem_of_mem hx
    have := h0 k hk
    rw [List.getD_eq_getElem?_getD, List.getElem?_eq_getElem hk] at this
    exact this
  unfold idx43; rw [this]; rfl
theorem idx43_any (p : S43 → Bool) (l : List S43) : decide (0 ≤ idx43 p l) = l.any p := by
  unfold idx43
  cases h : l.findIdx? p with
  | none => rw [List.findIdx?_eq_none_iff] at h; simp; intro x hx; simpa using h x hx
  | some j =>
    rw [List.findIdx?_eq_some_iff_getElem] at h
    obtain ⟨hj, h1, _⟩ := h
    simp
    exact ⟨_, List.getElem_mem hj, h1⟩
set_option maxHeartbeats 1000000 in
theorem index121 (g : Nat) (lb : Array Value) (p : S43 → Bool) (eg : ∀ args w, (callFunc g args).run Try.prog w = .ok (.enter g args) w) (A0 : Option Addr) (c0 : Nat) (l0 : List S43) (w : World)
    (hr0 : Kd.C k43 w A0 l0.length l0) (hc0 : l0.length ≤ c0) (hp : Tells43 g lb p w) :
    Calls Try.prog 121 #[.slice A0 l0.length c0, .func (.func g) #[] lb] w fun e w' => e = .returned (.int .i64 (idx43 p l0)) ∧ Below w.heap.size w w' := by
  have hm : l0.length ≤ 9223372036854775807 := hr0.2.1
  go_enter Try.func121, Try.ntmps121
  go_wp2
  go_loopw [5, 8] (fun a i wr => ∃ j : Nat, j ≤ l0.length ∧ i = .int .i64 j ∧ (∀ k, k < j → p (l0.getD k z43) = false) ∧ Below w.heap.size w wr) (fun _ i _ => l0.length - (intOf i).toNat)
  case atStart => exact ⟨0, Nat.zero_le _, rfl, fun k hk => absurd hk (Nat.not_lt_zero _), Below.refl _ _⟩
  case round =>
    obtain ⟨j, hj, rfl, hall, hB⟩ := hrel
    by_cases hlt : j < l0.length
    · obtain ⟨ad, rfl, h1, h2, h3, h4⟩ := at_T43 (Kd.C_below hr0 hB) j (by omega) (by omega)
      simp only [Int.toNat_natCast] at h1 h2 h3 h4
      have hx := hp (rd_T43 l0 j) wr hB
      generalize hbq : p (rd_T43 l0 j) = bq at hx
      have Hbq := Lib.hid hbq
      have Hall := Lib.hid hall
      have HX := Lib.hid hx
      clear hbq hall hx hr0 hp
      cases bq
      · go_wp2_with (refine HX.out.mono ?_; rintro e w' ⟨rfl, hB2⟩)
        go_roundw
        case rel =>
          refine ⟨j + 1, by omega, by go_num, ?_, ?_⟩
          · intro k hk
            by_cases e : k = j
            · subst e; exact Hbq.out
            · exact Hall.out k (by omega)
          · exact below_then hB hB.size hB2
        case measure => simp [intOf]; omega
      · go_wp2_with (refine HX.out.mono ?_; rintro e w' ⟨rfl, hB2⟩)
        go_ret
        exact ⟨by rw [idx43_at p l0 j hlt Hall.out Hbq.out]; rfl, below_then hB hB.size hB2⟩
    · have e : j = l0.length := by omega
      subst e
      have Hall := Lib.hid hall
      clear hall hr0 hp
      go_wp2
      go_ret
      exact ⟨by rw [idx43_none p l0 Hall.out]; rfl, hB⟩
theorem contains70 (g : Nat) (lb : Array Value) (p : S43 → Bool) (eg : ∀ args w, (callFunc g args).run Try.prog w = .ok (.enter g args) w) (A0 : Option Addr) (c0 : Nat) (l0 : List S43) (w : World)
    (hr0 : Kd.C k43 w A0 l0.length l0) (hc0 : l0.length ≤ c0) (hp : Tells43 g lb p w) :
    Calls Try.prog 70 #[.slice A0 l0.length c0, .func (.func g) #[] lb] w fun e w' => e = .returned (.bool (l0.any p)) ∧ Below w.heap.size w w' := by
  have hx := index121 g lb p eg A0 c0 l0 w hr0 hc0 hp
  have ha := idx43_any p l0
  generalize idx43 p l0 = j at hx ha
  have Ha := Lib.hid ha
  have HX := Lib.hid hx
  clear hx ha hr0 hp eg
  go_enter Try.func70, Try.ntmps70
  go_wp2_with (refine HX.out.mono ?_; rintro e w' ⟨rfl, hB⟩)
  go_ret
  exact ⟨by rw [← Ha.out]; rfl, hB⟩
theorem video_covers.calls (A0 : Option Addr) (c0 : Nat) (l0 : List S43) (a1 a2 : Int) (r : Bool) (w : World) (hr0 : Kd.C k43 w A0 l0.length l0) (hc0 : l0.length ≤ c0) (h : video_covers.f l0 a1 a2 = some r) :
    Calls Try.prog 77 #[.slice A0 l0.length c0, .int .i64 a1, .int .i64 a2] w fun e w' => e = .returned (.bool r) ∧ Below w.heap.size w w' := by
  obtain rfl := Option.some.inj h
  clear h
  have hB0 : Below w.heap.size w ((w.alloc (.cells #[.int .i64 a1] 3)).alloc (.cells #[.int .i64 a2] 3)) := ((Below.refl _ _).alloc (Nat.le_refl _) _).alloc (by simp) _
  have hx := contains70 127 #[.pointer (some ⟨w.heap.size, 0, none⟩), .pointer (some ⟨w.heap.size + 1, 0, none⟩)] (covR a1 a2) (enters_of Try.func127 (by kernel_rfl) rfl) A0 c0 l0 ((w.alloc (.cells #[.int .i64 a1] 3)).alloc (.cells #[.int .i64 a2] 3))
    (Kd.C_below hr0 hB0) hc0 (by
      intro x W hW
      refine covers1 a1 a2 w.heap.size (w.heap.size + 1) x.f0 x.f1 x.f2 x.f3 W ?_ ?_
      · exact (hW.cell (p := ⟨w.heap.size, 0, none⟩) (by simp; omega)).trans (by simp [go_sem])
      · exact (hW.cell (p := ⟨w.heap.size + 1, 0, none⟩) (by simp)).trans (by simp [go_sem]))
  have HX := Lib.hid hx
  clear hx hr0
  go_enter Try.func77, Try.ntmps77
  go_wp2_with (refine HX.out.mono ?_; rintro e w' ⟨rfl, hB⟩)
  go_ret
  exact ⟨rfl, hB0.trans (hB.mono (by simp; omega))⟩
end Go.Proofs.Ytenaegjiggodkaa.PV

/- The contracts of video's size and turned. -/
namespace Go.Proofs.Ytenaegjiggodkaa.PV
open Go.RowKit Go.Proofs.YtenaegjiggodkaaW.PrintWords Go.Proofs.YtenaegjiggodkaaW.PrintLast Go.Proofs.YtenaegjiggodkaaW.PrintMore
set_option linter.unusedVariables false
set_option linter.unusedSimpArgs false
theorem wrap_in {n : Int} (h : -9223372036854775808 ≤ n ∧ n ≤ 9223372036854775807) : wrap64 n = n := by unfold wrap64; omega
theorem planeSize_eq {q : S43} (h : okP q) {m : Int} (hm : okM m) : video_plane_size.f q.f0 q.f1 q.f2 q.f3 m = some (pSize m q) := by
  have hb := pSize_bd h hm
  obtain ⟨⟨a1, a2⟩, ⟨b1, b2⟩, ⟨c1, c2⟩, _⟩ := h
  unfold video_plane_size.f pSize at *
  split
  · rename_i e
    rw [if_pos e] at hb
    have h1 := mul_bd (by omega : (0 : Int) ≤ q.f0) (by omega : (0 : Int) ≤ q.f1) a2 b2
    rw [wrap_in (by omega : -9223372036854775808 ≤ q.f0 * q.f1 ∧ _), wrap_in (by omega)]
  · rename_i e
    rw [if_neg e] at hb
    have h1 := mul_bd (by omega : (0 : Int) ≤ (q.f0 + 3) / 4) (by omega : (0 : Int) ≤ (q.f1 + 3) / 4) (by omega : (q.f0 + 3) / 4 ≤ 16) (by omega : (q.f1 + 3) / 4 ≤ 16)
    rw [wrap_in (by omega : -9223372036854775808 ≤ q.f0 + 4 ∧ _), wrap_in (by omega : -9223372036854775808 ≤ q.f1 + 4 ∧ _), show q.f0 + 4 - 1 = q.f0 + 3 by omega, show q.f1 + 4 - 1 = q.f1 + 3 by omega]
    rw [wrap_in (by omega : -9223372036854775808 ≤ q.f0 + 3 ∧ _), wrap_in (by omega : -9223372036854775808 ≤ q.f1 + 3 ∧ _), Int.tdiv_eq_ediv_of_nonneg (by omega), Int.tdiv_eq_ediv_of_nonneg (by omega)]
    rw [wrap_in (by omega : -9223372036854775808 ≤ (q.f0 + 3) / 4 ∧ _), wrap_in (by omega : -9223372036854775808 ≤ (q.f1 + 3) / 4 ∧ _)]
    rw [wrap_in (by omega : -9223372036854775808 ≤ (q.f0 + 3) / 4 * ((q.f1 + 3) / 4) ∧ _), wrap_in (by omega : -9223372036854775808 ≤ (q.f0 + 3) / 4 * ((q.f1 + 3) / 4) * 4 ∧ _)]
    rw [Int.mul_assoc ((q.f0 + 3) / 4 * ((q.f1 + 3) / 4)) 4 4, show (4 : Int) * 4 = 16 from rfl, wrap_in (by omega : -9223372036854775808 ≤ (q.f0 + 3) / 4 * ((q.f1 + 3) / 4) * 16 ∧ _), wrap_in (by omega)]
theorem planeAt_eq {q : S43} (h : okP q) {m : Int} (hm : okM m) {x y : Int} (hx : 0 ≤ x ∧ x < q.f0) (hy : 0 ≤ y ∧ y < q.f1) : video_plane_at.f q.f0 q.f1 q.f2 q.f3 m x y = some (pAt m q x y) := by
  have hb := pAt_bd h m hx hy
  have hs := pSize_bd h hm
  have hi0 := idx0_bd h hx hy
  have hi1 := idx1_bd h hx hy
  obtain ⟨⟨a1, a2⟩, ⟨b1, b2⟩, ⟨c1, c2⟩, _⟩ := h
  have hq0 : 0 ≤ y * q.f0 := Int.mul_nonneg hy.1 (by omega)
  have hq1 := mul_bd (by omega : (0 : Int) ≤ q.f0) (by omega : (0 : Int) ≤ q.f1) a2 b2
  have hq2 := mul_bd (by omega : (0 : Int) ≤ y / 4) (by omega : (0 : Int) ≤ (q.f0 + 3) / 4) (by omega : y / 4 ≤ 16) (by omega : (q.f0 + 3) / 4 ≤ 16)
  unfold video_plane_at.f pAt at *
  split
  · rename_i e
    rw [if_pos e] at hb
    rw [wrap_in (by omega : -9223372036854775808 ≤ y * q.f0 ∧ _), wrap_in (by omega : -9223372036854775808 ≤ y * q.f0 + x ∧ _), wrap_in (by omega)]
  · rename_i e
    rw [if_neg e] at hb
    rw [wrap_in (by omega : -9223372036854775808 ≤ q.f0 + 4 ∧ _), show q.f0 + 4 - 1 = q.f0 + 3 by omega]
    rw [wrap_in (by omega : -9223372036854775808 ≤ q.f0 + 3 ∧ _), Int.tdiv_eq_ediv_of_nonneg (by omega), Int.tdiv_eq_ediv_of_nonneg (by omega), Int.tdiv_eq_ediv_of_nonneg (by omega), Int.tmod_eq_emod_of_nonneg (by omega), Int.tmod_eq_emod_of_nonneg (by omega)]
    rw [wrap_in (by omega : -9223372036854775808 ≤ (q.f0 + 3) / 4 ∧ _), wrap_in (by omega : -9223372036854775808 ≤ y / 4 ∧ _), wrap_in (by omega : -9223372036854775808 ≤ x / 4 ∧ _), wrap_in (by omega : -9223372036854775808 ≤ y % 4 * 4 ∧ _)]
    rw [wrap_in (by omega : -9223372036854775808 ≤ y / 4 * ((q.f0 + 3) / 4) ∧ _), wrap_in (by omega : -9223372036854775808 ≤ y / 4 * ((q.f0 + 3) / 4) + x / 4 ∧ _), wrap_in (by omega : -9223372036854775808 ≤ (y / 4 * ((q.f0 + 3) / 4) + x / 4) * 4 ∧ _)]
    rw [Int.mul_assoc (y / 4 * ((q.f0 + 3) / 4) + x / 4) 4 4, show (4 : Int) * 4 = 16 from rfl, wrap_in (by omega : -9223372036854775808 ≤ (y / 4 * ((q.f0 + 3) / 4) + x / 4) * 16 ∧ _), wrap_in (by omega : -9223372036854775808 ≤ (y / 4 * ((q.f0 + 3) / 4) + x / 4) * 16 + y % 4 * 4 ∧ _), wrap_in (by omega : -9223372036854775808 ≤ (y / 4 * ((q.f0 + 3) / 4) + x / 4) * 16 + y % 4 * 4 + x % 4 ∧ _), wrap_in (by omega)]
theorem meth167 (b : Int) (w : World) : (method 311 167 (.agg #[.int .i64 b]) "continuo/video.planes").run Try.prog w = .ok (179, .agg #[.int .i64 b]) w := by kernel_rfl
theorem meth169 (w : World) : (method 311 169 (.agg #[]) "continuo/video.planes").run Try.prog w = .ok (180, .agg #[]) w := by kernel_rfl
/-- What the format of a number is: a value with a method that tells the planes. -/
theorem planes_of {f x y : Int} (hf : 1 ≤ f ∧ f ≤ 4) (hx : 1 ≤ x ∧ x ≤ 64) (hy : 1 ≤ y ∧ y ≤ 64) : ∃ (T K : Nat) (v : Value) (N : Nat), ofV f = .iface T v ∧ N = (planesL f x y).length ∧ (∀ w, (method 311 T v "continuo/video.planes").run Try.prog w = .ok (K, v) w) ∧ (∀ args w, (callFunc K args).run Try.prog w = .ok (.enter K args) w) ∧
    ∀ W, Calls Try.prog K #[v, .int .i64 x, .int .i64 y] W fun e W' => ∃ ad, e = .returned (.slice (some ad) N N) ∧ Kd.C k43 W' (some ad) N (planesL f x y) ∧ W.heap.size ≤ ad.block ∧ Below W.heap.size W W' := by
  by_cases h4 : f = 4
  · subst h4
    refine ⟨169, 180, .agg #[], 3, rfl, by simp [planesL], meth169, enters_of Try.func180 (by kernel_rfl) rfl, fun W => (planes180 x y W).mono ?_⟩
    rintro e W' ⟨ad, rfl, hC, hA, hB⟩
    refine ⟨ad, rfl, ?_, hA, hB⟩
    have e : planesL 4 x y = [⟨x, y, 1, 1⟩, halfP x y, halfP x y] := by
      have : halfP x y = halfQ x y := by
        unfold halfP halfQ
        rw [wrap_in (by omega : -9223372036854775808 ≤ x + 1 ∧ _), wrap_in (by omega : -9223372036854775808 ≤ y + 1 ∧ _), Int.tdiv_eq_ediv_of_nonneg (by omega), Int.tdiv_eq_ediv_of_nonneg (by omega), wrap_in (by omega), wrap_in (by omega)]
      rw [this]; simp [planesL]
    rw [e]; exact hC
  · refine ⟨167, 179, .agg #[.int .i64 (if f = 1 then 1 else if f = 2 then 3 else 4)], 1, by simp [ofV, h4], by simp [planesL, h4], fun w => meth167 _ w, enters_of Try.func179 (by kernel_rfl) rfl, fun W => (planes179 _ x y W).mono ?_⟩
    rintro e W' ⟨ad, rfl, hC, hA, hB⟩
    refine ⟨ad, rfl, ?_, hA, hB⟩
    have e : planesL f x y = [⟨x, y, if f = 1 then 1 else if f = 2 then 3 else 4, 1⟩] := by simp [planesL, h4]
    rw [e]; exact hC
theorem mem_rd {l : List S43} {j : Nat} (h : j < l.length) : rd_T43 l j ∈ l := by
  have e : rd_T43 l j = l[j] := by unfold rd_T43; simp [List.getD_eq_getElem?_getD, List.getElem?_eq_getElem h]
  rw [e]; exact List.getElem_mem _
theorem sumL_succ (l : List S43) (g : S43 → Int) (j : Nat) (h : j < l.length) : sumL ((l.take (j + 1)).map g) = sumL ((l.take j).map g) + g (rd_T43 l j) := by
  have e : rd_T43 l j = l[j] := by unfold rd_T43; simp [List.getD_eq_getElem?_getD, List.getElem?_eq_getElem h]
  rw [List.take_succ_eq_append_getElem h, List.map_append, sumL_append, e]
  simp [sumL]
set_option maxHeartbeats 1000000 in
set_option maxRecDepth 100000 in
theorem size84 (f m x y : Int) (ok : okF f m x y) (w : World) : Calls Try.prog 84 #[.int .i64 f, .int .i64 m, .int .i64 x, .int .i64 y] w fun e w' => e = .returned (.int .i64 (sizeL f m x y)) ∧ Below w.heap.size w w' := by
  have hsz := sizeL_bd ok
  obtain ⟨hf, hm, hx, hy⟩ := ok
  obtain ⟨T, K, v, N, hv, hN, hme, heg, hK⟩ := planes_of hf hx hy
  have hok := planes_ok hf hx hy
  have hpl := planes_length f x y
  have ho := of_any f hf.1 hf.2 w
  rw [hv] at ho
  unfold sizeL at hsz ⊢
  generalize planesL f x y = ps at *
  have Ho := Lib.hid ho
  have HK := Lib.hid hK
  have HN := Lib.hid hN
  have Hok := Lib.hid hok
  have hN3 : N ≤ 3 := by omega
  clear ho hK hv hok
  go_enter Try.func84, Try.ntmps84
  go_wp2_with (go_at_call 131; refine Ho.out.mono ?_; rintro e w1 ⟨rfl, rfl⟩)
  refine (HK.out _).mono ?_
  rintro e w2 ⟨ad, rfl, hC, _, hB⟩
  clear hN hme heg Ho HK
  go_wp2
  go_loopw [9, 18] (fun n i wr => ∃ j : Nat, j ≤ N ∧ i = .int .i64 j ∧ n = .int .i64 (sumL ((ps.take j).map (pSize m))) ∧ Below w2.heap.size w2 wr) (fun _ i _ => N - (intOf i).toNat)
  case atStart => exact ⟨0, Nat.zero_le _, rfl, rfl, Below.refl _ _⟩
  case round =>
    obtain ⟨j, hj, rfl, rfl, hB3⟩ := hrel
    by_cases hlt : j < N
    · have hlt2 : j < ps.length := by rw [← HN.out]; exact hlt
      have hq := Hok.out _ (mem_rd hlt2)
      have hs := planeSize_eq hq hm
      have hss := sumL_succ ps (pSize m) j hlt2
      have hst := sumL_take ps (pSize m) (fun q hq => by have := pSize_bd (Hok.out q hq) hm; omega) j hlt2
      have hC2 := Kd.C_below hC hB3
      rw [HN.out] at hC2
      obtain ⟨ad2, e2, h1, h2, h3, h4⟩ := at_T43 hC2 j (by omega) (by omega)
      obtain rfl := Option.some.inj e2
      simp only [Int.toNat_natCast] at h1 h2 h3 h4
      generalize rd_T43 ps j = q at *
      generalize hsj : sumL ((ps.take j).map (pSize m)) = sj at *
      have hc := fun W => video_plane_size.calls q.f0 q.f1 q.f2 q.f3 m _ W hs
      obtain ⟨qa, qb, qc, qd⟩ := q
      dsimp only at h1 h2 h3 h4 hc hq hst hss
      have hpz := (pSize_bd hq hm).1
      generalize pSize m ⟨qa, qb, qc, qd⟩ = pz at *
      have Hc := Lib.hid hc
      have Hss := Lib.hid hss
      have hst0 := hst.1
      have hst1 : sj + pz ≤ 50000 := by omega
      clear hss hs hC hC2 hc hst hsz hq hsj HN
      go_wp2_with (go_at_call 132; refine (Hc.out _).mono ?_; rintro e w4 ⟨rfl, hB4⟩)
      go_roundw
      case rel => exact ⟨j + 1, by omega, by go_num, by rw [Hss.out], (hB3.alloc hB3.size _).trans (hB4.mono (by have := hB3.size; simp; omega))⟩
      case measure => simp [intOf]; omega
    · have e : j = N := by omega
      subst e
      rw [List.take_of_length_le (by rw [← HN.out]; exact Nat.le_refl _)]
      go_wp2
      go_ret
      exact ⟨rfl, hB.trans (hB3.mono hB.size)⟩
end Go.Proofs.Ytenaegjiggodkaa.PV

/- The contract of video's turned. -/
namespace Go.Proofs.Ytenaegjiggodkaa.PV
open Go.RowKit Go.Proofs.YtenaegjiggodkaaW.PrintWords Go.Proofs.YtenaegjiggodkaaW.PrintLast Go.Proofs.YtenaegjiggodkaaW.PrintMore
set_option linter.unusedVariables false
set_option linter.unusedSimpArgs false
/-- What was there of A is there in B, but for block G. -/
structure KpG (G : Nat) (A B : World) : Prop where
  size : A.heap.size ≤ B.heap.size
  same : ∀ k, k < A.heap.size → k ≠ G → B.heap[k]? = A.heap[k]?
theorem KpG.refl (G : Nat) (A : World) : KpG G A A := ⟨Nat.le_refl _, fun _ _ _ => rfl⟩
theorem KpG.trans {G : Nat} {A B C : World} (h : KpG G A B) (k : KpG G B C) : KpG G A C := ⟨Nat.le_trans h.size k.size, fun q h1 h2 => (k.same q (Nat.lt_of_lt_of_le h1 h.size) h2).trans (h.same q h1 h2)⟩
theorem KpG.of_below {G : Nat} {A B : World} (h : Below A.heap.size A B) : KpG G A B := ⟨h.size, fun q h1 _ => h.block q h1⟩
theorem KpG.drew {G : Nat} {A B : World} (h : KpG G A.drew B) : KpG G A B := ⟨h.size, h.same⟩
theorem KpG.setCells {G : Nat} {A B : World} (h : KpG G A B) (o : Nat) (vs : List Value) : KpG G A (B.setCells G o vs) := by
  induction vs generalizing o B with
  | nil => exact h
  | cons v t ih =>
    refine ih ?_ (o + 1)
    exact ⟨by simpa [World.setCell] using h.size, fun q h1 h2 => (Deep.blk_setCell_other _ _ _ _ h2).trans (h.same q h1 h2)⟩
theorem KpG.cell {G : Nat} {A B : World} (h : KpG G A B) {a : Addr} {v : Value} (hc : A.cell? a = some v) (hne : a.block ≠ G) : B.cell? a = some v := by
  have hlt := World.block_lt_of_cell? A _ hc
  have hb := h.same a.block hlt hne
  unfold World.cell? at hc ⊢
  rw [hb]; exact hc
theorem add_block (a : Addr) (k : Nat) : (a.add k).block = a.block := by cases k <;> rfl
def bytesV (l : List UInt8) (i : Nat) : Value := .int .u8 ((l[i]?.getD 0).toNat : Int)
theorem bytesV_put {l bs : List UInt8} {k n : Nat} (h : k + bs.length ≤ l.length) (i : Nat) : (if k ≤ i ∧ i < k + (bs.map fun x => Value.int .u8 (x.toNat : Int)).length then (bs.map fun x => Value.int .u8 (x.toNat : Int))[i - k]?.getD default else bytesV l i) = bytesV (putAt l k bs) i := by
  rw [List.length_map]
  unfold bytesV
  rw [putAt_get l k bs h i]
  split
  · rename_i hh
    rw [List.getElem?_map, List.getElem?_eq_getElem (by omega)]
    rfl
  · rfl
theorem row_put {w : World} {G n k : Nat} {l bs : List UInt8} (h : w.rowIs G 5 n (bytesV l)) (hl : l.length = n) (hk : k + bs.length ≤ n) : (w.setCells G k (bs.map fun x => Value.int .u8 (x.toNat : Int))).rowIs G 5 n (bytesV (putAt l k bs)) :=
  (rowIs_setCells _ k w _ h).congr fun i _ => bytesV_put (n := n) (by omega) i
theorem row_below {w w' : World} {G n B : Nat} {f : Nat → Value} (h : w.rowIs G 5 n f) (hb : Below B w w') (hG : G < B) : w'.rowIs G 5 n f := h.of_block (hb.block G hG)
theorem Try.info5_ : (Try.prog.info? 5).map (fun i => (i.zero, i.size, i.bytes)) = some (some (.int .u8 0), 1, 1) := by kernel_rfl
theorem cut_cut {d : ByteArray} {k n : Nat} (h : n ≤ d.size - k) (hk : k ≤ d.size) : (d.extract k d.size).extract 0 n = d.extract k (k + n) := by
  apply ByteArray.ext
  apply Array.toList_inj.1
  rw [Lib.extract_data, Lib.extract_data, Lib.extract_data]
  simp only [Nat.sub_zero, List.drop_zero, List.take_take]
  congr 1
  omega
theorem cut_size {d : ByteArray} {k n : Nat} (h : k + n ≤ d.size) : (d.extract k (k + n)).size = n := by simp; omega
theorem cut_bytes {d : ByteArray} {k n : Nat} : (d.extract k (k + n)).data.toList = seg d.data.toList k n := by
  rw [Lib.extract_data]; unfold seg; rw [show k + n - k = n by omega]
theorem size5_ (w : World) : (Go.sizeOf 5).run Try.prog w = .ok 1 w := by kernel_rfl
set_option maxHeartbeats 4000000 in
set_option maxRecDepth 100000 in
theorem turned87 (f m x y m' : Int) (d : ByteArray) (ok : okF f m x y) (hm' : okM m') (hd : (d.size : Int) = sizeL f m x y) (w : World) :
    Calls Try.prog 87 #[.agg #[.int .i64 f, .int .i64 m, .int .i64 x, .int .i64 y, .string d], .int .i64 m'] w fun e w' => e = .returned (.agg #[.int .i64 f, .int .i64 m', .int .i64 x, .int .i64 y, .string ⟨(turnedL d.data.toList f m m' x y).toArray⟩]) ∧ Below w.heap.size w w' := by
  obtain ⟨hf, hm, hx, hy⟩ := ok
  have hsb := sizeL_bd (f := f) (m := m') (w := x) (h := y) ⟨hf, hm', hx, hy⟩
  have hsb0 := sizeL_bd (f := f) (m := m) (w := x) (h := y) ⟨hf, hm, hx, hy⟩
  rw [← hd] at hsb0
  have hdb : d.size ≤ 50000 := by omega
  clear hsb0
  obtain ⟨n, hn⟩ : ∃ n : Nat, sizeL f m' x y = n := ⟨(sizeL f m' x y).toNat, by omega⟩
  have hmk := fun W : World => run_make_row' (P := Try.prog) 103 5 (.int .u8 0) 1 Try.underlying103 Try.info5_ rfl .i64 .i64 n (by omega) (by omega) W
  have hsz := fun W => size84 f m' x y ⟨hf, hm', hx, hy⟩ W
  rw [hn] at hsz hsb
  have ho := of_any f hf.1 hf.2
  obtain ⟨T3, K3, v3, N, hv, hN, hme, heg, hK⟩ := planes_of hf hx hy
  rw [hv] at ho
  have hok := planes_ok hf hx hy
  have hpl := planes_length f x y
  unfold turnedL
  rw [hn, Int.toNat_natCast]
  unfold sizeL at hd hn
  generalize planesL f x y = ps at *
  have Hsz := Lib.hid hsz
  have Hn := Lib.hid hn
  have Hd := Lib.hid hd
  have Ho := Lib.hid ho
  have HK := Lib.hid hK
  have HN := Lib.hid hN
  have Hok := Lib.hid hok
  have hN3 : N ≤ 3 := by omega
  clear hsz hn hd ho hK hv hok hN
  go_enter Try.func87, Try.ntmps87
  go_wp2_with (go_at_call 84; refine (Hsz.out _).mono ?_; rintro e w1 ⟨rfl, hB1⟩)
  have hs1 := hB1.size
  have hs1' : w.heap.size + 2 ≤ w1.heap.size := by simpa using hs1
  obtain ⟨W0, hW0⟩ : ∃ W0, (w.alloc (.cells #[.int .i64 f, .int .i64 m, .int .i64 x, .int .i64 y, .string d] 49)).alloc (.cells #[.int .i64 0, .int .i64 0, .int .i64 0, .int .i64 0, .string ⟨#[]⟩] 49) = W0 := ⟨_, rfl⟩
  rw [hW0] at hB1
  have hBW : Below w.heap.size w w1 := by
    refine Below.trans ?_ (hB1.mono (by rw [← hW0]; simp; omega))
    rw [← hW0]
    exact ((Below.refl _ _).alloc (Nat.le_refl _) _).alloc (by simp) _
  have hb0 : w1.heap[w.heap.size]? = some (.cells #[.int .i64 f, .int .i64 m, .int .i64 x, .int .i64 y, .string d] 49 (0, 0)) := by
    rw [hB1.block _ (by rw [← hW0]; simp; omega), ← hW0]
    exact (Deep.blk_alloc_lt _ _ _ (by simp)).trans (Deep.blk_alloc_new _ _)
  have hb1 : w1.heap[w.heap.size + 1]? = some (.cells #[.int .i64 0, .int .i64 0, .int .i64 0, .int .i64 0, .string ⟨#[]⟩] 49 (0, 0)) := by
    rw [hB1.block _ (by rw [← hW0]; simp), ← hW0]
    exact heap_new_at _ _ _ (by simp)
  have hrow : (w1.alloc (.cells (madeCells #[.int .u8 0] n) 5)).rowIs w1.heap.size 5 n (bytesV (List.replicate n 0)) := (World.rowIs_made w1 (.int .u8 0) n 5).congr (fun i hi => by simp [bytesV, hi])
  have hBW2 := hBW.alloc hBW.size (.cells (madeCells #[.int .u8 0] n) 5)
  have hs2 : w1.heap.size < (w1.alloc (.cells (madeCells #[.int .u8 0] n) 5)).heap.size := by simp
  have g0 : (w1.alloc (.cells (madeCells #[.int .u8 0] n) 5)).heap[w.heap.size]? = some (.cells #[.int .i64 f, .int .i64 m, .int .i64 x, .int .i64 y, .string d] 49 (0, 0)) := (Deep.blk_alloc_lt _ _ _ (by omega)).trans hb0
  have g1 : (w1.alloc (.cells (madeCells #[.int .u8 0] n) 5)).heap[w.heap.size + 1]? = some (.cells #[.int .i64 0, .int .i64 0, .int .i64 0, .int .i64 0, .string ⟨#[]⟩] 49 (0, 0)) := (Deep.blk_alloc_lt _ _ _ (by omega)).trans hb1
  generalize w1.alloc (.cells (madeCells #[.int .u8 0] n) 5) = W2 at *
  generalize w1.heap.size = G at *
  have q0 : W2.cell? ⟨w.heap.size, 0, none⟩ = some (.int .i64 f) := by simp [World.cell?, g0]
  have q2 : W2.cell? ⟨w.heap.size, 2, none⟩ = some (.int .i64 x) := by simp [World.cell?, g0]
  have q3 : W2.cell? ⟨w.heap.size, 3, none⟩ = some (.int .i64 y) := by simp [World.cell?, g0]
  clear hb0 hb1 hW0 hB1 hBW hmk hs1
  clear W0
  refine start_ (n := 10) (S := fun w' => w'.cell? ⟨w.heap.size, 0, none⟩ = some (.int .i64 f) ∧ w'.cell? ⟨w.heap.size, 2, none⟩ = some (.int .i64 x) ∧ w'.cell? ⟨w.heap.size, 3, none⟩ = some (.int .i64 y)) (ds := []) #[false, false, false, false, false, false, false, false, false, false] (by kernel_rfl) rfl rfl ⟨q0, q2, q3⟩ (fun hHeld => ?_)
  refine pure_ (i := 0) (N := some 21) (v := ?_) (a' := ?_) #[true, false, false, false, false, false, false, false, false, false] rfl rfl (by kernel_rfl) (fun _ _ _ h => h) (Or.inl ⟨by rfl, ?_⟩) ?_ ?_
  rotate_left
  · intro w'
    go_simp
    with_reducible rfl
  rotate_left
  · simp only [Act.put, List.setIfInBounds_toArray, List.set_cons_zero, List.set_cons_succ, i64_w, i32_w]
    rfl
  refine pure_ (i := 3) (N := some 24) (v := ?_) (a' := ?_) #[true, false, false, true, false, false, false, false, false, false] rfl rfl (by kernel_rfl) (fun _ _ _ h => h) (Or.inl ⟨by rfl, ?_⟩) ?_ ?_
  rotate_left
  · intro w'
    go_simp
    with_reducible rfl
  rotate_left
  · simp only [Act.put, List.setIfInBounds_toArray, List.set_cons_zero, List.set_cons_succ, i64_w, i32_w]
    rfl
  refine pure_ (i := 5) (N := some 26) (v := ?_) (a' := ?_) #[true, false, false, true, false, true, false, false, false, false] rfl rfl (by kernel_rfl) (fun _ _ _ h => h) (Or.inl ⟨by rfl, ?_⟩) ?_ ?_
  rotate_left
  · intro w'
    go_simp
    with_reducible rfl
  rotate_left
  · simp only [Act.put, List.setIfInBounds_toArray, List.set_cons_zero, List.set_cons_succ, i64_w, i32_w]
    rfl
  refine pure_ (i := 9) (N := some 30) (v := ?_) (a' := ?_) #[true, false, false, true, false, true, false, false, false, true] rfl rfl (by kernel_rfl) (fun _ _ _ h => h) (Or.inl ⟨by rfl, ?_⟩) ?_ ?_
  rotate_left
  · intro w'
    go_simp
    with_reducible rfl
  rotate_left
  · simp only [Act.put, List.setIfInBounds_toArray, List.set_cons_zero, List.set_cons_succ, i64_w, i32_w]
    rfl
  refine take_ (i := 1) (N := some 22) (v := ?_) (a' := ?_) #[true, true, false, true, false, true, false, false, false, true] rfl rfl (by kernel_rfl) (fun _ _ _ h => h) (Or.inl ⟨by rfl, ?_⟩) hHeld ?_ ?_
  rotate_left
  · rintro w' ⟨s0, s1, s2⟩
    go_simp
    with_reducible rfl
  rotate_left
  · simp only [Act.put, List.setIfInBounds_toArray, List.set_cons_zero, List.set_cons_succ, i64_w, i32_w]
    rfl
  refine take_ (i := 4) (N := some 25) (v := ?_) (a' := ?_) #[true, true, false, true, true, true, false, false, false, true] rfl rfl (by kernel_rfl) (fun _ _ _ h => h) (Or.inl ⟨by rfl, ?_⟩) hHeld ?_ ?_
  rotate_left
  · rintro w' ⟨s0, s1, s2⟩
    go_simp
    with_reducible rfl
  rotate_left
  · simp only [Act.put, List.setIfInBounds_toArray, List.set_cons_zero, List.set_cons_succ, i64_w, i32_w]
    rfl
  refine take_ (i := 6) (N := some 27) (v := ?_) (a' := ?_) #[true, true, false, true, true, true, true, false, false, true] rfl rfl (by kernel_rfl) (fun _ _ _ h => h) (Or.inl ⟨by rfl, ?_⟩) hHeld ?_ ?_
  rotate_left
  · rintro w' ⟨s0, s1, s2⟩
    go_simp
    with_reducible rfl
  rotate_left
  · simp only [Act.put, List.setIfInBounds_toArray, List.set_cons_zero, List.set_cons_succ, i64_w, i32_w]
    rfl
  refine one_ (i := 2) (N := some 23) #[true, true, true, true, true, true, true, false, false, true] rfl rfl (by kernel_rfl) (by decide) (fun K hK => ?_)
  refine goes_ Try.func131 (by kernel_rfl) rfl #[.int .i64 f] (by rfl) rfl rfl (by simp only [List.map_toArray, List.map_cons, List.map_nil]; rfl) ?_
  with_reducible refine (Ho.out _).mono ?_
  rintro e w3 ⟨rfl, rfl⟩
  refine ⟨_, rfl, ?_⟩
  refine hK.out _ _ ⟨hHeld.1, hHeld.2.1, hHeld.2.2⟩ (fun hHeld => ?_)
  clear hK K
  refine norm_ (a' := ?_) ?_ ?_
  rotate_left
  · show Act.put _ (some 23) _ = _
    simp only [Act.put, List.setIfInBounds_toArray, List.set_cons_zero, List.set_cons_succ, i64_w, i32_w]
    rfl
  refine one_ (i := 7) (N := some 28) #[true, true, true, true, true, true, true, true, false, true] rfl rfl (by kernel_rfl) (by decide) (fun K hK => ?_)
  refine call_ K3 #[v3, .int .i64 x, .int .i64 y] (by rfl) rfl (by unfold execOp; simp [resolve, Deferred.ofValue, invoke, Act.eval]; unfold callMethod; go_simp) ?_
  refine (HK.out _).mono ?_
  rintro e w4 ⟨ad, rfl, hC, hA, hB4⟩
  refine ⟨_, rfl, ?_⟩
  refine hK.out _ _ ⟨pw_cell_below hB4 hHeld.1, pw_cell_below hB4 hHeld.2.1, pw_cell_below hB4 hHeld.2.2⟩ (fun hHeld => ?_)
  clear hK K
  refine norm_ (a' := ?_) ?_ ?_
  rotate_left
  · show Act.put _ (some 28) _ = _
    simp only [Act.put, List.setIfInBounds_toArray, List.set_cons_zero, List.set_cons_succ, i64_w, i32_w]
    rfl
  refine pure_ (i := 8) (N := some 29) (v := ?_) (a' := ?_) #[true, true, true, true, true, true, true, true, true, true] rfl rfl (by kernel_rfl) (fun _ _ _ h => h) (Or.inl ⟨by rfl, ?_⟩) ?_ ?_
  rotate_left
  · intro w'
    go_simp
    with_reducible rfl
  rotate_left
  · simp only [Act.put, List.setIfInBounds_toArray, List.set_cons_zero, List.set_cons_succ, i64_w, i32_w]
    rfl
  refine done_ (by kernel_rfl) ?_

  have hK4 : KpG G W2 w4 := (KpG.of_below hB4).drew
  have hr4 : w4.rowIs G 5 n (bytesV (List.replicate n 0)) := row_below hrow.drew hB4 hs2
  have hB4' : Below w.heap.size w w4 := hBW2.drew.trans (hB4.mono (by simpa using hBW2.size))
  have hA' : G < ad.block := Nat.lt_of_lt_of_le hs2 hA
  have hc1 : w4.cell? ⟨w.heap.size, 1, none⟩ = some (.int .i64 m) := hK4.cell (by simp [World.cell?, g0]) (by simp; omega)
  have hc4 : w4.cell? ⟨w.heap.size, 4, none⟩ = some (.string d) := hK4.cell (by simp [World.cell?, g0]) (by simp; omega)
  have hg0 := (hK4.same w.heap.size (by omega) (by omega)).trans g0
  have hg1 := (hK4.same (w.heap.size + 1) (by omega) (by omega)).trans g1
  have hwG : w.heap.size ≤ G := by omega
  have hG4 : G < w4.heap.size := Nat.lt_of_lt_of_le hs2 hK4.size
  clear hrow hBW2 hB4 q0 q2 q3 g0 g1 hK4 hs2 hA hHeld hme heg Ho HK Hsz
  go_wp2
  go_loopw [6, 7, 30] (fun vf vt i wr => ∃ j : Nat, j ≤ N ∧ i = .int .i64 j ∧ vf = .int .i64 (turnUpto d.data.toList m m' ps n j).fr ∧ vt = .int .i64 (turnUpto d.data.toList m m' ps n j).tz ∧ wr.rowIs G 5 n (bytesV (turnUpto d.data.toList m m' ps n j).out) ∧ KpG G w4 wr ∧ Below w.heap.size w wr) (fun _ _ i _ => N - (intOf i).toNat)
  case atStart => exact ⟨0, Nat.zero_le _, rfl, rfl, rfl, hr4, KpG.refl _ _, hB4'⟩
  case round =>
    clear hr4 hB4'
    obtain ⟨j, hj, rfl, rfl, rfl, hr, hK, hB⟩ := hrel
    by_cases hlt : j < N
    · have hlt2 : j < ps.length := by rw [← HN.out]; exact hlt
      have hq := Hok.out _ (mem_rd hlt2)
      have hsd := turnUpto_succ d.data.toList m m' ps n j hlt2
      have hfr := turnUpto_fr d.data.toList m m' ps n j
      have hs1 := sumL_take ps (pSize m) (fun q hq => by have := pSize_bd (Hok.out q hq) hm; omega) j hlt2
      have hs2 := sumL_take ps (pSize m') (fun q hq => by have := pSize_bd (Hok.out q hq) hm'; omega) j hlt2
      have hz1 := pSize_bd hq hm
      have hz2 := pSize_bd hq hm'
      rw [← hfr.1, ← Hd.out] at hs1
      rw [← hfr.2, Hn.out] at hs2
      have hlen : (turnUpto d.data.toList m m' ps n j).out.length = n := turnUpto_length Hok.out hm hm' (by rw [← Hd.out]; simp) (by rw [Hn.out]; exact Int.le_refl _) j (by omega)
      have hC2 := hC
      rw [HN.out] at hC2
      obtain ⟨ad2, e2, h1, h2, h3, h4⟩ := at_T43 hC2 j (by omega) (by omega)
      obtain rfl := Option.some.inj e2
      simp only [Int.toNat_natCast] at h1 h2 h3 h4
      generalize rd_T43 ps j = q at *
      generalize turnUpto d.data.toList m m' ps n j = st at *
      obtain ⟨fr, tz, out⟩ := st
      have hsz1 := fun W => video_plane_size.calls q.f0 q.f1 q.f2 q.f3 m _ W (planeSize_eq hq hm)
      have hsz2 := fun W => video_plane_size.calls q.f0 q.f1 q.f2 q.f3 m' _ W (planeSize_eq hq hm')
      dsimp only at hr hsd hs1 hs2 hlen
      unfold turnStep at hsd
      dsimp only at hsd
      have g1 := hK.cell h1 (by first | (rw [add_block]; omega) | (show (ad.add (j * 4)).block ≠ G; rw [add_block]; omega))
      have g2 := hK.cell h2 (by first | (rw [add_block]; omega) | (show (ad.add (j * 4)).block ≠ G; rw [add_block]; omega))
      have g3 := hK.cell h3 (by first | (rw [add_block]; omega) | (show (ad.add (j * 4)).block ≠ G; rw [add_block]; omega))
      have g4 := hK.cell h4 (by first | (rw [add_block]; omega) | (show (ad.add (j * 4)).block ≠ G; rw [add_block]; omega))
      have k1 := hK.cell hc1 (by simp; omega)
      have k4 := hK.cell hc4 (by simp; omega)
      clear h1 h2 h3 h4 hC2 hfr e2 hc1 hc4
      obtain ⟨qa, qb, qc, qd⟩ := q
      have HQ := Lib.hid hq
      have Hsd := Lib.hid hsd
      have Hlen := Lib.hid hlen
      have Hsz1 := Lib.hid hsz1
      have Hsz2 := Lib.hid hsz2
      have HC := Lib.hid hC
      clear hq hsd hlen hsz1 hsz2 hC
      have hqa := HQ.out.1
      have hqb := HQ.out.2.1
      have hqc := HQ.out.2.2.1
      dsimp only at g1 g2 g3 g4 hqa hqb hqc
      go_wp2
      have hGr : G < wr.heap.size := Nat.lt_of_lt_of_le hG4 hK.size
      have hKq : KpG G w4 (wr.alloc (.cells #[.int .i64 qa, .int .i64 qb, .int .i64 qc, .int .i64 qd] 154)) := hK.trans (KpG.of_below ((Below.refl _ _).alloc (Nat.le_refl _) _))
      have hBq := hB.alloc hB.size (.cells #[.int .i64 qa, .int .i64 qb, .int .i64 qc, .int .i64 qd] 154)
      have hrq := hr.alloc (.cells #[.int .i64 qa, .int .i64 qb, .int .i64 qc, .int .i64 qd] 154)
      have hq9 : (wr.alloc (.cells #[.int .i64 qa, .int .i64 qb, .int .i64 qc, .int .i64 qd] 154)).heap[wr.heap.size]? = some (.cells #[.int .i64 qa, .int .i64 qb, .int .i64 qc, .int .i64 qd] 154 (0, 0)) := Deep.blk_alloc_new _ _
      have k1q : (wr.alloc (.cells #[.int .i64 qa, .int .i64 qb, .int .i64 qc, .int .i64 qd] 154)).cell? ⟨w.heap.size, 1, none⟩ = some (.int .i64 m) := pw_cell_below (below_alloc (Below.refl _ _) _) k1
      have k4q : (wr.alloc (.cells #[.int .i64 qa, .int .i64 qb, .int .i64 qc, .int .i64 qd] 154)).cell? ⟨w.heap.size, 4, none⟩ = some (.string d) := pw_cell_below (below_alloc (Below.refl _ _) _) k4
      have hsq : wr.heap.size < (wr.alloc (.cells #[.int .i64 qa, .int .i64 qb, .int .i64 qc, .int .i64 qd] 154)).heap.size := by simp
      generalize wr.alloc (.cells #[.int .i64 qa, .int .i64 qb, .int .i64 qc, .int .i64 qd] 154) = Wq at *
      generalize wr.heap.size = Bq at *
      clear hr hK hB k1 k4 g1 g2 g3 g4
      clear wr
      obtain ⟨qbn, rfl⟩ : ∃ k : Nat, qb = k := ⟨qb.toNat, by omega⟩
      obtain ⟨qan, rfl⟩ : ∃ k : Nat, qa = k := ⟨qa.toNat, by omega⟩
      obtain ⟨qcn, rfl⟩ : ∃ k : Nat, qc = k := ⟨qc.toNat, by omega⟩
      go_loopw [36] (fun i wr => ∃ k : Nat, k ≤ qbn ∧ i = .int .i64 k ∧ wr.rowIs G 5 n (bytesV ((List.range k).foldl (turnRow d.data.toList m m' ⟨qan, qbn, qcn, qd⟩ fr tz) out)) ∧ KpG G Wq wr ∧ Below w.heap.size w wr) (fun i _ => qbn - (intOf i).toNat)
      case atStart => exact ⟨0, Nat.zero_le _, rfl, by simpa using hrq, KpG.refl _ _, hBq⟩
      case round =>
        clear hrq hBq
        obtain ⟨ky, hky, rfl, hr, hK, hB⟩ := hrel
        by_cases hly : ky < qbn
        · have hrs := range_foldl_succ (turnRow d.data.toList m m' ⟨qan, qbn, qcn, qd⟩ fr tz) out ky
          have hly2 := turnPlane_length (d := d.data.toList) (m := m) (m' := m') HQ.out hs1.1 hs2.1 (by simpa using hs1.2) hs2.2 (List.range ky) (fun y hy => by rw [List.mem_range] at hy; show (y : Int) < (qbn : Int); omega) out Hlen.out
          generalize (List.range ky).foldl (turnRow d.data.toList m m' ⟨qan, qbn, qcn, qd⟩ fr tz) out = oy at *
          have Hrs := Lib.hid hrs
          have Hly2 := Lib.hid hly2
          clear hrs hly2
          have c9 := (hK.same Bq hsq (by omega)).trans hq9
          have g0 : wr.cell? ⟨Bq, 0, none⟩ = some (.int .i64 qan) := by simp [World.cell?, c9]
          go_wp2
          clear g0
          go_loopw [41] (fun i wr => ∃ k : Nat, k ≤ qan ∧ i = .int .i64 k ∧ wr.rowIs G 5 n (bytesV ((List.range k).foldl (turnCell d.data.toList m m' ⟨qan, qbn, qcn, qd⟩ fr tz ky) oy)) ∧ KpG G Wq wr ∧ Below w.heap.size w wr) (fun i _ => qan - (intOf i).toNat)
          case atStart => exact ⟨0, Nat.zero_le _, rfl, by simpa using hr, hK, hB⟩
          case round =>
            clear hr hB hK c9
            obtain ⟨kx, hkx, rfl, hr, hK, hB⟩ := hrel
            by_cases hlx : kx < qan
            · have hcs := range_foldl_succ (turnCell d.data.toList m m' ⟨qan, qbn, qcn, qd⟩ fr tz ky) oy kx
              have hlx2 := turnRow_length (d := d.data.toList) (m := m) (m' := m') HQ.out hs1.1 hs2.1 (by simpa using hs1.2) hs2.2 (y := ky) (by show (ky : Int) < (qbn : Int); omega) (List.range kx) (fun x hx => by rw [List.mem_range] at hx; show (x : Int) < (qan : Int); omega) oy Hly2.out
              generalize (List.range kx).foldl (turnCell d.data.toList m m' ⟨qan, qbn, qcn, qd⟩ fr tz ky) oy = ox at *
              have hp1 := pAt_bd HQ.out m' (x := (kx : Int)) (y := (ky : Int)) ⟨by omega, by show (kx : Int) < (qan : Int); omega⟩ ⟨by omega, by show (ky : Int) < (qbn : Int); omega⟩
              have hp2 := pAt_bd HQ.out m (x := (kx : Int)) (y := (ky : Int)) ⟨by omega, by show (kx : Int) < (qan : Int); omega⟩ ⟨by omega, by show (ky : Int) < (qbn : Int); omega⟩
              have hca1 := fun W => video_plane_at.calls qan qbn qcn qd m' kx ky _ W (planeAt_eq HQ.out hm' (x := (kx : Int)) (y := (ky : Int)) ⟨by omega, by show (kx : Int) < (qan : Int); omega⟩ ⟨by omega, by show (ky : Int) < (qbn : Int); omega⟩)
              have hca2 := fun W => video_plane_at.calls qan qbn qcn qd m kx ky _ W (planeAt_eq HQ.out hm (x := (kx : Int)) (y := (ky : Int)) ⟨by omega, by show (kx : Int) < (qan : Int); omega⟩ ⟨by omega, by show (ky : Int) < (qbn : Int); omega⟩)
              have hcell : turnCell d.data.toList m m' ⟨qan, qbn, qcn, qd⟩ fr tz ky ox kx = putAt ox (tz + pAt m' ⟨qan, qbn, qcn, qd⟩ kx ky).toNat (seg d.data.toList (fr + pAt m ⟨qan, qbn, qcn, qd⟩ kx ky).toNat qcn) := rfl
              rw [hcell] at hcs
              clear hcell
              dsimp only at hp1 hp2
              generalize pAt m' ⟨qan, qbn, qcn, qd⟩ kx ky = a1 at *
              generalize pAt m ⟨qan, qbn, qcn, qd⟩ kx ky = a2 at *
              obtain ⟨k1, hk1⟩ : ∃ k : Nat, tz + a1 = k := ⟨(tz + a1).toNat, by omega⟩
              obtain ⟨k2, hk2⟩ : ∃ k : Nat, fr + a2 = k := ⟨(fr + a2).toNat, by omega⟩
              have b1 : k1 + qcn ≤ n := by omega
              have b2 : k2 + qcn ≤ d.size := by omega
              rw [hk1, hk2, Int.toNat_natCast, Int.toNat_natCast] at hcs
              have hw1 : IntKind.i64.wrap (tz + a1) = (k1 : Int) := by rw [hk1]; exact IntWalk.i64_in _ (by omega)
              have hw2 : IntKind.i64.wrap (fr + a2) = (k2 : Int) := by rw [hk2]; exact IntWalk.i64_in _ (by omega)
              have c9 := (hK.same Bq hsq (by omega)).trans hq9
              have p0 : wr.cell? ⟨Bq, 0, none⟩ = some (.int .i64 qan) := by simp [World.cell?, c9]
              have p1 : wr.cell? ⟨Bq, 1, none⟩ = some (.int .i64 qbn) := by simp [World.cell?, c9]
              have p2 : wr.cell? ⟨Bq, 2, none⟩ = some (.int .i64 qcn) := by simp [World.cell?, c9]
              have p3 : wr.cell? ⟨Bq, 3, none⟩ = some (.int .i64 qd) := by simp [World.cell?, c9]
              have p4 := hK.cell k1q (by simp; omega)
              have p5 := hK.cell k4q (by simp; omega)
              have Hcs := Lib.hid hcs
              have Hlx2 := Lib.hid hlx2
              have Hc1 := Lib.hid hca1
              have Hc2 := Lib.hid hca2
              have Hz := Lib.hid (And.intro hz1 hz2)
              have hkn : k1 ≤ n := by omega
              have hkn2 : ¬ n = k1 := by omega
              have hkd : k2 ≤ d.size := by omega
              have hqd : qcn ≤ d.size - k2 := by omega
              have hKs := Nat.le_trans hKq.size hK.size
              clear hcs hlx2 hca1 hca2 hk1 hk2 hp1 hp2 c9 hz1 hz2
              go_wp2
              refine start_ (n := 24) (S := fun w' => w'.cell? ⟨Bq, 0, none⟩ = some (.int .i64 qan) ∧ w'.cell? ⟨Bq, 1, none⟩ = some (.int .i64 qbn) ∧ w'.cell? ⟨Bq, 2, none⟩ = some (.int .i64 qcn) ∧ w'.cell? ⟨Bq, 3, none⟩ = some (.int .i64 qd) ∧ w'.cell? ⟨w.heap.size, 1, none⟩ = some (.int .i64 m) ∧ w'.cell? ⟨w.heap.size, 4, none⟩ = some (.string d)) (ds := [23]) #[false, false, false, false, false, false, false, false, false, false, false, false, false, false, false, false, false, false, false, false, false, false, false, false] (by kernel_rfl) rfl rfl ⟨p0, p1, p2, p3, p4, p5⟩ (fun hHeld => ?_)
              refine pure_ (i := 0) (N := some 44) (v := ?_) (a' := ?_) #[true, false, false, false, false, false, false, false, false, false, false, false, false, false, false, false, false, false, false, false, false, false, false, false] rfl rfl (by kernel_rfl) (fun _ _ _ h => h) (Or.inl ⟨by rfl, ?_⟩) ?_ ?_
              rotate_left
              · intro w'
                go_simp
                with_reducible rfl
              rotate_left
              · simp only [Act.put, List.setIfInBounds_toArray, List.set_cons_zero, List.set_cons_succ, i64_w, i32_w]
                rfl
              refine pure_ (i := 1) (N := some 45) (v := ?_) (a' := ?_) #[true, true, false, false, false, false, false, false, false, false, false, false, false, false, false, false, false, false, false, false, false, false, false, false] rfl rfl (by kernel_rfl) (fun _ _ _ h => h) (Or.inl ⟨by rfl, ?_⟩) ?_ ?_
              rotate_left
              · intro w'
                go_simp
                with_reducible rfl
              rotate_left
              · simp only [Act.put, List.setIfInBounds_toArray, List.set_cons_zero, List.set_cons_succ, i64_w, i32_w]
                rfl
              refine pure_ (i := 3) (N := some 47) (v := ?_) (a' := ?_) #[true, true, false, true, false, false, false, false, false, false, false, false, false, false, false, false, false, false, false, false, false, false, false, false] rfl rfl (by kernel_rfl) (fun _ _ _ h => h) (Or.inl ⟨by rfl, ?_⟩) ?_ ?_
              rotate_left
              · intro w'
                go_simp
                with_reducible rfl
              rotate_left
              · simp only [Act.put, List.setIfInBounds_toArray, List.set_cons_zero, List.set_cons_succ, i64_w, i32_w]
                rfl
              refine pure_ (i := 4) (N := some 48) (v := ?_) (a' := ?_) #[true, true, false, true, true, false, false, false, false, false, false, false, false, false, false, false, false, false, false, false, false, false, false, false] rfl rfl (by kernel_rfl) (fun _ _ _ h => h) (Or.inl ⟨by rfl, ?_⟩) ?_ ?_
              rotate_left
              · intro w'
                go_simp
                with_reducible rfl
              rotate_left
              · simp only [Act.put, List.setIfInBounds_toArray, List.set_cons_zero, List.set_cons_succ, i64_w, i32_w]
                rfl
              refine pure_ (i := 5) (N := some 49) (v := ?_) (a' := ?_) #[true, true, false, true, true, true, false, false, false, false, false, false, false, false, false, false, false, false, false, false, false, false, false, false] rfl rfl (by kernel_rfl) (fun _ _ _ h => h) (Or.inl ⟨by rfl, ?_⟩) ?_ ?_
              rotate_left
              · intro w'
                go_simp
                with_reducible rfl
              rotate_left
              · simp only [Act.put, List.setIfInBounds_toArray, List.set_cons_zero, List.set_cons_succ, i64_w, i32_w]
                rfl
              refine pure_ (i := 9) (N := some 53) (v := ?_) (a' := ?_) #[true, true, false, true, true, true, false, false, false, true, false, false, false, false, false, false, false, false, false, false, false, false, false, false] rfl rfl (by kernel_rfl) (fun _ _ _ h => h) (Or.inl ⟨by rfl, ?_⟩) ?_ ?_
              rotate_left
              · intro w'
                go_simp
                with_reducible rfl
              rotate_left
              · simp only [Act.put, List.setIfInBounds_toArray, List.set_cons_zero, List.set_cons_succ, i64_w, i32_w]
                rfl
              refine pure_ (i := 11) (N := some 55) (v := ?_) (a' := ?_) #[true, true, false, true, true, true, false, false, false, true, false, true, false, false, false, false, false, false, false, false, false, false, false, false] rfl rfl (by kernel_rfl) (fun _ _ _ h => h) (Or.inl ⟨by rfl, ?_⟩) ?_ ?_
              rotate_left
              · intro w'
                go_simp
                with_reducible rfl
              rotate_left
              · simp only [Act.put, List.setIfInBounds_toArray, List.set_cons_zero, List.set_cons_succ, i64_w, i32_w]
                rfl
              refine pure_ (i := 13) (N := some 57) (v := ?_) (a' := ?_) #[true, true, false, true, true, true, false, false, false, true, false, true, false, true, false, false, false, false, false, false, false, false, false, false] rfl rfl (by kernel_rfl) (fun _ _ _ h => h) (Or.inl ⟨by rfl, ?_⟩) ?_ ?_
              rotate_left
              · intro w'
                go_simp
                with_reducible rfl
              rotate_left
              · simp only [Act.put, List.setIfInBounds_toArray, List.set_cons_zero, List.set_cons_succ, i64_w, i32_w]
                rfl
              refine pure_ (i := 15) (N := some 59) (v := ?_) (a' := ?_) #[true, true, false, true, true, true, false, false, false, true, false, true, false, true, false, true, false, false, false, false, false, false, false, false] rfl rfl (by kernel_rfl) (fun _ _ _ h => h) (Or.inl ⟨by rfl, ?_⟩) ?_ ?_
              rotate_left
              · intro w'
                go_simp
                with_reducible rfl
              rotate_left
              · simp only [Act.put, List.setIfInBounds_toArray, List.set_cons_zero, List.set_cons_succ, i64_w, i32_w]
                rfl
              refine pure_ (i := 16) (N := some 60) (v := ?_) (a' := ?_) #[true, true, false, true, true, true, false, false, false, true, false, true, false, true, false, true, true, false, false, false, false, false, false, false] rfl rfl (by kernel_rfl) (fun _ _ _ h => h) (Or.inl ⟨by rfl, ?_⟩) ?_ ?_
              rotate_left
              · intro w'
                go_simp
                with_reducible rfl
              rotate_left
              · simp only [Act.put, List.setIfInBounds_toArray, List.set_cons_zero, List.set_cons_succ, i64_w, i32_w]
                rfl
              refine pure_ (i := 20) (N := some 64) (v := ?_) (a' := ?_) #[true, true, false, true, true, true, false, false, false, true, false, true, false, true, false, true, true, false, false, false, true, false, false, false] rfl rfl (by kernel_rfl) (fun _ _ _ h => h) (Or.inl ⟨by rfl, ?_⟩) ?_ ?_
              rotate_left
              · intro w'
                go_simp
                with_reducible rfl
              rotate_left
              · simp only [Act.put, List.setIfInBounds_toArray, List.set_cons_zero, List.set_cons_succ, i64_w, i32_w]
                rfl
              refine take_ (i := 2) (N := some 46) (v := ?_) (a' := ?_) #[true, true, true, true, true, true, false, false, false, true, false, true, false, true, false, true, true, false, false, false, true, false, false, false] rfl rfl (by kernel_rfl) (fun _ _ _ h => h) (Or.inl ⟨by rfl, ?_⟩) hHeld ?_ ?_
              rotate_left
              · rintro w' ⟨s0, s1, s2, s3, s4, s5⟩
                go_simp
                with_reducible rfl
              rotate_left
              · simp only [Act.put, List.setIfInBounds_toArray, List.set_cons_zero, List.set_cons_succ, i64_w, i32_w]
                rfl
              refine take_ (i := 10) (N := some 54) (v := ?_) (a' := ?_) #[true, true, true, true, true, true, false, false, false, true, true, true, false, true, false, true, true, false, false, false, true, false, false, false] rfl rfl (by kernel_rfl) (fun _ _ _ h => h) (Or.inl ⟨by rfl, ?_⟩) hHeld ?_ ?_
              rotate_left
              · rintro w' ⟨s0, s1, s2, s3, s4, s5⟩
                go_simp
                with_reducible rfl
              rotate_left
              · simp only [Act.put, List.setIfInBounds_toArray, List.set_cons_zero, List.set_cons_succ, i64_w, i32_w]
                rfl
              refine take_ (i := 12) (N := some 56) (v := ?_) (a' := ?_) #[true, true, true, true, true, true, false, false, false, true, true, true, true, true, false, true, true, false, false, false, true, false, false, false] rfl rfl (by kernel_rfl) (fun _ _ _ h => h) (Or.inl ⟨by rfl, ?_⟩) hHeld ?_ ?_
              rotate_left
              · rintro w' ⟨s0, s1, s2, s3, s4, s5⟩
                go_simp
                with_reducible rfl
              rotate_left
              · simp only [Act.put, List.setIfInBounds_toArray, List.set_cons_zero, List.set_cons_succ, i64_w, i32_w]
                rfl
              refine take_ (i := 14) (N := some 58) (v := ?_) (a' := ?_) #[true, true, true, true, true, true, false, false, false, true, true, true, true, true, true, true, true, false, false, false, true, false, false, false] rfl rfl (by kernel_rfl) (fun _ _ _ h => h) (Or.inl ⟨by rfl, ?_⟩) hHeld ?_ ?_
              rotate_left
              · rintro w' ⟨s0, s1, s2, s3, s4, s5⟩
                go_simp
                with_reducible rfl
              rotate_left
              · simp only [Act.put, List.setIfInBounds_toArray, List.set_cons_zero, List.set_cons_succ, i64_w, i32_w]
                rfl
              refine take_ (i := 21) (N := some 65) (v := ?_) (a' := ?_) #[true, true, true, true, true, true, false, false, false, true, true, true, true, true, true, true, true, false, false, false, true, true, false, false] rfl rfl (by kernel_rfl) (fun _ _ _ h => h) (Or.inl ⟨by rfl, ?_⟩) hHeld ?_ ?_
              rotate_left
              · rintro w' ⟨s0, s1, s2, s3, s4, s5⟩
                go_simp
                with_reducible rfl
              rotate_left
              · simp only [Act.put, List.setIfInBounds_toArray, List.set_cons_zero, List.set_cons_succ, i64_w, i32_w]
                rfl
              refine one_ (i := 6) (N := some 50) #[true, true, true, true, true, true, true, false, false, true, true, true, true, true, true, true, true, false, false, false, true, true, false, false] rfl rfl (by kernel_rfl) (by decide) (fun K hK => ?_)
              refine goes_ Try.func133 (by kernel_rfl) rfl #[.agg #[.int .i64 qan, .int .i64 qbn, .int .i64 qcn, .int .i64 qd], .int .i64 m', .int .i64 kx, .int .i64 ky] (by rfl) rfl rfl (by simp only [List.map_toArray, List.map_cons, List.map_nil]; rfl) ?_
              with_reducible refine (Hc1.out _).mono ?_
              rintro e w5 ⟨rfl, hB5⟩
              refine ⟨_, rfl, ?_⟩
              refine hK.out _ _ ⟨pw_cell_below hB5 hHeld.1, pw_cell_below hB5 hHeld.2.1, pw_cell_below hB5 hHeld.2.2.1, pw_cell_below hB5 hHeld.2.2.2.1, pw_cell_below hB5 hHeld.2.2.2.2.1, pw_cell_below hB5 hHeld.2.2.2.2.2⟩ (fun hHeld => ?_)
              clear hK K
              refine norm_ (a' := ?_) ?_ ?_
              rotate_left
              · show Act.put _ (some 50) _ = _
                simp only [Act.put, List.setIfInBounds_toArray, List.set_cons_zero, List.set_cons_succ, i64_w, i32_w]
                rfl
              refine pure_ (i := 7) (N := some 51) (v := ?_) (a' := ?_) #[true, true, true, true, true, true, true, true, false, true, true, true, true, true, true, true, true, false, false, false, true, true, false, false] rfl rfl (by kernel_rfl) (fun _ _ _ h => h) (Or.inl ⟨by rfl, ?_⟩) ?_ ?_
              rotate_left
              · intro w'
                go_simp
                with_reducible rfl
              rotate_left
              · simp only [Act.put, List.setIfInBounds_toArray, List.set_cons_zero, List.set_cons_succ, i64_w, i32_w]
                rfl
              refine pure_ (i := 8) (N := some 52) (v := ?_) (a' := ?_) #[true, true, true, true, true, true, true, true, true, true, true, true, true, true, true, true, true, false, false, false, true, true, false, false] rfl rfl (by kernel_rfl) (fun _ _ _ h => h) (Or.inl ⟨by rfl, ?_⟩) ?_ ?_
              rotate_left
              · intro w'
                go_simp
                with_reducible rfl
              rotate_left
              · simp only [Act.put, List.setIfInBounds_toArray, List.set_cons_zero, List.set_cons_succ, i64_w, i32_w]
                rfl
              refine one_ (i := 17) (N := some 61) #[true, true, true, true, true, true, true, true, true, true, true, true, true, true, true, true, true, true, false, false, true, true, false, false] rfl rfl (by kernel_rfl) (by decide) (fun K hK => ?_)
              refine goes_ Try.func133 (by kernel_rfl) rfl #[.agg #[.int .i64 qan, .int .i64 qbn, .int .i64 qcn, .int .i64 qd], .int .i64 m, .int .i64 kx, .int .i64 ky] (by rfl) rfl rfl (by simp only [List.map_toArray, List.map_cons, List.map_nil]; rfl) ?_
              with_reducible refine (Hc2.out _).mono ?_
              rintro e w6 ⟨rfl, hB6⟩
              have hR6 := row_below (row_below hr.drew hB5 (Nat.lt_of_lt_of_le hG4 hKs)) hB6 (Nat.lt_of_lt_of_le hG4 (Nat.le_trans hKs hB5.size))
              refine ⟨_, rfl, ?_⟩
              refine hK.out _ _ ⟨pw_cell_below hB6 hHeld.1, pw_cell_below hB6 hHeld.2.1, pw_cell_below hB6 hHeld.2.2.1, pw_cell_below hB6 hHeld.2.2.2.1, pw_cell_below hB6 hHeld.2.2.2.2.1, pw_cell_below hB6 hHeld.2.2.2.2.2⟩ (fun hHeld => ?_)
              clear hK K
              refine norm_ (a' := ?_) ?_ ?_
              rotate_left
              · show Act.put _ (some 61) _ = _
                simp only [Act.put, List.setIfInBounds_toArray, List.set_cons_zero, List.set_cons_succ, i64_w, i32_w]
                rfl
              refine pure_ (i := 18) (N := some 62) (v := ?_) (a' := ?_) #[true, true, true, true, true, true, true, true, true, true, true, true, true, true, true, true, true, true, true, false, true, true, false, false] rfl rfl (by kernel_rfl) (fun _ _ _ h => h) (Or.inl ⟨by rfl, ?_⟩) ?_ ?_
              rotate_left
              · intro w'
                go_simp
                with_reducible rfl
              rotate_left
              · simp only [Act.put, List.setIfInBounds_toArray, List.set_cons_zero, List.set_cons_succ, i64_w, i32_w]
                rfl
              refine pure_ (i := 19) (N := some 63) (v := ?_) (a' := ?_) #[true, true, true, true, true, true, true, true, true, true, true, true, true, true, true, true, true, true, true, true, true, true, false, false] rfl rfl (by kernel_rfl) (fun _ _ _ h => h) (Or.inl ⟨by rfl, ?_⟩) ?_ ?_
              rotate_left
              · intro w'
                go_simp
                with_reducible rfl
              rotate_left
              · simp only [Act.put, List.setIfInBounds_toArray, List.set_cons_zero, List.set_cons_succ, i64_w, i32_w]
                rfl
              refine pure_ (i := 22) (N := some 66) (v := ?_) (a' := ?_) #[true, true, true, true, true, true, true, true, true, true, true, true, true, true, true, true, true, true, true, true, true, true, true, false] rfl rfl (by kernel_rfl) (fun _ _ _ h => h) (Or.inl ⟨by rfl, ?_⟩) ?_ ?_
              rotate_left
              · intro w'
                go_simp
                with_reducible rfl
              rotate_left
              · simp only [Act.put, List.setIfInBounds_toArray, List.set_cons_zero, List.set_cons_succ, i64_w, i32_w]
                rfl
              refine last_ (i := 23) (N := some 67) #[true, true, true, true, true, true, true, true, true, true, true, true, true, true, true, true, true, true, true, true, true, true, true, true] rfl rfl (by kernel_rfl) (by decide) (fun K hK => ?_)
              refine step_copy_string rfl (.tmp 52) (.tmp 66) 103 9 rfl 5 Try.underlying103 size5_ G k1 (n - k1) (n - k1) ?_ (d.extract k2 (k2 + qcn)) ?_ ?_ ?_ ?_ ?_
              · rfl
              · exact congrArg Value.string (cut_cut hqd hkd)
              · rw [cut_size b2]; omega
              · intro j hj; rw [cut_size b2] at hj; rw [hR6.cell (by omega)]; rfl
              · intro j hj; exact hR6.frozen _
              refine hK.out _ _ ?_
              clear hK K
              refine norm_ (a' := ?_) ?_ ?_
              rotate_left
              · show Act.put _ (some 67) _ = _
                simp only [Act.put, List.setIfInBounds_toArray, List.set_cons_zero, List.set_cons_succ, i64_w, i32_w]
                rfl
              refine done_ (by kernel_rfl) ?_

              have hKB : KpG G Wq (w6.setCells G k1 ((d.extract k2 (k2 + qcn)).data.toList.map fun x => Value.int .u8 (x.toNat : Int))) := (hK.trans ((KpG.of_below hB5).drew.trans (KpG.of_below hB6))).setCells _ _
              have hBB : Below w.heap.size w (w6.setCells G k1 ((d.extract k2 (k2 + qcn)).data.toList.map fun x => Value.int .u8 (x.toNat : Int))) := below_setCells hwG _ _ _ ((hB.drew.trans (hB5.mono hB.size)).trans (hB6.mono (Nat.le_trans hB.size hB5.size)))
              have hRR : (w6.setCells G k1 ((d.extract k2 (k2 + qcn)).data.toList.map fun x => Value.int .u8 (x.toNat : Int))).rowIs G 5 n (bytesV (putAt ox k1 (seg d.data.toList k2 qcn))) := by
                rw [cut_bytes]
                exact row_put hR6 Hlx2.out (by rw [seg_length _ _ _ (by simpa using b2)]; exact b1)
              generalize w6.setCells G k1 ((d.extract k2 (k2 + qcn)).data.toList.map fun x => Value.int .u8 (x.toNat : Int)) = W7 at *
              go_wp2
              go_roundw
              case rel => exact ⟨kx + 1, by omega, by go_num, by rw [Hcs.out]; exact hRR, hKB, hBB⟩
              case measure => simp [intOf]; omega
            · have e : kx = qan := by omega
              subst e
              go_wp2
              go_roundw
              case rel => exact ⟨ky + 1, by omega, by go_num, by rw [Hrs.out]; exact hr, hK, hB⟩
              case measure => simp [intOf]; omega
        · have e : ky = qbn := by omega
          subst e
          have c9 := (hK.same Bq hsq (by omega)).trans hq9
          have p0 : wr.cell? ⟨Bq, 0, none⟩ = some (.int .i64 qan) := by simp [World.cell?, c9]
          have p1 : wr.cell? ⟨Bq, 1, none⟩ = some (.int .i64 ky) := by simp [World.cell?, c9]
          have p2 : wr.cell? ⟨Bq, 2, none⟩ = some (.int .i64 qcn) := by simp [World.cell?, c9]
          have p3 : wr.cell? ⟨Bq, 3, none⟩ = some (.int .i64 qd) := by simp [World.cell?, c9]
          have p4 := hK.cell k1q (by simp; omega)
          generalize hz1e : pSize m ⟨qan, ky, qcn, qd⟩ = z1 at *
          generalize hz2e : pSize m' ⟨qan, ky, qcn, qd⟩ = z2 at *
          have Hze := Lib.hid (And.intro hz1e hz2e)
          have hw1 : IntKind.i64.wrap (fr + z1) = fr + z1 := IntWalk.i64_in _ (by omega)
          have hw2 : IntKind.i64.wrap (tz + z2) = tz + z2 := IntWalk.i64_in _ (by omega)
          have hw3 : wrap64 (fr + z1) = fr + z1 := wrap_in (by omega)
          have hw4 : wrap64 (tz + z2) = tz + z2 := wrap_in (by omega)
          have hKs := Nat.le_trans hKq.size hK.size
          clear hz1e hz2e c9
          go_wp2
          refine start_ (n := 13) (S := fun w' => w'.cell? ⟨Bq, 0, none⟩ = some (.int .i64 qan) ∧ w'.cell? ⟨Bq, 1, none⟩ = some (.int .i64 ky) ∧ w'.cell? ⟨Bq, 2, none⟩ = some (.int .i64 qcn) ∧ w'.cell? ⟨Bq, 3, none⟩ = some (.int .i64 qd) ∧ w'.cell? ⟨w.heap.size, 1, none⟩ = some (.int .i64 m)) (ds := []) #[false, false, false, false, false, false, false, false, false, false, false, false, false] (by kernel_rfl) rfl rfl ⟨p0, p1, p2, p3, p4⟩ (fun hHeld => ?_)
          refine pure_ (i := 0) (N := some 70) (v := ?_) (a' := ?_) #[true, false, false, false, false, false, false, false, false, false, false, false, false] rfl rfl (by kernel_rfl) (fun _ _ _ h => h) (Or.inl ⟨by rfl, ?_⟩) ?_ ?_
          rotate_left
          · intro w'
            go_simp
            with_reducible rfl
          rotate_left
          · simp only [Act.put, List.setIfInBounds_toArray, List.set_cons_zero, List.set_cons_succ, i64_w, i32_w]
            rfl
          refine pure_ (i := 2) (N := some 72) (v := ?_) (a' := ?_) #[true, false, true, false, false, false, false, false, false, false, false, false, false] rfl rfl (by kernel_rfl) (fun _ _ _ h => h) (Or.inl ⟨by rfl, ?_⟩) ?_ ?_
          rotate_left
          · intro w'
            go_simp
            with_reducible rfl
          rotate_left
          · simp only [Act.put, List.setIfInBounds_toArray, List.set_cons_zero, List.set_cons_succ, i64_w, i32_w]
            rfl
          refine pure_ (i := 6) (N := some 76) (v := ?_) (a' := ?_) #[true, false, true, false, false, false, true, false, false, false, false, false, false] rfl rfl (by kernel_rfl) (fun _ _ _ h => h) (Or.inl ⟨by rfl, ?_⟩) ?_ ?_
          rotate_left
          · intro w'
            go_simp
            with_reducible rfl
          rotate_left
          · simp only [Act.put, List.setIfInBounds_toArray, List.set_cons_zero, List.set_cons_succ, i64_w, i32_w]
            rfl
          refine pure_ (i := 8) (N := some 78) (v := ?_) (a' := ?_) #[true, false, true, false, false, false, true, false, true, false, false, false, false] rfl rfl (by kernel_rfl) (fun _ _ _ h => h) (Or.inl ⟨by rfl, ?_⟩) ?_ ?_
          rotate_left
          · intro w'
            go_simp
            with_reducible rfl
          rotate_left
          · simp only [Act.put, List.setIfInBounds_toArray, List.set_cons_zero, List.set_cons_succ, i64_w, i32_w]
            rfl
          refine take_ (i := 1) (N := some 71) (v := ?_) (a' := ?_) #[true, true, true, false, false, false, true, false, true, false, false, false, false] rfl rfl (by kernel_rfl) (fun _ _ _ h => h) (Or.inl ⟨by rfl, ?_⟩) hHeld ?_ ?_
          rotate_left
          · rintro w' ⟨s0, s1, s2, s3, s4⟩
            go_simp
            with_reducible rfl
          rotate_left
          · simp only [Act.put, List.setIfInBounds_toArray, List.set_cons_zero, List.set_cons_succ, i64_w, i32_w]
            rfl
          refine take_ (i := 3) (N := some 73) (v := ?_) (a' := ?_) #[true, true, true, true, false, false, true, false, true, false, false, false, false] rfl rfl (by kernel_rfl) (fun _ _ _ h => h) (Or.inl ⟨by rfl, ?_⟩) hHeld ?_ ?_
          rotate_left
          · rintro w' ⟨s0, s1, s2, s3, s4⟩
            go_simp
            with_reducible rfl
          rotate_left
          · simp only [Act.put, List.setIfInBounds_toArray, List.set_cons_zero, List.set_cons_succ, i64_w, i32_w]
            rfl
          refine take_ (i := 7) (N := some 77) (v := ?_) (a' := ?_) #[true, true, true, true, false, false, true, true, true, false, false, false, false] rfl rfl (by kernel_rfl) (fun _ _ _ h => h) (Or.inl ⟨by rfl, ?_⟩) hHeld ?_ ?_
          rotate_left
          · rintro w' ⟨s0, s1, s2, s3, s4⟩
            go_simp
            with_reducible rfl
          rotate_left
          · simp only [Act.put, List.setIfInBounds_toArray, List.set_cons_zero, List.set_cons_succ, i64_w, i32_w]
            rfl
          refine one_ (i := 4) (N := some 74) #[true, true, true, true, true, false, true, true, true, false, false, false, false] rfl rfl (by kernel_rfl) (by decide) (fun K hK => ?_)
          refine goes_ Try.func132 (by kernel_rfl) rfl #[.agg #[.int .i64 qan, .int .i64 ky, .int .i64 qcn, .int .i64 qd], .int .i64 m] (by rfl) rfl rfl (by simp only [List.map_toArray, List.map_cons, List.map_nil]; rfl) ?_
          with_reducible refine (Hsz1.out _).mono ?_
          rintro e w5 ⟨rfl, hB5⟩
          refine ⟨_, rfl, ?_⟩
          refine hK.out _ _ ⟨pw_cell_below hB5 hHeld.1, pw_cell_below hB5 hHeld.2.1, pw_cell_below hB5 hHeld.2.2.1, pw_cell_below hB5 hHeld.2.2.2.1, pw_cell_below hB5 hHeld.2.2.2.2⟩ (fun hHeld => ?_)
          clear hK K
          refine norm_ (a' := ?_) ?_ ?_
          rotate_left
          · show Act.put _ (some 74) _ = _
            simp only [Act.put, List.setIfInBounds_toArray, List.set_cons_zero, List.set_cons_succ, i64_w, i32_w]
            rfl
          refine pure_ (i := 5) (N := some 75) (v := ?_) (a' := ?_) #[true, true, true, true, true, true, true, true, true, false, false, false, false] rfl rfl (by kernel_rfl) (fun _ _ _ h => h) (Or.inl ⟨by rfl, ?_⟩) ?_ ?_
          rotate_left
          · intro w'
            go_simp
            with_reducible rfl
          rotate_left
          · simp only [Act.put, List.setIfInBounds_toArray, List.set_cons_zero, List.set_cons_succ, i64_w, i32_w]
            rfl
          refine one_ (i := 9) (N := some 79) #[true, true, true, true, true, true, true, true, true, true, false, false, false] rfl rfl (by kernel_rfl) (by decide) (fun K hK => ?_)
          refine goes_ Try.func132 (by kernel_rfl) rfl #[.agg #[.int .i64 qan, .int .i64 ky, .int .i64 qcn, .int .i64 qd], .int .i64 m'] (by rfl) rfl rfl (by simp only [List.map_toArray, List.map_cons, List.map_nil]; rfl) ?_
          with_reducible refine (Hsz2.out _).mono ?_
          rintro e w6 ⟨rfl, hB6⟩
          refine ⟨_, rfl, ?_⟩
          refine hK.out _ _ ⟨pw_cell_below hB6 hHeld.1, pw_cell_below hB6 hHeld.2.1, pw_cell_below hB6 hHeld.2.2.1, pw_cell_below hB6 hHeld.2.2.2.1, pw_cell_below hB6 hHeld.2.2.2.2⟩ (fun hHeld => ?_)
          clear hK K
          refine norm_ (a' := ?_) ?_ ?_
          rotate_left
          · show Act.put _ (some 79) _ = _
            simp only [Act.put, List.setIfInBounds_toArray, List.set_cons_zero, List.set_cons_succ, i64_w, i32_w]
            rfl
          refine pure_ (i := 10) (N := some 80) (v := ?_) (a' := ?_) #[true, true, true, true, true, true, true, true, true, true, true, false, false] rfl rfl (by kernel_rfl) (fun _ _ _ h => h) (Or.inl ⟨by rfl, ?_⟩) ?_ ?_
          rotate_left
          · intro w'
            go_simp
            with_reducible rfl
          rotate_left
          · simp only [Act.put, List.setIfInBounds_toArray, List.set_cons_zero, List.set_cons_succ, i64_w, i32_w]
            rfl
          refine pure_ (i := 11) (N := some 6) (v := ?_) (a' := ?_) #[true, true, true, true, true, true, true, true, true, true, true, true, false] rfl rfl (by kernel_rfl) (fun _ _ _ h => h) (Or.inl ⟨by rfl, ?_⟩) ?_ ?_
          rotate_left
          · intro w'
            go_simp
            with_reducible rfl
          rotate_left
          · simp only [Act.put, List.setIfInBounds_toArray, List.set_cons_zero, List.set_cons_succ, i64_w, i32_w]
            rfl
          refine pure_ (i := 12) (N := some 7) (v := ?_) (a' := ?_) #[true, true, true, true, true, true, true, true, true, true, true, true, true] rfl rfl (by kernel_rfl) (fun _ _ _ h => h) (Or.inl ⟨by rfl, ?_⟩) ?_ ?_
          rotate_left
          · intro w'
            go_simp
            with_reducible rfl
          rotate_left
          · simp only [Act.put, List.setIfInBounds_toArray, List.set_cons_zero, List.set_cons_succ, i64_w, i32_w]
            rfl
          refine done_ (by kernel_rfl) ?_

          have hR6 := row_below (row_below hr.drew hB5 (Nat.lt_of_lt_of_le hG4 hKs)) hB6 (Nat.lt_of_lt_of_le hG4 (Nat.le_trans hKs hB5.size))
          have hKB : KpG G w4 w6 := hKq.trans (hK.trans ((KpG.of_below hB5).drew.trans (KpG.of_below hB6)))
          have hBB : Below w.heap.size w w6 := (hB.drew.trans (hB5.mono hB.size)).trans (hB6.mono (Nat.le_trans hB.size hB5.size))
          clear hr hK hB hHeld
          go_wp2
          go_roundw
          case rel => exact ⟨j + 1, by omega, by go_num, by rw [Hsd.out], by rw [Hsd.out], by rw [Hsd.out]; unfold turnPlane; dsimp only; rw [Int.toNat_natCast]; exact hR6, hKB, hBB⟩
          case measure => simp [intOf]; omega
    · have e : j = N := by omega
      subst e
      have hfin : turnUpto d.data.toList m m' ps n j = turnUpto d.data.toList m m' ps n 3 := by
        unfold turnUpto
        rw [List.take_of_length_le (by rw [← HN.out]; exact Nat.le_refl _), List.take_of_length_le hpl.2]
      have hlen : (turnUpto d.data.toList m m' ps n 3).out.length = n := by
        rw [← hfin]
        exact turnUpto_length Hok.out hm hm' (by rw [← Hd.out]; simp) (by rw [Hn.out]; exact Int.le_refl _) j (by rw [HN.out]; exact Nat.le_refl _)
      rw [hfin] at hr
      generalize hst : turnUpto d.data.toList m m' ps n 3 = st at *
      obtain ⟨fr, tz, out⟩ := st
      have Hst := Lib.hid hst
      clear hst
      dsimp only at hr hlen
      have hgp := (hK.same w.heap.size (by omega) (by omega)).trans hg0
      have hgr := (hK.same (w.heap.size + 1) (by omega) (by omega)).trans hg1
      have pc1 : wr.cell? ⟨w.heap.size, 1, none⟩ = some (.int .i64 m) := by simp [World.cell?, hgp]
      have pc4 : wr.cell? ⟨w.heap.size, 4, none⟩ = some (.string d) := by simp [World.cell?, hgp]
      have pf1 : wr.frozen? ⟨w.heap.size, 1, none⟩ = false := by simp [World.frozen?, hgp]
      have pf4 : wr.frozen? ⟨w.heap.size, 4, none⟩ = false := by simp [World.frozen?, hgp]
      have hcv : ∀ W : World, W.rowIs G 5 n (bytesV out) → (convert 103 9 (.slice (some ⟨G, 0, none⟩) n n)).run Try.prog W = .ok (.string ⟨out.toArray⟩) W := by
        intro W hW
        have := run_convert_bytes_back (P := Try.prog) W 103 9 5 ⟨G, 0, none⟩ n out Try.underlying103 Try.underlying5 Try.underlying9 (fun j hj => by
          have hc := hW.cell (i := j) (by omega)
          have e : (⟨G, 0, none⟩ : Addr).add j = ⟨G, j, none⟩ := by cases j <;> simp [Addr.add]
          rw [e, hc]
          simp only [bytesV, List.getElem?_eq_getElem hj, Option.getD_some])
        rw [hlen] at this
        exact this
      have hGp : ¬ G = w.heap.size := by omega
      have Hlen := Lib.hid hlen
      have Hgp := Lib.hid hgp
      have Hgr := Lib.hid hgr
      clear hlen hgp hgr hg0 hg1
      go_wp2
      refine start_ (n := 7) (S := fun w' => w'.rowIs G 5 n (bytesV out)) (ds := []) #[false, false, false, false, false, false, false] (by kernel_rfl) rfl rfl (hr.drew) (fun hHeld => ?_)
      refine pure_ (i := 0) (N := some 82) (v := ?_) (a' := ?_) #[true, false, false, false, false, false, false] rfl rfl (by kernel_rfl) (fun _ _ _ h => h) (Or.inl ⟨by rfl, ?_⟩) ?_ ?_
      rotate_left
      · intro w'
        go_simp
        with_reducible rfl
      rotate_left
      · simp only [Act.put, List.setIfInBounds_toArray, List.set_cons_zero, List.set_cons_succ, i64_w, i32_w]
        rfl
      refine pure_ (i := 1) (N := some 83) (v := ?_) (a' := ?_) #[true, true, false, false, false, false, false] rfl rfl (by kernel_rfl) (fun _ _ _ h => h) (Or.inl ⟨by rfl, ?_⟩) ?_ ?_
      rotate_left
      · intro w'
        go_simp
        with_reducible rfl
      rotate_left
      · simp only [Act.put, List.setIfInBounds_toArray, List.set_cons_zero, List.set_cons_succ, i64_w, i32_w]
        rfl
      refine pure_ (i := 3) (N := some 85) (v := ?_) (a' := ?_) #[true, true, false, true, false, false, false] rfl rfl (by kernel_rfl) (fun _ _ _ h => h) (Or.inl ⟨by rfl, ?_⟩) ?_ ?_
      rotate_left
      · intro w'
        go_simp
        with_reducible rfl
      rotate_left
      · simp only [Act.put, List.setIfInBounds_toArray, List.set_cons_zero, List.set_cons_succ, i64_w, i32_w]
        rfl
      refine take_ (i := 2) (N := some 84) (v := ?_) (a' := ?_) #[true, true, true, true, false, false, false] rfl rfl (by kernel_rfl) (fun _ _ _ h => h) (Or.inl ⟨by rfl, ?_⟩) hHeld ?_ ?_
      rotate_left
      · intro w' s0
        go_simp
        with_reducible rfl
      rotate_left
      · simp only [Act.put, List.setIfInBounds_toArray, List.set_cons_zero, List.set_cons_succ, i64_w, i32_w]
        rfl
      refine one_ (i := 4) (N := none) #[true, true, true, true, true, false, false] rfl rfl (by kernel_rfl) (by decide) (fun K hK => ?_)
      refine skip_ (w1 := ?_) (by rfl) rfl ?_ ?_
      rotate_left
      · go_simp
        rfl
      refine hK.out _ _ (hHeld.setOther hGp _) (fun hHeld => ?_)
      clear hK K
      refine pure_ (i := 5) (N := some 86) (v := ?_) (a' := ?_) #[true, true, true, true, true, true, false] rfl rfl (by kernel_rfl) (fun _ _ _ h => h) (Or.inl ⟨by rfl, ?_⟩) ?_ ?_
      rotate_left
      · intro w'
        go_simp
        with_reducible rfl
      rotate_left
      · simp only [Act.put, List.setIfInBounds_toArray, List.set_cons_zero, List.set_cons_succ, i64_w, i32_w]
        rfl
      refine one_ (i := 6) (N := none) #[true, true, true, true, true, true, true] rfl rfl (by kernel_rfl) (by decide) (fun K hK => ?_)
      refine skip_ (w1 := ?_) (by rfl) rfl ?_ ?_
      rotate_left
      · go_simp
        rfl
      refine hK.out _ _ (hHeld.setOther hGp _) (fun hHeld => ?_)
      clear hK K
      refine done_ (by kernel_rfl) ?_

      have hE : Below w.heap.size w ((wr.setCell ⟨w.heap.size, 1, none⟩ (.int .i64 m')).setCell ⟨w.heap.size, 4, none⟩ (.string ⟨out.toArray⟩)).drew := ((hB.setCell (Nat.le_refl _) _).setCell (Nat.le_refl _) _).drew
      have hz : ((wr.setCell ⟨w.heap.size, 1, none⟩ (.int .i64 m')).setCell ⟨w.heap.size, 4, none⟩ (.string ⟨out.toArray⟩)).drew.heap[w.heap.size]? = some (.cells #[.int .i64 f, .int .i64 m', .int .i64 x, .int .i64 y, .string ⟨out.toArray⟩] 49 (0, 0)) := by
        refine blk_drew ?_
        refine blk_put (cs := #[.int .i64 f, .int .i64 m', .int .i64 x, .int .i64 y, .string d]) ?_ 4 _ rfl
        refine blk_put (cs := #[.int .i64 f, .int .i64 m, .int .i64 x, .int .i64 y, .string d]) ?_ 1 _ rfl
        exact Hgp.out
      have hz1 : ((wr.setCell ⟨w.heap.size, 1, none⟩ (.int .i64 m')).setCell ⟨w.heap.size, 4, none⟩ (.string ⟨out.toArray⟩)).drew.heap[w.heap.size + 1]? = some (.cells #[.int .i64 0, .int .i64 0, .int .i64 0, .int .i64 0, .string ⟨#[]⟩] 49 (0, 0)) := by
        refine blk_drew ?_
        rw [Deep.blk_setCell_other _ _ _ _ (by simp), Deep.blk_setCell_other _ _ _ _ (by simp)]
        exact Hgr.out
      generalize ((wr.setCell ⟨w.heap.size, 1, none⟩ (.int .i64 m')).setCell ⟨w.heap.size, 4, none⟩ (.string ⟨out.toArray⟩)).drew = WE at *
      have r0 : WE.cell? ⟨w.heap.size, 0, none⟩ = some (.int .i64 f) := by simp [World.cell?, hz]
      have r1 : WE.cell? ⟨w.heap.size, 1, none⟩ = some (.int .i64 m') := by simp [World.cell?, hz]
      have r2 : WE.cell? ⟨w.heap.size, 2, none⟩ = some (.int .i64 x) := by simp [World.cell?, hz]
      have r3 : WE.cell? ⟨w.heap.size, 3, none⟩ = some (.int .i64 y) := by simp [World.cell?, hz]
      have r4 : WE.cell? ⟨w.heap.size, 4, none⟩ = some (.string ⟨out.toArray⟩) := by simp [World.cell?, hz]
      have d0 : WE.cell? ⟨w.heap.size + 1, 0, none⟩ = some (.int .i64 0) := by simp [World.cell?, hz1]
      have d1 : WE.cell? ⟨w.heap.size + 1, 1, none⟩ = some (.int .i64 0) := by simp [World.cell?, hz1]
      have d2 : WE.cell? ⟨w.heap.size + 1, 2, none⟩ = some (.int .i64 0) := by simp [World.cell?, hz1]
      have d3 : WE.cell? ⟨w.heap.size + 1, 3, none⟩ = some (.int .i64 0) := by simp [World.cell?, hz1]
      have d4 : WE.cell? ⟨w.heap.size + 1, 4, none⟩ = some (.string ⟨#[]⟩) := by simp [World.cell?, hz1]
      have f0 : ∀ o, WE.frozen? ⟨w.heap.size + 1, o, none⟩ = false := by intro o; simp [World.frozen?, hz1]
      have Hz1 := Lib.hid hz1
      clear hz hz1 pc1 pc4 pf1 pf4 hHeld hr hcv hK hB
      go_wp2
      refine bodyPost_ret (results_cell_row rfl _ _ (w.heap.size + 1) 49 #[.int .i64 f, .int .i64 m', .int .i64 x, .int .i64 y, .string ⟨out.toArray⟩] (0, 0) _ rfl ?_ Try.underlying49 rfl (by kernel_rfl)) rfl ⟨?_, ?_⟩
      · refine blk_put (cs := #[.int .i64 f, .int .i64 m', .int .i64 x, .int .i64 y, .string ⟨#[]⟩]) ?_ 4 _ rfl
        refine blk_put (cs := #[.int .i64 f, .int .i64 m', .int .i64 x, .int .i64 0, .string ⟨#[]⟩]) ?_ 3 _ rfl
        refine blk_put (cs := #[.int .i64 f, .int .i64 m', .int .i64 0, .int .i64 0, .string ⟨#[]⟩]) ?_ 2 _ rfl
        refine blk_put (cs := #[.int .i64 f, .int .i64 0, .int .i64 0, .int .i64 0, .string ⟨#[]⟩]) ?_ 1 _ rfl
        refine blk_put (cs := #[.int .i64 0, .int .i64 0, .int .i64 0, .int .i64 0, .string ⟨#[]⟩]) ?_ 0 _ rfl
        exact Hz1.out
      · rw [Hst.out]
      · exact ((((hE.setCell (by simp) _).setCell (by simp) _).setCell (by simp) _).setCell (by simp) _).setCell (by simp) _
end Go.Proofs.Ytenaegjiggodkaa.PV

/- The contracts of video's size and turned, in the form that the printed texts take. -/
namespace Go.Proofs.Ytenaegjiggodkaa.PV
open Go.RowKit Go.Proofs.YtenaegjiggodkaaW.PrintWords Go.Proofs.YtenaegjiggodkaaW.PrintLast Go.Proofs.YtenaegjiggodkaaW.PrintMore
set_option linter.unusedVariables false
instance (m : Int) : Decidable (okM m) := by unfold okM; infer_instance
instance (f m w h : Int) : Decidable (okF f m w h) := by unfold okF; infer_instance
def video_size.f (a0 a1 a2 a3 : Int) : Option Int := if okF a0 a1 a2 a3 then some (sizeL a0 a1 a2 a3) else none
def video_turned.f (a0_0 a0_1 a0_2 a0_3 : Int) (a0_4 : ByteArray) (a1 : Int) : Option (Int × Int × Int × Int × ByteArray) :=
  if okF a0_0 a0_1 a0_2 a0_3 ∧ okM a1 ∧ (a0_4.size : Int) = sizeL a0_0 a0_1 a0_2 a0_3 then some (a0_0, a1, a0_2, a0_3, ⟨(turnedL a0_4.data.toList a0_0 a0_1 a1 a0_2 a0_3).toArray⟩) else none
theorem video_size.calls (a0 a1 a2 a3 : Int) (r : Int) (w : World) (h : video_size.f a0 a1 a2 a3 = some r) :
    Calls Try.prog 84 #[.int .i64 a0, .int .i64 a1, .int .i64 a2, .int .i64 a3] w fun e w' => e = .returned (.int .i64 r) ∧ Below w.heap.size w w' := by
  unfold video_size.f at h
  split at h
  · rename_i ok
    obtain rfl := Option.some.inj h
    exact size84 a0 a1 a2 a3 ok w
  · cases h
theorem video_turned.calls (a0_0 a0_1 a0_2 a0_3 : Int) (a0_4 : ByteArray) (a1 : Int) (r1 r2 r3 r4 : Int) (r5 : ByteArray) (w : World) (h : video_turned.f a0_0 a0_1 a0_2 a0_3 a0_4 a1 = some (r1, r2, r3, r4, r5)) :
    Calls Try.prog 87 #[.agg #[.int .i64 a0_0, .int .i64 a0_1, .int .i64 a0_2, .int .i64 a0_3, .string a0_4], .int .i64 a1] w fun e w' => e = .returned (.agg #[.int .i64 r1, .int .i64 r2, .int .i64 r3, .int .i64 r4, .string r5]) ∧ Below w.heap.size w w' := by
  unfold video_turned.f at h
  split at h
  · rename_i ok
    injection h with h
    injection h with e1 h
    injection h with e2 h
    injection h with e3 h
    injection h with e4 e5
    subst e1; subst e2; subst e3; subst e4; subst e5
    exact turned87 a0_0 a0_1 a0_2 a0_3 a1 a0_4 ok.1 ok.2.1 ok.2.2 w
  · cases h
end Go.Proofs.Ytenaegjiggodkaa.PV
