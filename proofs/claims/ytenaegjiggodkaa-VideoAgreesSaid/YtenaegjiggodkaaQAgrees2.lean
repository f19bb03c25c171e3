/- Part 2 of the proof of VideoAgrees: contracts of the functions that the law reaches, and plain facts. -/
import Derived.Test.YtenaegjiggodkaaQAgrees0
import Derived.Test.YtenaegjiggodkaaQAgrees1
import Derived.Outline
import Derived.Lib.Hide
import Derived.Lib.LazyBuf
import Derived.Laws.IdiomStrings
import Derived.RangeFuncNested
import Derived.RangeFuncBound
import Derived.RangeFuncLeaves
import Derived.Deep.Quiet
import Derived.OrdersIn
import Derived.OwnWalkIn
import Derived.TacticsInMore
import Derived.LoopNIn
import Derived.LoopIn
import Derived.Shelf.Abstract
import Derived.WalkKit

/- The plain functions of video's planes: sizes, places, pictures turned; no program in sight. -/
namespace Go.Proofs.Ytenaegjiggodkaa.PV
set_option linter.unusedVariables false
set_option linter.unusedSimpArgs false

def halfQ (w h : Int) : S43 := ⟨(w + 1) / 2, (h + 1) / 2, 1, 2⟩
def planesL (f w h : Int) : List S43 := if f = 4 then [⟨w, h, 1, 1⟩, halfQ w h, halfQ w h] else [⟨w, h, if f = 1 then 1 else if f = 2 then 3 else 4, 1⟩]
def pSize (m : Int) (q : S43) : Int := if m = 0 then q.f0 * q.f1 * q.f2 else (q.f0 + 3) / 4 * ((q.f1 + 3) / 4) * 16 * q.f2
def pAt (m : Int) (q : S43) (x y : Int) : Int := if m = 0 then (y * q.f0 + x) * q.f2 else ((y / 4 * ((q.f0 + 3) / 4) + x / 4) * 16 + y % 4 * 4 + x % 4) * q.f2
def okP (q : S43) : Prop := (1 ≤ q.f0 ∧ q.f0 ≤ 64) ∧ (1 ≤ q.f1 ∧ q.f1 ≤ 64) ∧ (1 ≤ q.f2 ∧ q.f2 ≤ 4) ∧ (1 ≤ q.f3 ∧ q.f3 ≤ 2)
def okM (m : Int) : Prop := m = 0 ∨ m = 1
/-- A picture's numbers are right. -/
def okF (f m w h : Int) : Prop := (1 ≤ f ∧ f ≤ 4) ∧ okM m ∧ (1 ≤ w ∧ w ≤ 64) ∧ (1 ≤ h ∧ h ≤ 64)
def sumL : List Int → Int
  | [] => 0
  | a :: t => a + sumL t
theorem sumL_append (a b : List Int) : sumL (a ++ b) = sumL a + sumL b := by
  induction a with
  | nil => simp [sumL]
  | cons x t ih => simp only [List.cons_append, sumL, ih]; omega
def sizeL (f m w h : Int) : Int := sumL ((planesL f w h).map (pSize m))
theorem planes_ok {f w h : Int} (hf : 1 ≤ f ∧ f ≤ 4) (hw : 1 ≤ w ∧ w ≤ 64) (hh : 1 ≤ h ∧ h ≤ 64) : ∀ q ∈ planesL f w h, okP q := by
  intro q hq
  unfold planesL at hq
  split at hq
  · simp at hq
    rcases hq with rfl | rfl
    · unfold okP; dsimp only; omega
    · unfold okP halfQ; dsimp only; omega
  · simp at hq
    subst hq
    unfold okP
    dsimp only
    split
    · omega
    · split <;> omega
theorem planes_length (f w h : Int) : 1 ≤ (planesL f w h).length ∧ (planesL f w h).length ≤ 3 := by unfold planesL; split <;> simp
theorem mul_bd {a b A B : Int} (ha : 0 ≤ a) (hb : 0 ≤ b) (hA : a ≤ A) (hB : b ≤ B) : 0 ≤ a * b ∧ a * b ≤ A * B :=
  ⟨Int.mul_nonneg ha hb, Int.mul_le_mul hA hB hb (Int.le_trans ha hA)⟩
theorem pSize_bd {q : S43} (h : okP q) {m : Int} (hm : okM m) : 0 < pSize m q ∧ pSize m q ≤ 16384 := by
  obtain ⟨⟨a1, a2⟩, ⟨b1, b2⟩, ⟨c1, c2⟩, _⟩ := h
  unfold pSize
  split
  · have h1 := mul_bd (by omega : (0 : Int) ≤ q.f0) (by omega : (0 : Int) ≤ q.f1) a2 b2
    have h2 := mul_bd h1.1 (by omega : (0 : Int) ≤ q.f2) h1.2 c2
    have h3 : 0 < q.f0 * q.f1 * q.f2 := Int.mul_pos (Int.mul_pos (by omega) (by omega)) (by omega)
    omega
  · have h1 := mul_bd (by omega : (0 : Int) ≤ (q.f0 + 3) / 4) (by omega : (0 : Int) ≤ (q.f1 + 3) / 4) (by omega : (q.f0 + 3) / 4 ≤ 16) (by omega : (q.f1 + 3) / 4 ≤ 16)
    have h2 := mul_bd (by omega : (0 : Int) ≤ (q.f0 + 3) / 4 * ((q.f1 + 3) / 4) * 16) (by omega : (0 : Int) ≤ q.f2) (by omega : (q.f0 + 3) / 4 * ((q.f1 + 3) / 4) * 16 ≤ 16 * 16 * 16) c2
    have h3 : 0 < (q.f0 + 3) / 4 * ((q.f1 + 3) / 4) * 16 * q.f2 := Int.mul_pos (Int.mul_pos (Int.mul_pos (by omega) (by omega)) (by omega)) (by omega)
    omega
theorem idx0_bd {q : S43} (h : okP q) {x y : Int} (hx : 0 ≤ x ∧ x < q.f0) (hy : 0 ≤ y ∧ y < q.f1) : 0 ≤ y * q.f0 + x ∧ y * q.f0 + x + 1 ≤ q.f0 * q.f1 := by
  have h1 : 0 ≤ y * q.f0 := Int.mul_nonneg hy.1 (by omega)
  have h2 : (y + 1) * q.f0 ≤ q.f1 * q.f0 := Int.mul_le_mul_of_nonneg_right (by omega) (by omega)
  rw [Int.add_mul, Int.one_mul] at h2
  rw [Int.mul_comm q.f0 q.f1]
  omega
theorem idx1_bd {q : S43} (h : okP q) {x y : Int} (hx : 0 ≤ x ∧ x < q.f0) (hy : 0 ≤ y ∧ y < q.f1) : 0 ≤ (y / 4 * ((q.f0 + 3) / 4) + x / 4) * 16 + y % 4 * 4 + x % 4 ∧ (y / 4 * ((q.f0 + 3) / 4) + x / 4) * 16 + y % 4 * 4 + x % 4 + 1 ≤ (q.f0 + 3) / 4 * ((q.f1 + 3) / 4) * 16 := by
  have h1 : 0 ≤ y / 4 * ((q.f0 + 3) / 4) := Int.mul_nonneg (by omega) (by omega)
  have h2 : (y / 4 + 1) * ((q.f0 + 3) / 4) ≤ (q.f1 + 3) / 4 * ((q.f0 + 3) / 4) := Int.mul_le_mul_of_nonneg_right (by omega) (by omega)
  rw [Int.add_mul, Int.one_mul] at h2
  rw [Int.mul_comm ((q.f0 + 3) / 4) ((q.f1 + 3) / 4)]
  omega
/-- The place of a point among those of a plane. -/
def pIdx (m : Int) (q : S43) (x y : Int) : Int := if m = 0 then y * q.f0 + x else (y / 4 * ((q.f0 + 3) / 4) + x / 4) * 16 + y % 4 * 4 + x % 4
def pPts (m : Int) (q : S43) : Int := if m = 0 then q.f0 * q.f1 else (q.f0 + 3) / 4 * ((q.f1 + 3) / 4) * 16
theorem pAt_idx (m : Int) (q : S43) (x y : Int) : pAt m q x y = pIdx m q x y * q.f2 := by unfold pAt pIdx; split <;> rfl
theorem pSize_pts (m : Int) (q : S43) : pSize m q = pPts m q * q.f2 := by unfold pSize pPts; split <;> rfl
theorem pIdx_bd {q : S43} (h : okP q) (m : Int) {x y : Int} (hx : 0 ≤ x ∧ x < q.f0) (hy : 0 ≤ y ∧ y < q.f1) : 0 ≤ pIdx m q x y ∧ pIdx m q x y + 1 ≤ pPts m q := by
  unfold pIdx pPts
  split
  · exact idx0_bd h hx hy
  · exact idx1_bd h hx hy
theorem pAt_bd {q : S43} (h : okP q) (m : Int) {x y : Int} (hx : 0 ≤ x ∧ x < q.f0) (hy : 0 ≤ y ∧ y < q.f1) : 0 ≤ pAt m q x y ∧ pAt m q x y + q.f2 ≤ pSize m q := by
  obtain ⟨h1, h2⟩ := pIdx_bd h m hx hy
  obtain ⟨_, _, ⟨c1, c2⟩, _⟩ := h
  rw [pAt_idx, pSize_pts]
  have h3 := Int.mul_nonneg h1 (by omega : (0 : Int) ≤ q.f2)
  have h4 : (pIdx m q x y + 1) * q.f2 ≤ pPts m q * q.f2 := Int.mul_le_mul_of_nonneg_right h2 (by omega)
  rw [Int.add_mul, Int.one_mul] at h4
  omega
theorem idx0_inj {w x y x' y' : Int} (hx : 0 ≤ x ∧ x < w) (hx' : 0 ≤ x' ∧ x' < w) (h : y * w + x = y' * w + x') : x = x' ∧ y = y' := by
  have e1 : (y * w + x) / w = y := by rw [Int.add_comm, Int.add_mul_ediv_right _ _ (by omega), Int.ediv_eq_zero_of_lt hx.1 hx.2, Int.zero_add]
  have e2 : (y' * w + x') / w = y' := by rw [Int.add_comm, Int.add_mul_ediv_right _ _ (by omega), Int.ediv_eq_zero_of_lt hx'.1 hx'.2, Int.zero_add]
  have e3 : y = y' := by rw [← e1, ← e2, h]
  subst e3
  exact ⟨by omega, rfl⟩
theorem pIdx_inj {q : S43} (hq : okP q) (m : Int) {x y x' y' : Int} (hx : 0 ≤ x ∧ x < q.f0) (hx' : 0 ≤ x' ∧ x' < q.f0) (hy : 0 ≤ y ∧ y < q.f1) (hy' : 0 ≤ y' ∧ y' < q.f1) (h : pIdx m q x y = pIdx m q x' y') : x = x' ∧ y = y' := by
  unfold pIdx at h
  split at h
  · exact idx0_inj hx hx' h
  · have h0 : y / 4 * ((q.f0 + 3) / 4) + x / 4 = y' / 4 * ((q.f0 + 3) / 4) + x' / 4 := by omega
    have h1 := idx0_inj (w := (q.f0 + 3) / 4) (x := x / 4) (x' := x' / 4) (by omega) (by omega) h0
    omega

/-- Bytes put into a list from a place on; a piece of a list. -/
def putAt (out : List UInt8) (k : Nat) (bs : List UInt8) : List UInt8 := out.take k ++ bs ++ out.drop (k + bs.length)
def seg (d : List UInt8) (k n : Nat) : List UInt8 := (d.drop k).take n
theorem putAt_length (out : List UInt8) (k : Nat) (bs : List UInt8) (h : k + bs.length ≤ out.length) : (putAt out k bs).length = out.length := by
  unfold putAt; simp; omega
theorem putAt_get (out : List UInt8) (k : Nat) (bs : List UInt8) (h : k + bs.length ≤ out.length) (i : Nat) : (putAt out k bs)[i]? = if k ≤ i ∧ i < k + bs.length then bs[i - k]? else out[i]? := by
  unfold putAt
  have hl : (out.take k).length = k := by rw [List.length_take]; omega
  by_cases h1 : i < k
  · rw [List.append_assoc, List.getElem?_append_left (by omega), List.getElem?_take_of_lt h1, if_neg (by omega)]
  · by_cases h2 : i < k + bs.length
    · rw [List.append_assoc, List.getElem?_append_right (by omega), hl, List.getElem?_append_left (by omega), if_pos (by omega)]
    · rw [List.getElem?_append_right (by simp; omega), if_neg (by omega), List.getElem?_drop]
      congr 1
      simp
      omega
theorem seg_length (d : List UInt8) (k n : Nat) (h : k + n ≤ d.length) : (seg d k n).length = n := by unfold seg; simp; omega
def turnCell (d : List UInt8) (m m' : Int) (q : S43) (fr tz : Int) (y : Nat) (out : List UInt8) (x : Nat) : List UInt8 := putAt out (tz + pAt m' q x y).toNat (seg d (fr + pAt m q x y).toNat q.f2.toNat)
def turnRow (d : List UInt8) (m m' : Int) (q : S43) (fr tz : Int) (out : List UInt8) (y : Nat) : List UInt8 := (List.range q.f0.toNat).foldl (turnCell d m m' q fr tz y) out
def turnPlane (d : List UInt8) (m m' : Int) (q : S43) (fr tz : Int) (out : List UInt8) : List UInt8 := (List.range q.f1.toNat).foldl (turnRow d m m' q fr tz) out
structure TSt where
  fr : Int
  tz : Int
  out : List UInt8
def turnStep (d : List UInt8) (m m' : Int) (s : TSt) (q : S43) : TSt := ⟨s.fr + pSize m q, s.tz + pSize m' q, turnPlane d m m' q s.fr s.tz s.out⟩
def turnUpto (d : List UInt8) (m m' : Int) (l : List S43) (n : Nat) (j : Nat) : TSt := (l.take j).foldl (turnStep d m m') ⟨0, 0, List.replicate n 0⟩
/-- The bytes of a picture under another modifier. -/
def turnedL (d : List UInt8) (f m m' w h : Int) : List UInt8 := (turnUpto d m m' (planesL f w h) (sizeL f m' w h).toNat 3).out
theorem turnUpto_succ (d : List UInt8) (m m' : Int) (l : List S43) (n j : Nat) (h : j < l.length) : turnUpto d m m' l n (j + 1) = turnStep d m m' (turnUpto d m m' l n j) (rd_T43 l j) := by
  unfold turnUpto
  rw [List.take_succ_eq_append_getElem h, List.foldl_append]
  simp only [List.foldl_cons, List.foldl_nil]
  congr 1
  unfold rd_T43
  simp [List.getD_eq_getElem?_getD, List.getElem?_eq_getElem h]
theorem turnUpto_fr (d : List UInt8) (m m' : Int) (l : List S43) (n j : Nat) : (turnUpto d m m' l n j).fr = sumL ((l.take j).map (pSize m)) ∧ (turnUpto d m m' l n j).tz = sumL ((l.take j).map (pSize m')) := by
  have : ∀ (l : List S43) (s : TSt), (l.foldl (turnStep d m m') s).fr = s.fr + sumL (l.map (pSize m)) ∧ (l.foldl (turnStep d m m') s).tz = s.tz + sumL (l.map (pSize m')) := by
    intro l
    induction l with
    | nil => intro s; simp [sumL]
    | cons q t ih =>
      intro s
      obtain ⟨h1, h2⟩ := ih (turnStep d m m' s q)
      simp only [List.foldl_cons, List.map_cons, sumL]
      rw [h1, h2]
      unfold turnStep
      dsimp only
      omega
  obtain ⟨h1, h2⟩ := this (l.take j) ⟨0, 0, List.replicate n 0⟩
  unfold turnUpto
  rw [h1, h2]
  simp
theorem sumL_nonneg (l : List Int) (h : ∀ a ∈ l, 0 ≤ a) : 0 ≤ sumL l := by
  induction l with
  | nil => exact Int.le_refl _
  | cons a t ih =>
    have h1 := h a (by simp)
    have h2 := ih (fun b hb => h b (by simp [hb]))
    simp only [sumL]; omega
/-- The planes before the j-th one, and the j-th one, lie within all. -/
theorem sumL_take (l : List S43) (g : S43 → Int) (hg : ∀ q ∈ l, 0 ≤ g q) (j : Nat) (h : j < l.length) : 0 ≤ sumL ((l.take j).map g) ∧ sumL ((l.take j).map g) + g (rd_T43 l j) ≤ sumL (l.map g) := by
  have e1 : rd_T43 l j = l[j] := by unfold rd_T43; simp [List.getD_eq_getElem?_getD, List.getElem?_eq_getElem h]
  have e2 : l.map g = (l.take j).map g ++ (g l[j] :: (l.drop (j + 1)).map g) := by
    conv => lhs; rw [← List.take_append_drop j l, List.drop_eq_getElem_cons h, List.map_append, List.map_cons]
  refine ⟨sumL_nonneg _ (fun a ha => ?_), ?_⟩
  · obtain ⟨q, hq, rfl⟩ := List.mem_map.1 ha
    exact hg q (List.mem_of_mem_take hq)
  · rw [e1, e2, sumL_append, sumL]
    have := sumL_nonneg ((l.drop (j + 1)).map g) (fun a ha => by
      obtain ⟨q, hq, rfl⟩ := List.mem_map.1 ha
      exact hg q (List.mem_of_mem_drop hq))
    omega
theorem sizeL_bd {f m w h : Int} (ok : okF f m w h) : 0 < sizeL f m w h ∧ sizeL f m w h ≤ 50000 := by
  obtain ⟨hf, hm, hw, hh⟩ := ok
  have hq := planes_ok hf hw hh
  unfold sizeL
  unfold planesL at hq ⊢
  split
  · rename_i e
    rw [if_pos e] at hq
    have h1 := pSize_bd (hq _ (List.mem_cons_self ..)) hm
    have h2 := pSize_bd (hq (halfQ w h) (by simp)) hm
    simp only [List.map_cons, List.map_nil, sumL]; omega
  · rename_i e
    rw [if_neg e] at hq
    have h1 := pSize_bd (hq _ (List.mem_cons_self ..)) hm
    simp only [List.map_cons, List.map_nil, sumL]; omega

theorem turnRow_length {d : List UInt8} {m m' : Int} {q : S43} (hq : okP q) {fr tz : Int} (hf : 0 ≤ fr) (ht : 0 ≤ tz) (hfd : fr + pSize m q ≤ d.length) {N : Nat} (htN : tz + pSize m' q ≤ N) {y : Nat} (hy : (y : Int) < q.f1) :
    ∀ (xs : List Nat), (∀ x ∈ xs, (x : Int) < q.f0) → ∀ out : List UInt8, out.length = N → (xs.foldl (turnCell d m m' q fr tz y) out).length = N
  | [], _, out, h => h
  | x :: t, hx, out, h => by
    have b1 := pAt_bd hq m (x := x) (y := y) ⟨by omega, hx x (by simp)⟩ ⟨by omega, hy⟩
    have b2 := pAt_bd hq m' (x := x) (y := y) ⟨by omega, hx x (by simp)⟩ ⟨by omega, hy⟩
    refine turnRow_length hq hf ht hfd htN hy t (fun z hz => hx z (by simp [hz])) _ ?_
    unfold turnCell
    obtain ⟨_, _, ⟨c1, c2⟩, _⟩ := hq
    rw [putAt_length, h]
    rw [seg_length _ _ _ (by omega)]
    omega
theorem turnPlane_length {d : List UInt8} {m m' : Int} {q : S43} (hq : okP q) {fr tz : Int} (hf : 0 ≤ fr) (ht : 0 ≤ tz) (hfd : fr + pSize m q ≤ d.length) {N : Nat} (htN : tz + pSize m' q ≤ N) :
    ∀ (ys : List Nat), (∀ y ∈ ys, (y : Int) < q.f1) → ∀ out : List UInt8, out.length = N → (ys.foldl (turnRow d m m' q fr tz) out).length = N
  | [], _, out, h => h
  | y :: t, hy, out, h => by
    refine turnPlane_length hq hf ht hfd htN t (fun z hz => hy z (by simp [hz])) _ ?_
    exact turnRow_length hq hf ht hfd htN (hy y (by simp)) _ (fun x hx => by rw [List.mem_range] at hx; omega) _ h
theorem turnUpto_length {d : List UInt8} {m m' : Int} {l : List S43} (hl : ∀ q ∈ l, okP q) (hm : okM m) (hm' : okM m') (hd : sumL (l.map (pSize m)) ≤ d.length) {n : Nat} (hn : sumL (l.map (pSize m')) ≤ n) : ∀ j, j ≤ l.length → (turnUpto d m m' l n j).out.length = n
  | 0, _ => by simp [turnUpto]
  | j + 1, h => by
    rw [turnUpto_succ d m m' l n j (by omega)]
    obtain ⟨e1, e2⟩ := turnUpto_fr d m m' l n j
    have s1 := sumL_take l (pSize m) (fun q hq => by have := pSize_bd (hl q hq) hm; omega) j (by omega)
    have s2 := sumL_take l (pSize m') (fun q hq => by have := pSize_bd (hl q hq) hm'; omega) j (by omega)
    have hq : okP (rd_T43 l j) := by
      have e : rd_T43 l j = l[j] := by unfold rd_T43; simp [List.getD_eq_getElem?_getD, List.getElem?_eq_getElem (show j < l.length by omega)]
      rw [e]; exact hl _ (List.getElem_mem _)
    unfold turnStep
    dsimp only
    exact turnPlane_length hq (by rw [e1]; exact s1.1) (by rw [e2]; exact s2.1) (by rw [e1]; omega) (by rw [e2]; omega) _ (fun y hy => by rw [List.mem_range] at hy; omega) _ (turnUpto_length hl hm hm' hd hn j (by omega))
theorem range_foldl_succ {α : Type} (g : α → Nat → α) (a : α) (k : Nat) : (List.range (k + 1)).foldl g a = g ((List.range k).foldl g a) k := by rw [List.range_succ, List.foldl_append]; rfl
end Go.Proofs.Ytenaegjiggodkaa.PV

-- Printed by vprint.py (a program of this claim over the translation's own print). Lean checks it.
namespace Go.Proofs.Ytenaegjiggodkaa.PV
open Go.RowKit Go.Proofs.YtenaegjiggodkaaW.PrintWords Go.Proofs.YtenaegjiggodkaaW.PrintLast Go.Proofs.YtenaegjiggodkaaW.PrintMore
attribute [local go_sem] max2_int min2_int max_two min_two max_three min_three max_four min_four   -- for this text's walks alone
set_option linter.unusedVariables false
set_option linter.unusedSimpArgs false

/-! ### video_plane_size: function 132 -/
def video_plane_size.f (a0_0 : Int) (a0_1 : Int) (a0_2 : Int) (a0_3 : Int) (a1 : Int) : Option (Int) := if a1 = 0 then (some (wrap64 ((wrap64 (a0_0 * a0_1)) * a0_2))) else (some (wrap64 ((wrap64 ((wrap64 ((wrap64 ((wrap64 (Int.tdiv (wrap64 ((wrap64 (a0_0 + 4)) - 1)) 4)) * (wrap64 (Int.tdiv (wrap64 ((wrap64 (a0_1 + 4)) - 1)) 4)))) * 4)) * 4)) * a0_2)))
set_option maxHeartbeats 8000000 in
set_option maxRecDepth 100000 in
theorem video_plane_size.calls (a0_0 : Int) (a0_1 : Int) (a0_2 : Int) (a0_3 : Int) (a1 : Int) (r : Int) (w : World) (h : video_plane_size.f a0_0 a0_1 a0_2 a0_3 a1 = some r) :
    Calls Try.prog 132 #[.agg #[.int .i64 a0_0, .int .i64 a0_1, .int .i64 a0_2, .int .i64 a0_3], .int .i64 a1] w fun e w' => e = .returned (.int .i64 r) ∧ Below w.heap.size w w' := by
  have hu154 := Try.underlying154
  have HB := Aside0.mk (Below.refl w.heap.size w)
  have H : (if a1 = 0 then (some (wrap64 ((wrap64 (a0_0 * a0_1)) * a0_2))) else (some (wrap64 ((wrap64 ((wrap64 ((wrap64 ((wrap64 (Int.tdiv (wrap64 ((wrap64 (a0_0 + 4)) - 1)) 4)) * (wrap64 (Int.tdiv (wrap64 ((wrap64 (a0_1 + 4)) - 1)) 4)))) * 4)) * 4)) * a0_2)))) = some r := h
  clear h
  by_cases c3 : a1 = 0
  · rw [if_pos c3] at H
    have c3b0 : (a1 == 0) = true := beq_iff_eq.mpr c3
    have c3b1 : (a1 != 0) = false := bne_eq_false_iff_eq.mpr c3
    clear c3
    obtain rfl := Option.some.inj H
    go_enter Try.func132, Try.ntmps132
    go_wp2_with (first | ((with_reducible refine gate_dst (N := 2) rfl ?_); refine box_event ?hg (N := 2) ?hd (cs := #[.int .i64 a0_0, .int .i64 a0_1, .int .i64 a0_2, .int .i64 a0_3]) (t := 154) ?hr ?_; (case hd => rfl); (case hg => rfl); (case hr => first | (go_simp; done) | (go_simp; rfl)); intro gb205 hg w4 hbox hb; have n0_ := Aside0.mk (below_step (by repeat (first | (with_reducible first | exact HB.out | apply below_alloc | apply pw_below_drewN | apply below_drew1) | exact HB.out)) hb); have n1_ := Aside0.mk (hbox); have n2_ := Aside0.mk ((by rw [hg]; exact (below_size (by repeat (first | (with_reducible first | exact HB.out | apply below_alloc | apply pw_below_drewN | apply below_drew1) | exact HB.out))) : w.heap.size ≤ gb205)); have n3_ := Aside0.mk ((by rw [hg]; exact (below_size (by repeat (first | (with_reducible first | exact HB.out | apply below_alloc | apply pw_below_drewN | apply below_drew1) | exact HB.out))) : w.heap.size ≤ gb205)); clear HB; have HB := n0_; have BK205 := n1_; have GW205 := n2_; have GE205 := n3_; clear n0_ n1_ n2_ n3_; clear hb hbox hg; have hcz5_0 : w4.cell? ⟨gb205, 0, none⟩ = some (.int .i64 a0_0) := (blk_cell BK205.out 0).trans rfl; have hcz5_1 : w4.cell? ⟨gb205, 1, none⟩ = some (.int .i64 a0_1) := (blk_cell BK205.out 1).trans rfl; have hcz5_2 : w4.cell? ⟨gb205, 2, none⟩ = some (.int .i64 a0_2) := (blk_cell BK205.out 2).trans rfl; have hcz5_3 : w4.cell? ⟨gb205, 3, none⟩ = some (.int .i64 a0_3) := (blk_cell BK205.out 3).trans rfl; have hfz5_0 := blk_frozen BK205.out 0; have hfz5_1 := blk_frozen BK205.out 1; have hfz5_2 := blk_frozen BK205.out 2; have hfz5_3 := blk_frozen BK205.out 3))
    go_ret
    exact ⟨by first | rfl | (simp [errW_none, errW_some] <;> rfl) | (simp [*, errW_none, errW_some] <;> rfl), by repeat (first | (with_reducible first | exact HB.out | apply below_alloc | apply pw_below_drewN | apply below_drew1 | refine below_set ?_ GE205.out) | exact HB.out)⟩
  · rw [if_neg c3] at H
    have c3b0 : (a1 == 0) = false := beq_eq_false_iff_ne.mpr c3
    have c3b1 : (a1 != 0) = true := bne_iff_ne.mpr c3
    obtain rfl := Option.some.inj H
    go_enter Try.func132, Try.ntmps132
    go_wp2_with (first | ((with_reducible refine gate_dst (N := 2) rfl ?_); refine box_event ?hg (N := 2) ?hd (cs := #[.int .i64 a0_0, .int .i64 a0_1, .int .i64 a0_2, .int .i64 a0_3]) (t := 154) ?hr ?_; (case hd => rfl); (case hg => rfl); (case hr => first | (go_simp; done) | (go_simp; rfl)); intro gb205 hg w6 hbox hb; have n0_ := Aside0.mk (below_step (by repeat (first | (with_reducible first | exact HB.out | apply below_alloc | apply pw_below_drewN | apply below_drew1) | exact HB.out)) hb); have n1_ := Aside0.mk (hbox); have n2_ := Aside0.mk ((by rw [hg]; exact (below_size (by repeat (first | (with_reducible first | exact HB.out | apply below_alloc | apply pw_below_drewN | apply below_drew1) | exact HB.out))) : w.heap.size ≤ gb205)); have n3_ := Aside0.mk ((by rw [hg]; exact (below_size (by repeat (first | (with_reducible first | exact HB.out | apply below_alloc | apply pw_below_drewN | apply below_drew1) | exact HB.out))) : w.heap.size ≤ gb205)); clear HB; have HB := n0_; have BK205 := n1_; have GW205 := n2_; have GE205 := n3_; clear n0_ n1_ n2_ n3_; clear hb hbox hg; have hcz7_0 : w6.cell? ⟨gb205, 0, none⟩ = some (.int .i64 a0_0) := (blk_cell BK205.out 0).trans rfl; have hcz7_1 : w6.cell? ⟨gb205, 1, none⟩ = some (.int .i64 a0_1) := (blk_cell BK205.out 1).trans rfl; have hcz7_2 : w6.cell? ⟨gb205, 2, none⟩ = some (.int .i64 a0_2) := (blk_cell BK205.out 2).trans rfl; have hcz7_3 : w6.cell? ⟨gb205, 3, none⟩ = some (.int .i64 a0_3) := (blk_cell BK205.out 3).trans rfl; have hfz7_0 := blk_frozen BK205.out 0; have hfz7_1 := blk_frozen BK205.out 1; have hfz7_2 := blk_frozen BK205.out 2; have hfz7_3 := blk_frozen BK205.out 3))
    go_ret
    exact ⟨by first | rfl | (simp [errW_none, errW_some] <;> rfl) | (simp [*, errW_none, errW_some] <;> rfl), by repeat (first | (with_reducible first | exact HB.out | apply below_alloc | apply pw_below_drewN | apply below_drew1 | refine below_set ?_ GE205.out) | exact HB.out)⟩

end Go.Proofs.Ytenaegjiggodkaa.PV

-- Printed by vprint.py (a program of this claim over the translation's own print). Lean checks it.
namespace Go.Proofs.Ytenaegjiggodkaa.PV
open Go.RowKit Go.Proofs.YtenaegjiggodkaaW.PrintWords Go.Proofs.YtenaegjiggodkaaW.PrintLast Go.Proofs.YtenaegjiggodkaaW.PrintMore
attribute [local go_sem] max2_int min2_int max_two min_two max_three min_three max_four min_four   -- for this text's walks alone
set_option linter.unusedVariables false
set_option linter.unusedSimpArgs false

/-! ### video_plane_at: function 133 -/
def video_plane_at.f (a0_0 : Int) (a0_1 : Int) (a0_2 : Int) (a0_3 : Int) (a1 : Int) (a2 : Int) (a3 : Int) : Option (Int) := if a1 = 0 then (some (wrap64 ((wrap64 ((wrap64 (a3 * a0_0)) + a2)) * a0_2))) else (some (wrap64 ((wrap64 ((wrap64 ((wrap64 ((wrap64 ((wrap64 ((wrap64 ((wrap64 (Int.tdiv a3 4)) * (wrap64 (Int.tdiv (wrap64 ((wrap64 (a0_0 + 4)) - 1)) 4)))) + (wrap64 (Int.tdiv a2 4)))) * 4)) * 4)) + (wrap64 ((Int.tmod a3 4) * 4)))) + (Int.tmod a2 4))) * a0_2)))
set_option maxHeartbeats 8000000 in
set_option maxRecDepth 100000 in
theorem video_plane_at.calls (a0_0 : Int) (a0_1 : Int) (a0_2 : Int) (a0_3 : Int) (a1 : Int) (a2 : Int) (a3 : Int) (r : Int) (w : World) (h : video_plane_at.f a0_0 a0_1 a0_2 a0_3 a1 a2 a3 = some r) :
    Calls Try.prog 133 #[.agg #[.int .i64 a0_0, .int .i64 a0_1, .int .i64 a0_2, .int .i64 a0_3], .int .i64 a1, .int .i64 a2, .int .i64 a3] w fun e w' => e = .returned (.int .i64 r) ∧ Below w.heap.size w w' := by
  have hu154 := Try.underlying154
  have HB := Aside0.mk (Below.refl w.heap.size w)
  have H : (if a1 = 0 then (some (wrap64 ((wrap64 ((wrap64 (a3 * a0_0)) + a2)) * a0_2))) else (some (wrap64 ((wrap64 ((wrap64 ((wrap64 ((wrap64 ((wrap64 ((wrap64 ((wrap64 (Int.tdiv a3 4)) * (wrap64 (Int.tdiv (wrap64 ((wrap64 (a0_0 + 4)) - 1)) 4)))) + (wrap64 (Int.tdiv a2 4)))) * 4)) * 4)) + (wrap64 ((Int.tmod a3 4) * 4)))) + (Int.tmod a2 4))) * a0_2)))) = some r := h
  clear h
  by_cases c5 : a1 = 0
  · rw [if_pos c5] at H
    have c5b0 : (a1 == 0) = true := beq_iff_eq.mpr c5
    have c5b1 : (a1 != 0) = false := bne_eq_false_iff_eq.mpr c5
    clear c5
    obtain rfl := Option.some.inj H
    go_enter Try.func133, Try.ntmps133
    go_wp2_with (first | ((with_reducible refine gate_dst (N := 4) rfl ?_); refine box_event ?hg (N := 4) ?hd (cs := #[.int .i64 a0_0, .int .i64 a0_1, .int .i64 a0_2, .int .i64 a0_3]) (t := 154) ?hr ?_; (case hd => rfl); (case hg => rfl); (case hr => first | (go_simp; done) | (go_simp; rfl)); intro gb206 hg w6 hbox hb; have n0_ := Aside0.mk (below_step (by repeat (first | (with_reducible first | exact HB.out | apply below_alloc | apply pw_below_drewN | apply below_drew1) | exact HB.out)) hb); have n1_ := Aside0.mk (hbox); have n2_ := Aside0.mk ((by rw [hg]; exact (below_size (by repeat (first | (with_reducible first | exact HB.out | apply below_alloc | apply pw_below_drewN | apply below_drew1) | exact HB.out))) : w.heap.size ≤ gb206)); have n3_ := Aside0.mk ((by rw [hg]; exact (below_size (by repeat (first | (with_reducible first | exact HB.out | apply below_alloc | apply pw_below_drewN | apply below_drew1) | exact HB.out))) : w.heap.size ≤ gb206)); clear HB; have HB := n0_; have BK206 := n1_; have GW206 := n2_; have GE206 := n3_; clear n0_ n1_ n2_ n3_; clear hb hbox hg; have hcz7_0 : w6.cell? ⟨gb206, 0, none⟩ = some (.int .i64 a0_0) := (blk_cell BK206.out 0).trans rfl; have hcz7_1 : w6.cell? ⟨gb206, 1, none⟩ = some (.int .i64 a0_1) := (blk_cell BK206.out 1).trans rfl; have hcz7_2 : w6.cell? ⟨gb206, 2, none⟩ = some (.int .i64 a0_2) := (blk_cell BK206.out 2).trans rfl; have hcz7_3 : w6.cell? ⟨gb206, 3, none⟩ = some (.int .i64 a0_3) := (blk_cell BK206.out 3).trans rfl; have hfz7_0 := blk_frozen BK206.out 0; have hfz7_1 := blk_frozen BK206.out 1; have hfz7_2 := blk_frozen BK206.out 2; have hfz7_3 := blk_frozen BK206.out 3))
    go_ret
    exact ⟨by first | rfl | (simp [errW_none, errW_some] <;> rfl) | (simp [*, errW_none, errW_some] <;> rfl), by repeat (first | (with_reducible first | exact HB.out | apply below_alloc | apply pw_below_drewN | apply below_drew1 | refine below_set ?_ GE206.out) | exact HB.out)⟩
  · rw [if_neg c5] at H
    have c5b0 : (a1 == 0) = false := beq_eq_false_iff_ne.mpr c5
    have c5b1 : (a1 != 0) = true := bne_iff_ne.mpr c5
    obtain rfl := Option.some.inj H
    go_enter Try.func133, Try.ntmps133
    go_wp2_with (first | ((with_reducible refine gate_dst (N := 4) rfl ?_); refine box_event ?hg (N := 4) ?hd (cs := #[.int .i64 a0_0, .int .i64 a0_1, .int .i64 a0_2, .int .i64 a0_3]) (t := 154) ?hr ?_; (case hd => rfl); (case hg => rfl); (case hr => first | (go_simp; done) | (go_simp; rfl)); intro gb206 hg w8 hbox hb; have n0_ := Aside0.mk (below_step (by repeat (first | (with_reducible first | exact HB.out | apply below_alloc | apply pw_below_drewN | apply below_drew1) | exact HB.out)) hb); have n1_ := Aside0.mk (hbox); have n2_ := Aside0.mk ((by rw [hg]; exact (below_size (by repeat (first | (with_reducible first | exact HB.out | apply below_alloc | apply pw_below_drewN | apply below_drew1) | exact HB.out))) : w.heap.size ≤ gb206)); have n3_ := Aside0.mk ((by rw [hg]; exact (below_size (by repeat (first | (with_reducible first | exact HB.out | apply below_alloc | apply pw_below_drewN | apply below_drew1) | exact HB.out))) : w.heap.size ≤ gb206)); clear HB; have HB := n0_; have BK206 := n1_; have GW206 := n2_; have GE206 := n3_; clear n0_ n1_ n2_ n3_; clear hb hbox hg; have hcz9_0 : w8.cell? ⟨gb206, 0, none⟩ = some (.int .i64 a0_0) := (blk_cell BK206.out 0).trans rfl; have hcz9_1 : w8.cell? ⟨gb206, 1, none⟩ = some (.int .i64 a0_1) := (blk_cell BK206.out 1).trans rfl; have hcz9_2 : w8.cell? ⟨gb206, 2, none⟩ = some (.int .i64 a0_2) := (blk_cell BK206.out 2).trans rfl; have hcz9_3 : w8.cell? ⟨gb206, 3, none⟩ = some (.int .i64 a0_3) := (blk_cell BK206.out 3).trans rfl; have hfz9_0 := blk_frozen BK206.out 0; have hfz9_1 := blk_frozen BK206.out 1; have hfz9_2 := blk_frozen BK206.out 2; have hfz9_3 := blk_frozen BK206.out 3))
    go_ret
    exact ⟨by first | rfl | (simp [errW_none, errW_some] <;> rfl) | (simp [*, errW_none, errW_some] <;> rfl), by repeat (first | (with_reducible first | exact HB.out | apply below_alloc | apply pw_below_drewN | apply below_drew1 | refine below_set ?_ GE206.out) | exact HB.out)⟩

end Go.Proofs.Ytenaegjiggodkaa.PV

/- The contracts of video's size and turned. -/
namespace Go.Proofs.Ytenaegjiggodkaa.PV
open Go.RowKit Go.Proofs.YtenaegjiggodkaaW.PrintWords Go.Proofs.YtenaegjiggodkaaW.PrintLast Go.Proofs.YtenaegjiggodkaaW.PrintMore
set_option linter.unusedVariables false
set_option linter.unusedSimpArgs false
theorem wrap_in {n : Int} (h : -9223372036854775808 ≤ n ∧ n ≤ 9223372036854775807) : wrap64 n = n := by unfold wrap64; omega
theorem planeSize_eq {q : S43} (h : okP q) {m : Int} (hm : okM m) : video_plane_size.f q.f0 q.f1 q.f2 q.f3 m = some (pSize m q) := by
  have hb := pSize_bd h hm
  obtain ⟨⟨a1, a2⟩, ⟨b1, b2⟩, ⟨c1, c2⟩, _⟩ := h
  unfold video_plane_size.f pSize at *
  split
  · rename_i e
    rw [if_pos e] at hb
    have h1 := mul_bd (by omega : (0 : Int) ≤ q.f0) (by omega : (0 : Int) ≤ q.f1) a2 b2
    rw [wrap_in (by omega : -9223372036854775808 ≤ q.f0 * q.f1 ∧ _), wrap_in (by omega)]
  · rename_i e
    rw [if_neg e] at hb
    have h1 := mul_bd (by omega : (0 : Int) ≤ (q.f0 + 3) / 4) (by omega : (0 : Int) ≤ (q.f1 + 3) / 4) (by omega : (q.f0 + 3) / 4 ≤ 16) (by omega : (q.f1 + 3) / 4 ≤ 16)
    rw [wrap_in (by omega : -9223372036854775808 ≤ q.f0 + 4 ∧ _), wrap_in (by omega : -9223372036854775808 ≤ q.f1 + 4 ∧ _), show q.f0 + 4 - 1 = q.f0 + 3 by omega, show q.f1 + 4 - 1 = q.f1 + 3 by omega]
    rw [wrap_in (by omega : -9223372036854775808 ≤ q.f0 + 3 ∧ _), wrap_in (by omega : -9223372036854775808 ≤ q.f1 + 3 ∧ _), Int.tdiv_eq_ediv_of_nonneg (by omega), Int.tdiv_eq_ediv_of_nonneg (by omega)]
    rw [wrap_in (by omega : -9223372036854775808 ≤ (q.f0 + 3) / 4 ∧ _), wrap_in (by omega : -9223372036854775808 ≤ (q.f1 + 3) / 4 ∧ _)]
    rw [wrap_in (by omega : -9223372036854775808 ≤ (q.f0 + 3) / 4 * ((q.f1 + 3) / 4) ∧ _), wrap_in (by omega : -9223372036854775808 ≤ (q.f0 + 3) / 4 * ((q.f1 + 3) / 4) * 4 ∧ _)]
    rw [Int.mul_assoc ((q.f0 + 3) / 4 * ((q.f1 + 3) / 4)) 4 4, show (4 : Int) * 4 = 16 from rfl, wrap_in (by omega : -9223372036854775808 ≤ (q.f0 + 3) / 4 * ((q.f1 + 3) / 4) * 16 ∧ _), wrap_in (by omega)]
theorem planeAt_eq {q : S43} (h : okP q) {m : Int} (hm : okM m) {x y : Int} (hx : 0 ≤ x ∧ x < q.f0) (hy : 0 ≤ y ∧ y < q.f1) : video_plane_at.f q.f0 q.f1 q.f2 q.f3 m x y = some (pAt m q x y) := by
  have hb := pAt_bd h m hx hy
  have hs := pSize_bd h hm
  have hi0 := idx0_bd h hx hy
  have hi1 := idx1_bd h hx hy
  obtain ⟨⟨a1, a2⟩, ⟨b1, b2⟩, ⟨c1, c2⟩, _⟩ := h
  have hq0 : 0 ≤ y * q.f0 := Int.mul_nonneg hy.1 (by omega)
  have hq1 := mul_bd (by omega : (0 : Int) ≤ q.f0) (by omega : (0 : Int) ≤ q.f1) a2 b2
  have hq2 := mul_bd (by omega : (0 : Int) ≤ y / 4) (by omega : (0 : Int) ≤ (q.f0 + 3) / 4) (by omega : y / 4 ≤ 16) (by omega : (q.f0 + 3) / 4 ≤ 16)
  unfold video_plane_at.f pAt at *
  split
  · rename_i e
    rw [if_pos e] at hb
    rw [wrap_in (by omega : -9223372036854775808 ≤ y * q.f0 ∧ _), wrap_in (by omega : -9223372036854775808 ≤ y * q.f0 + x ∧ _), wrap_in (by omega)]
  · rename_i e
    rw [if_neg e] at hb
    rw [wrap_in (by omega : -9223372036854775808 ≤ q.f0 + 4 ∧ _), show q.f0 + 4 - 1 = q.f0 + 3 by omega]
    rw [wrap_in (by omega : -9223372036854775808 ≤ q.f0 + 3 ∧ _), Int.tdiv_eq_ediv_of_nonneg (by omega), Int.tdiv_eq_ediv_of_nonneg (by omega), Int.tdiv_eq_ediv_of_nonneg (by omega), Int.tmod_eq_emod_of_nonneg (by omega), Int.tmod_eq_emod_of_nonneg (by omega)]
    rw [wrap_in (by omega : -9223372036854775808 ≤ (q.f0 + 3) / 4 ∧ _), wrap_in (by omega : -9223372036854775808 ≤ y / 4 ∧ _), wrap_in (by omega : -9223372036854775808 ≤ x / 4 ∧ _), wrap_in (by omega : -9223372036854775808 ≤ y % 4 * 4 ∧ _)]
    rw [wrap_in (by omega : -9223372036854775808 ≤ y / 4 * ((q.f0 + 3) / 4) ∧ _), wrap_in (by omega : -9223372036854775808 ≤ y / 4 * ((q.f0 + 3) / 4) + x / 4 ∧ _), wrap_in (by omega : -9223372036854775808 ≤ (y / 4 * ((q.f0 + 3) / 4) + x / 4) * 4 ∧ _)]
    rw [Int.mul_assoc (y / 4 * ((q.f0 + 3) / 4) + x / 4) 4 4, show (4 : Int) * 4 = 16 from rfl, wrap_in (by omega : -9223372036854775808 ≤ (y / 4 * ((q.f0 + 3) / 4) + x / 4) * 16 ∧ _), wrap_in (by omega : -9223372036854775808 ≤ (y / 4 * ((q.f0 + 3) / 4) + x / 4) * 16 + y % 4 * 4 ∧ _), wrap_in (by omega : -9223372036854775808 ≤ (y / 4 * ((q.f0 + 3) / 4) + x / 4) * 16 + y % 4 * 4 + x % 4 ∧ _), wrap_in (by omega)]
theorem meth167 (b : Int) (w : World) : (method 311 167 (.agg #[.int .i64 b]) "continuo/video.planes").run Try.prog w = .ok (179, .agg #[.int .i64 b]) w := by kernel_rfl
theorem meth169 (w : World) : (method 311 169 (.agg #[]) "continuo/video.planes").run Try.prog w = .ok (180, .agg #[]) w := by kernel_rfl
/-- What the format of a number is: a value with a method that tells the planes. -/
theorem planes_of {f x y : Int} (hf : 1 ≤ f ∧ f ≤ 4) (hx : 1 ≤ x ∧ x ≤ 64) (hy : 1 ≤ y ∧ y ≤ 64) : ∃ (T K : Nat) (v : Value) (N : Nat), ofV f = .iface T v ∧ N = (planesL f x y).length ∧ (∀ w, (method 311 T v "continuo/video.planes").run Try.prog w = .ok (K, v) w) ∧ (∀ args w, (callFunc K args).run Try.prog w = .ok (.enter K args) w) ∧
    ∀ W, Calls Try.prog K #[v, .int .i64 x, .int .i64 y] W fun e W' => ∃ ad, e = .returned (.slice (some ad) N N) ∧ Kd.C k43 W' (some ad) N (planesL f x y) ∧ W.heap.size ≤ ad.block ∧ Below W.heap.size W W' := by
  by_cases h4 : f = 4
  · subst h4
    refine ⟨169, 180, .agg #[], 3, rfl, by simp [planesL], meth169, enters_of Try.func180 (by kernel_rfl) rfl, fun W => (planes180 x y W).mono ?_⟩
    rintro e W' ⟨ad, rfl, hC, hA, hB⟩
    refine ⟨ad, rfl, ?_, hA, hB⟩
    have e : planesL 4 x y = [⟨x, y, 1, 1⟩, halfP x y, halfP x y] := by
      have : halfP x y = halfQ x y := by
        unfold halfP halfQ
        rw [wrap_in (by omega : -9223372036854775808 ≤ x + 1 ∧ _), wrap_in (by omega : -9223372036854775808 ≤ y + 1 ∧ _), Int.tdiv_eq_ediv_of_nonneg (by omega), Int.tdiv_eq_ediv_of_nonneg (by omega), wrap_in (by omega), wrap_in (by omega)]
      rw [this]; simp [planesL]
    rw [e]; exact hC
  · refine ⟨167, 179, .agg #[.int .i64 (if f = 1 then 1 else if f = 2 then 3 else 4)], 1, by simp [ofV, h4], by simp [planesL, h4], fun w => meth167 _ w, enters_of Try.func179 (by kernel_rfl) rfl, fun W => (planes179 _ x y W).mono ?_⟩
    rintro e W' ⟨ad, rfl, hC, hA, hB⟩
    refine ⟨ad, rfl, ?_, hA, hB⟩
    have e : planesL f x y = [⟨x, y, if f = 1 then 1 else if f = 2 then 3 else 4, 1⟩] := by simp [planesL, h4]
    rw [e]; exact hC
theorem mem_rd {l : List S43} {j : Nat} (h : j < l.length) : rd_T43 l j ∈ l := by
  have e : rd_T43 l j = l[j] := by unfold rd_T43; simp [List.getD_eq_getElem?_getD, List.getElem?_eq_getElem h]
  rw [e]; exact List.getElem_mem _
theorem sumL_succ (l : List S43) (g : S43 → Int) (j : Nat) (h : j < l.length) : sumL ((l.take (j + 1)).map g) = sumL ((l.take j).map g) + g (rd_T43 l j) := by
  have e : rd_T43 l j = l[j] := by unfold rd_T43; simp [List.getD_eq_getElem?_getD, List.getElem?_eq_getElem h]
  rw [List.take_succ_eq_append_getElem h, List.map_append, sumL_append, e]
  simp [sumL]
set_option maxHeartbeats 1000000 in
set_option maxRecDepth 100000 in
theorem size84 (f m x y : Int) (ok : okF f m x y) (w : World) : Calls Try.prog 84 #[.int .i64 f, .int .i64 m, .int .i64 x, .int .i64 y] w fun e w' => e = .returned (.int .i64 (sizeL f m x y)) ∧ Below w.heap.size w w' := by
  have hsz := sizeL_bd ok
  obtain ⟨hf, hm, hx, hy⟩ := ok
  obtain ⟨T, K, v, N, hv, hN, hme, heg, hK⟩ := planes_of hf hx hy
  have hok := planes_ok hf hx hy
  have hpl := planes_length f x y
  have ho := of_any f hf.1 hf.2 w
  rw [hv] at ho
  unfold sizeL at hsz ⊢
  generalize planesL f x y = ps at *
  have Ho := Lib.hid ho
  have HK := Lib.hid hK
  have HN := Lib.hid hN
  have Hok := Lib.hid hok
  have hN3 : N ≤ 3 := by omega
  clear ho hK hv hok
  go_enter Try.func84, Try.ntmps84
  go_wp2_with (go_at_call 131; refine Ho.out.mono ?_; rintro e w1 ⟨rfl, rfl⟩)
  refine (HK.out _).mono ?_
  rintro e w2 ⟨ad, rfl, hC, _, hB⟩
  clear hN hme heg Ho HK
  go_wp2
  go_loopw [9, 18] (fun n i wr => ∃ j : Nat, j ≤ N ∧ i = .int .i64 j ∧ n = .int .i64 (sumL ((ps.take j).map (pSize m))) ∧ Below w2.heap.size w2 wr) (fun _ i _ => N - (intOf i).toNat)
  case atStart => exact ⟨0, Nat.zero_le _, rfl, rfl, Below.refl _ _⟩
  case round =>
    obtain ⟨j, hj, rfl, rfl, hB3⟩ := hrel
    by_cases hlt : j < N
    · have hlt2 : j < ps.length := by rw [← HN.out]; exact hlt
      have hq := Hok.out _ (mem_rd hlt2)
      have hs := planeSize_eq hq hm
      have hss := sumL_succ ps (pSize m) j hlt2
      have hst := sumL_take ps (pSize m) (fun q hq => by have := pSize_bd (Hok.out q hq) hm; omega) j hlt2
      have hC2 := Kd.C_below hC hB3
      rw [HN.out] at hC2
      obtain ⟨ad2, e2, h1, h2, h3, h4⟩ := at_T43 hC2 j (by omega) (by omega)
      obtain rfl := Option.some.inj e2
      simp only [Int.toNat_natCast] at h1 h2 h3 h4
      generalize rd_T43 ps j = q at *
      generalize hsj : sumL ((ps.take j).map (pSize m)) = sj at *
      have hc := fun W => video_plane_size.calls q.f0 q.f1 q.f2 q.f3 m _ W hs
      obtain ⟨qa, qb, qc, qd⟩ := q
      dsimp only at h1 h2 h3 h4 hc hq hst hss
      have hpz := (pSize_bd hq hm).1
      generalize pSize m ⟨qa, qb, qc, qd⟩ = pz at *
      have Hc := Lib.hid hc
      have Hss := Lib.hid hss
      have hst0 := hst.1
      have hst1 : sj + pz ≤ 50000 := by omega
      clear hss hs hC hC2 hc hst hsz hq hsj HN
      go_wp2_with (go_at_call 132; refine (Hc.out _).mono ?_; rintro e w4 ⟨rfl, hB4⟩)
      go_roundw
      case rel => exact ⟨j + 1, by omega, by go_num, by rw [Hss.out], (hB3.alloc hB3.size _).trans (hB4.mono (by have := hB3.size; simp; omega))⟩
      case measure => simp [intOf]; omega
    · have e : j = N := by omega
      subst e
      rw [List.take_of_length_le (by rw [← HN.out]; exact Nat.le_refl _)]
      go_wp2
      go_ret
      exact ⟨rfl, hB.trans (hB3.mono hB.size)⟩
end Go.Proofs.Ytenaegjiggodkaa.PV

/- The contract of video's turned. -/
namespace Go.Proofs.Ytenaegjiggodkaa.PV
open Go.RowKit Go.Proofs.YtenaegjiggodkaaW.PrintWords Go.Proofs.YtenaegjiggodkaaW.PrintLast Go.Proofs.YtenaegjiggodkaaW.PrintMore
set_option linter.unusedVariables false
set_option linter.unusedSimpArgs false
/-- What was there of A is there in B, but for block G. -/
structure KpG (G : Nat) (A B : World) : Prop where
  size : A.heap.size ≤ B.heap.size
  same : ∀ k, k < A.heap.size → k ≠ G → B.heap[k]? = A.heap[k]?
theorem KpG.refl (G : Nat) (A : World) : KpG G A A := ⟨Nat.le_refl _, fun _ _ _ => rfl⟩
theorem KpG.trans {G : Nat} {A B C : World} (h : KpG G A B) (k : KpG G B C) : KpG G A C := ⟨Nat.le_trans h.size k.size, fun q h1 h2 => (k.same q (Nat.lt_of_lt_of_le h1 h.size) h2).trans (h.same q h1 h2)⟩
theorem KpG.of_below {G : Nat} {A B : World} (h : Below A.heap.size A B) : KpG G A B := ⟨h.size, fun q h1 _ => h.block q h1⟩
theorem KpG.drew {G : Nat} {A B : World} (h : KpG G A.drew B) : KpG G A B := ⟨h.size, h.same⟩
theorem KpG.setCells {G : Nat} {A B : World} (h : KpG G A B) (o : Nat) (vs : List Value) : KpG G A (B.setCells G o vs) := by
  induction vs generalizing o B with
  | nil => exact h
  | cons v t ih =>
    refine ih ?_ (o + 1)
    exact ⟨by simpa [World.setCell] using h.size, fun q h1 h2 => (Deep.blk_setCell_other _ _ _ _ h2).trans (h.same q h1 h2)⟩
theorem KpG.cell {G : Nat} {A B : World} (h : KpG G A B) {a : Addr} {v : Value} (hc : A.cell? a = some v) (hne : a.block ≠ G) : B.cell? a = some v := by
  have hlt := World.block_lt_of_cell? A _ hc
  have hb := h.same a.block hlt hne
  unfold World.cell? at hc ⊢
  rw [hb]; exact hc
theorem add_block (a : Addr) (k : Nat) : (a.add k).block = a.block := by cases k <;> rfl
def bytesV (l : List UInt8) (i : Nat) : Value := .int .u8 ((l[i]?.getD 0).toNat : Int)
theorem bytesV_put {l bs : List UInt8} {k n : Nat} (h : k + bs.length ≤ l.length) (i : Nat) : (if k ≤ i ∧ i < k + (bs.map fun x => Value.int .u8 (x.toNat : Int)).length then (bs.map fun x => Value.int .u8 (x.toNat : Int))[i - k]?.getD default else bytesV l i) = bytesV (putAt l k bs) i := by
  rw [List.length_map]
  unfold bytesV
  rw [putAt_get l k bs h i]
  split
  · rename_i hh
    rw [List.getElem?_map, List.getElem?_eq_getElem (by omega)]
    rfl
  · rfl
theorem row_put {w : World} {G n k : Nat} {l bs : List UInt8} (h : w.rowIs G 5 n (bytesV l)) (hl : l.length = n) (hk : k + bs.length ≤ n) : (w.setCells G k (bs.map fun x => Value.int .u8 (x.toNat : Int))).rowIs G 5 n (bytesV (putAt l k bs)) :=
  (rowIs_setCells _ k w _ h).congr fun i _ => bytesV_put (n := n) (by omega) i
theorem row_below {w w' : World} {G n B : Nat} {f : Nat → Value} (h : w.rowIs G 5 n f) (hb : Below B w w') (hG : G < B) : w'.rowIs G 5 n f := h.of_block (hb.block G hG)
theorem Try.info5_ : (Try.prog.info? 5).map (fun i => (i.zero, i.size, i.bytes)) = some (some (.int .u8 0), 1, 1) := by kernel_rfl
theorem cut_cut {d : ByteArray} {k n : Nat} (h : n ≤ d.size - k) (hk : k ≤ d.size) : (d.extract k d.size).extract 0 n = d.extract k (k + n) := by
  apply ByteArray.ext
  apply Array.toList_inj.1
  rw [Lib.extract_data, Lib.extract_data, Lib.extract_data]
  simp only [Nat.sub_zero, List.drop_zero, List.take_take]
  congr 1
  omega
theorem cut_size {d : ByteArray} {k n : Nat} (h : k + n ≤ d.size) : (d.extract k (k + n)).size = n := by simp; omega
theorem cut_bytes {d : ByteArray} {k n : Nat} : (d.extract k (k + n)).data.toList = seg d.data.toList k n := by
  rw [Lib.extract_data]; unfold seg; rw [show k + n - k = n by omega]
theorem size5_ (w : World) : (Go.sizeOf 5).run Try.prog w = .ok 1 w := by kernel_rfl
set_option maxHeartbeats 4000000 in
set_option maxRecDepth 100000 in
theorem turned87 (f m x y m' : Int) (d : ByteArray) (ok : okF f m x y) (hm' : okM m') (hd : (d.size : Int) = sizeL f m x y) (w : World) :
    Calls Try.prog 87 #[.agg #[.int .i64 f, .int .i64 m, .int .i64 x, .int .i64 y, .string d], .int .i64 m'] w fun e w' => e = .returned (.agg #[.int .i64 f, .int .i64 m', .int .i64 x, .int .i64 y, .string ⟨(turnedL d.data.toList f m m' x y).toArray⟩]) ∧ Below w.heap.size w w' := by
  obtain ⟨hf, hm, hx, hy⟩ := ok
  have hsb := sizeL_bd (f := f) (m := m') (w := x) (h := y) ⟨hf, hm', hx, hy⟩
  have hsb0 := sizeL_bd (f := f) (m := m) (w := x) (h := y) ⟨hf, hm, hx, hy⟩
  rw [← hd] at hsb0
  have hdb : d.size ≤ 50000 := by omega
  clear hsb0
  obtain ⟨n, hn⟩ : ∃ n : Nat, sizeL f m' x y = n := ⟨(sizeL f m' x y).toNat, by omega⟩
  have hmk := fun W : World => run_make_row' (P := Try.prog) 103 5 (.int .u8 0) 1 Try.underlying103 Try.info5_ rfl .i64 .i64 n (by omega) (by omega) W
  have hsz := fun W => size84 f m' x y ⟨hf, hm', hx, hy⟩ W
  rw [hn] at hsz hsb
  have ho := of_any f hf.1 hf.2
  obtain ⟨T3, K3, v3, N, hv, hN, hme, heg, hK⟩ := planes_of hf hx hy
  rw [hv] at ho
  have hok := planes_ok hf hx hy
  have hpl := planes_length f x y
  unfold turnedL
  rw [hn, Int.toNat_natCast]
  unfold sizeL at hd hn
  generalize planesL f x y = ps at *
  have Hsz := Lib.hid hsz
  have Hn := Lib.hid hn
  have Hd := Lib.hid hd
  have Ho := Lib.hid ho
  have HK := Lib.hid hK
  have HN := Lib.hid hN
  have Hok := Lib.hid hok
  have hN3 : N ≤ 3 := by omega
  clear hsz hn hd ho hK hv hok hN
  go_enter Try.func87, Try.ntmps87
  go_wp2_with (go_at_call 84; refine (Hsz.out _).mono ?_; rintro e w1 ⟨rfl, hB1⟩)
  have hs1 := hB1.size
  have hs1' : w.heap.size + 2 ≤ w1.heap.size := by simpa using hs1
  obtain ⟨W0, hW0⟩ : ∃ W0, (w.alloc (.cells #[.int .i64 f, .int .i64 m, .int .i64 x, .int .i64 y, .string d] 49)).alloc (.cells #[.int .i64 0, .int .i64 0, .int .i64 0, .int .i64 0, .string ⟨#[]⟩] 49) = W0 := ⟨_, rfl⟩
  rw [hW0] at hB1
  have hBW : Below w.heap.size w w1 := by
    refine Below.trans ?_ (hB1.mono (by rw [← hW0]; simp; omega))
    rw [← hW0]
    exact ((Below.refl _ _).alloc (Nat.le_refl _) _).alloc (by simp) _
  have hb0 : w1.heap[w.heap.size]? = some (.cells #[.int .i64 f, .int .i64 m, .int .i64 x, .int .i64 y, .string d] 49 (0, 0)) := by
    rw [hB1.block _ (by rw [← hW0]; simp; omega), ← hW0]
    exact (Deep.blk_alloc_lt _ _ _ (by simp)).trans (Deep.blk_alloc_new _ _)
  have hb1 : w1.heap[w.heap.size + 1]? = some (.cells #[.int .i64 0, .int .i64 0, .int .i64 0, .int .i64 0, .string ⟨#[]⟩] 49 (0, 0)) := by
    rw [hB1.block _ (by rw [← hW0]; simp), ← hW0]
    exact heap_new_at _ _ _ (by simp)
  have hrow : (w1.alloc (.cells (madeCells #[.int .u8 0] n) 5)).rowIs w1.heap.size 5 n (bytesV (List.replicate n 0)) := (World.rowIs_made w1 (.int .u8 0) n 5).congr (fun i hi => by simp [bytesV, hi])
  have hBW2 := hBW.alloc hBW.size (.cells (madeCells #[.int .u8 0] n) 5)
  have hs2 : w1.heap.size < (w1.alloc (.cells (madeCells #[.int .u8 0] n) 5)).heap.size := by simp
  have g0 : (w1.alloc (.cells (madeCells #[.int .u8 0] n) 5)).heap[w.heap.size]? = some (.cells #[.int .i64 f, .int .i64 m, .int .i64 x, .int .i64 y, .string d] 49 (0, 0)) := (Deep.blk_alloc_lt _ _ _ (by omega)).trans hb0
  have g1 : (w1.alloc (.cells (madeCells #[.int .u8 0] n) 5)).heap[w.heap.size + 1]? = some (.cells #[.int .i64 0, .int .i64 0, .int .i64 0, .int .i64 0, .string ⟨#[]⟩] 49 (0, 0)) := (Deep.blk_alloc_lt _ _ _ (by omega)).trans hb1
  generalize w1.alloc (.cells (madeCells #[.int .u8 0] n) 5) = W2 at *
  generalize w1.heap.size = G at *
  have q0 : W2.cell? ⟨w.heap.size, 0, none⟩ = some (.int .i64 f) := by simp [World.cell?, g0]
  have q2 : W2.cell? ⟨w.heap.size, 2, none⟩ = some (.int .i64 x) := by simp [World.cell?, g0]
  have q3 : W2.cell? ⟨w.heap.size, 3, none⟩ = some (.int .i64 y) := by simp [World.cell?, g0]
  clear hb0 hb1 hW0 hB1 hBW hmk hs1
  clear W0
  refine start_ (n := 10) (S := fun w' => w'.cell? ⟨w.heap.size, 0, none⟩ = some (.int .i64 f) ∧ w'.cell? ⟨w.heap.size, 2, none⟩ = some (.int .i64 x) ∧ w'.cell? ⟨w.heap.size, 3, none⟩ = some (.int .i64 y)) (ds := []) #[false, false, false, false, false, false, false, false, false, false] (by kernel_rfl) rfl rfl ⟨q0, q2, q3⟩ (fun hHeld => ?_)
  refine pure_ (i := 0) (N := some 21) (v := ?_) (a' := ?_) #[true, false, false, false, false, false, false, false, false, false] rfl rfl (by kernel_rfl) (fun _ _ _ h => h) (Or.inl ⟨by rfl, ?_⟩) ?_ ?_
  rotate_left
  · intro w'
    go_simp
    with_reducible rfl
  rotate_left
  · simp only [Act.put, List.setIfInBounds_toArray, List.set_cons_zero, List.set_cons_succ, i64_w, i32_w]
    rfl
  refine pure_ (i := 3) (N := some 24) (v := ?_) (a' := ?_) #[true, false, false, true, false, false, false, false, false, false] rfl rfl (by kernel_rfl) (fun _ _ _ h => h) (Or.inl ⟨by rfl, ?_⟩) ?_ ?_
  rotate_left
  · intro w'
    go_simp
    with_reducible rfl
  rotate_left
  · simp only [Act.put, List.setIfInBounds_toArray, List.set_cons_zero, List.set_cons_succ, i64_w, i32_w]
    rfl
  refine pure_ (i := 5) (N := some 26) (v := ?_) (a' := ?_) #[true, false, false, true, false, true, false, false, false, false] rfl rfl (by kernel_rfl) (fun _ _ _ h => h) (Or.inl ⟨by rfl, ?_⟩) ?_ ?_
  rotate_left
  · intro w'
    go_simp
    with_reducible rfl
  rotate_left
  · simp only [Act.put, List.setIfInBounds_toArray, List.set_cons_zero, List.set_cons_succ, i64_w, i32_w]
    rfl
  refine pure_ (i := 9) (N := some 30) (v := ?_) (a' := ?_) #[true, false, false, true, false, true, false, false, false, true] rfl rfl (by kernel_rfl) (fun _ _ _ h => h) (Or.inl ⟨by rfl, ?_⟩) ?_ ?_
  rotate_left
  · intro w'
    go_simp
    with_reducible rfl
  rotate_left
  · simp only [Act.put, List.setIfInBounds_toArray, List.set_cons_zero, List.set_cons_succ, i64_w, i32_w]
    rfl
  refine take_ (i := 1) (N := some 22) (v := ?_) (a' := ?_) #[true, true, false, true, false, true, false, false, false, true] rfl rfl (by kernel_rfl) (fun _ _ _ h => h) (Or.inl ⟨by rfl, ?_⟩) hHeld ?_ ?_
  rotate_left
  · rintro w' ⟨s0, s1, s2⟩
    go_simp
    with_reducible rfl
  rotate_left
  · simp only [Act.put, List.setIfInBounds_toArray, List.set_cons_zero, List.set_cons_succ, i64_w, i32_w]
    rfl
  refine take_ (i := 4) (N := some 25) (v := ?_) (a' := ?_) #[true, true, false, true, true, true, false, false, false, true] rfl rfl (by kernel_rfl) (fun _ _ _ h => h) (Or.inl ⟨by rfl, ?_⟩) hHeld ?_ ?_
  rotate_left
  · rintro w' ⟨s0, s1, s2⟩
    go_simp
    with_reducible rfl
  rotate_left
  · simp only [Act.put, List.setIfInBounds_toArray, List.set_cons_zero, List.set_cons_succ, i64_w, i32_w]
    rfl
  refine take_ (i := 6) (N := some 27) (v := ?_) (a' := ?_) #[true, true, false, true, true, true, true, false, false, true] rfl rfl (by kernel_rfl) (fun _ _ _ h => h) (Or.inl ⟨by rfl, ?_⟩) hHeld ?_ ?_
  rotate_left
  · rintro w' ⟨s0, s1, s2⟩
    go_simp
    with_reducible rfl
  rotate_left
  · simp only [Act.put, List.setIfInBounds_toArray, List.set_cons_zero, List.set_cons_succ, i64_w, i32_w]
    rfl
  refine one_ (i := 2) (N := some 23) #[true, true, true, true, true, true, true, false, false, true] rfl rfl (by kernel_rfl) (by decide) (fun K hK => ?_)
  refine goes_ Try.func131 (by kernel_rfl) rfl #[.int .i64 f] (by rfl) rfl rfl (by simp only [List.map_toArray, List.map_cons, List.map_nil]; rfl) ?_
  with_reducible refine (Ho.out _).mono ?_
  rintro e w3 ⟨rfl, rfl⟩
  refine ⟨_, rfl, ?_⟩
  refine hK.out _ _ ⟨hHeld.1, hHeld.2.1, hHeld.2.2⟩ (fun hHeld => ?_)
  clear hK K
  refine norm_ (a' := ?_) ?_ ?_
  rotate_left
  · show Act.put _ (some 23) _ = _
    simp only [Act.put, List.setIfInBounds_toArray, List.set_cons_zero, List.set_cons_succ, i64_w, i32_w]
    rfl
  refine one_ (i := 7) (N := some 28) #[true, true, true, true, true, true, true, true, false, true] rfl rfl (by kernel_rfl) (by decide) (fun K hK => ?_)
  refine call_ K3 #[v3, .int .i64 x, .int .i64 y] (by rfl) rfl (by unfold execOp; simp [resolve, Deferred.ofValue, invoke, Act.eval]; unfold callMethod; go_simp) ?_
  refine (HK.out _).mono ?_
  rintro e w4 ⟨ad, rfl, hC, hA, hB4⟩
  refine ⟨_, rfl, ?_⟩
  refine hK.out _ _ ⟨pw_cell_below hB4 hHeld.1, pw_cell_below hB4 hHeld.2.1, pw_cell_below hB4 hHeld.2.2⟩ (fun hHeld => ?_)
  clear hK K
  refine norm_ (a' := ?_) ?_ ?_
  rotate_left
  · show Act.put _ (some 28) _ = _
    simp only [Act.put, List.setIfInBounds_toArray, List.set_cons_zero, List.set_cons_succ, i64_w, i32_w]
    rfl
  refine pure_ (i := 8) (N := some 29) (v := ?_) (a' := ?_) #[true, true, true, true, true, true, true, true, true, true] rfl rfl (by kernel_rfl) (fun _ _ _ h => h) (Or.inl ⟨by rfl, ?_⟩) ?_ ?_
  rotate_left
  · intro w'
    go_simp
    with_reducible rfl
  rotate_left
  · simp only [Act.put, List.setIfInBounds_toArray, List.set_cons_zero, List.set_cons_succ, i64_w, i32_w]
    rfl
  refine done_ (by kernel_rfl) ?_

  have hK4 : KpG G W2 w4 := (KpG.of_below hB4).drew
  have hr4 : w4.rowIs G 5 n (bytesV (List.replicate n 0)) := row_below hrow.drew hB4 hs2
  have hB4' : Below w.heap.size w w4 := hBW2.drew.trans (hB4.mono (by simpa using hBW2.size))
  have hA' : G < ad.block := Nat.lt_of_lt_of_le hs2 hA
  have hc1 : w4.cell? ⟨w.heap.size, 1, none⟩ = some (.int .i64 m) := hK4.cell (by simp [World.cell?, g0]) (by simp; omega)
  have hc4 : w4.cell? ⟨w.heap.size, 4, none⟩ = some (.string d) := hK4.cell (by simp [World.cell?, g0]) (by simp; omega)
  have hg0 := (hK4.same w.heap.size (by omega) (by omega)).trans g0
  have hg1 := (hK4.same (w.heap.size + 1) (by omega) (by omega)).trans g1
  have hwG : w.heap.size ≤ G := by omega
  have hG4 : G < w4.heap.size := Nat.lt_of_lt_of_le hs2 hK4.size
  clear hrow hBW2 hB4 q0 q2 q3 g0 g1 hK4 hs2 hA hHeld hme heg Ho HK Hsz
  go_wp2
  go_loopw [6, 7, 30] (fun vf vt i wr => ∃ j : Nat, j ≤ N ∧ i = .int .i64 j ∧ vf = .int .i64 (turnUpto d.data.toList m m' ps n j).fr ∧ vt = .int .i64 (turnUpto d.data.toList m m' ps n j).tz ∧ wr.rowIs G 5 n (bytesV (turnUpto d.data.toList m m' ps n j).out) ∧ KpG G w4 wr ∧ Below w.heap.size w wr) (fun _ _ i _ => N - (intOf i).toNat)
  case atStart => exact ⟨0, Nat.zero_le _, rfl, rfl, rfl, hr4, KpG.refl _ _, hB4'⟩
  case round =>
    clear hr4 hB4'
    obtain ⟨j, hj, rfl, rfl, rfl, hr, hK, hB⟩ := hrel
    by_cases hlt : j < N
    · have hlt2 : j < ps.length := by rw [← HN.out]; exact hlt
      have hq := Hok.out _ (mem_rd hlt2)
      have hsd := turnUpto_succ d.data.toList m m' ps n j hlt2
      have hfr := turnUpto_fr d.data.toList m m' ps n j
      have hs1 := sumL_take ps (pSize m) (fun q hq => by have := pSize_bd (Hok.out q hq) hm; omega) j hlt2
      have hs2 := sumL_take ps (pSize m') (fun q hq => by have := pSize_bd (Hok.out q hq) hm'; omega) j hlt2
      have hz1 := pSize_bd hq hm
      have hz2 := pSize_bd hq hm'
      rw [← hfr.1, ← Hd.out] at hs1
      rw [← hfr.2, Hn.out] at hs2
      have hlen : (turnUpto d.data.toList m m' ps n j).out.length = n := turnUpto_length Hok.out hm hm' (by rw [← Hd.out]; simp) (by rw [Hn.out]; exact Int.le_refl _) j (by omega)
      have hC2 := hC
      rw [HN.out] at hC2
      obtain ⟨ad2, e2, h1, h2, h3, h4⟩ := at_T43 hC2 j (by omega) (by omega)
      obtain rfl := Option.some.inj e2
      simp only [Int.toNat_natCast] at h1 h2 h3 h4
      generalize rd_T43 ps j = q at *
      generalize turnUpto d.data.toList m m' ps n j = st at *
      obtain ⟨fr, tz, out⟩ := st
      have hsz1 := fun W => video_plane_size.calls q.f0 q.f1 q.f2 q.f3 m _ W (planeSize_eq hq hm)
      have hsz2 := fun W => video_plane_size.calls q.f0 q.f1 q.f2 q.f3 m' _ W (planeSize_eq hq hm')
      dsimp only at hr hsd hs1 hs2 hlen
      unfold turnStep at hsd
      dsimp only at hsd
      have g1 := hK.cell h1 (by first | (rw [add_block]; omega) | (show (ad.add (j * 4)).block ≠ G; rw [add_block]; omega))
      have g2 := hK.cell h2 (by first | (rw [add_block]; omega) | (show (ad.add (j * 4)).block ≠ G; rw [add_block]; omega))
      have g3 := hK.cell h3 (by first | (rw [add_block]; omega) | (show (ad.add (j * 4)).block ≠ G; rw [add_block]; omega))
      have g4 := hK.cell h4 (by first | (rw [add_block]; omega) | (show (ad.add (j * 4)).block ≠ G; rw [add_block]; omega))
      have k1 := hK.cell hc1 (by simp; omega)
      have k4 := hK.cell hc4 (by simp; omega)
      clear h1 h2 h3 h4 hC2 hfr e2 hc1 hc4
      obtain ⟨qa, qb, qc, qd⟩ := q
      have HQ := Lib.hid hq
      have Hsd := Lib.hid hsd
      have Hlen := Lib.hid hlen
      have Hsz1 := Lib.hid hsz1
      have Hsz2 := Lib.hid hsz2
      have HC := Lib.hid hC
      clear hq hsd hlen hsz1 hsz2 hC
      have hqa := HQ.out.1
      have hqb := HQ.out.2.1
      have hqc := HQ.out.2.2.1
      dsimp only at g1 g2 g3 g4 hqa hqb hqc
      go_wp2
      have hGr : G < wr.heap.size := Nat.lt_of_lt_of_le hG4 hK.size
      have hKq : KpG G w4 (wr.alloc (.cells #[.int .i64 qa, .int .i64 qb, .int .i64 qc, .int .i64 qd] 154)) := hK.trans (KpG.of_below ((Below.refl _ _).alloc (Nat.le_refl _) _))
      have hBq := hB.alloc hB.size (.cells #[.int .i64 qa, .int .i64 qb, .int .i64 qc, .int .i64 qd] 154)
      have hrq := hr.alloc (.cells #[.int .i64 qa, .int .i64 qb, .int .i64 qc, .int .i64 qd] 154)
      have hq9 : (wr.alloc (.cells #[.int .i64 qa, .int .i64 qb, .int .i64 qc, .int .i64 qd] 154)).heap[wr.heap.size]? = some (.cells #[.int .i64 qa, .int .i64 qb, .int .i64 qc, .int .i64 qd] 154 (0, 0)) := Deep.blk_alloc_new _ _
      have k1q : (wr.alloc (.cells #[.int .i64 qa, .int .i64 qb, .int .i64 qc, .int .i64 qd] 154)).cell? ⟨w.heap.size, 1, none⟩ = some (.int .i64 m) := pw_cell_below (below_alloc (Below.refl _ _) _) k1
      have k4q : (wr.alloc (.cells #[.int .i64 qa, .int .i64 qb, .int .i64 qc, .int .i64 qd] 154)).cell? ⟨w.heap.size, 4, none⟩ = some (.string d) := pw_cell_below (below_alloc (Below.refl _ _) _) k4
      have hsq : wr.heap.size < (wr.alloc (.cells #[.int .i64 qa, .int .i64 qb, .int .i64 qc, .int .i64 qd] 154)).heap.size := by simp
      generalize wr.alloc (.cells #[.int .i64 qa, .int .i64 qb, .int .i64 qc, .int .i64 qd] 154) = Wq at *
      generalize wr.heap.size = Bq at *
      clear hr hK hB k1 k4 g1 g2 g3 g4
      clear wr
      obtain ⟨qbn, rfl⟩ : ∃ k : Nat, qb = k := ⟨qb.toNat, by omega⟩
      obtain ⟨qan, rfl⟩ : ∃ k : Nat, qa = k := ⟨qa.toNat, by omega⟩
      obtain ⟨qcn, rfl⟩ : ∃ k : Nat, qc = k := ⟨qc.toNat, by omega⟩
      go_loopw [36] (fun i wr => ∃ k : Nat, k ≤ qbn ∧ i = .int .i64 k ∧ wr.rowIs G 5 n (bytesV ((List.range k).foldl (turnRow d.data.toList m m' ⟨qan, qbn, qcn, qd⟩ fr tz) out)) ∧ KpG G Wq wr ∧ Below w.heap.size w wr) (fun i _ => qbn - (intOf i).toNat)
      case atStart => exact ⟨0, Nat.zero_le _, rfl, by simpa using hrq, KpG.refl _ _, hBq⟩
      case round =>
        clear hrq hBq
        obtain ⟨ky, hky, rfl, hr, hK, hB⟩ := hrel
        by_cases hly : ky < qbn
        · have hrs := range_foldl_succ (turnRow d.data.toList m m' ⟨qan, qbn, qcn, qd⟩ fr tz) out ky
          have hly2 := turnPlane_length (d := d.data.toList) (m := m) (m' := m') HQ.out hs1.1 hs2.1 (by simpa using hs1.2) hs2.2 (List.range ky) (fun y hy => by rw [List.mem_range] at hy; show (y : Int) < (qbn : Int); omega) out Hlen.out
          generalize (List.range ky).foldl (turnRow d.data.toList m m' ⟨qan, qbn, qcn, qd⟩ fr tz) out = oy at *
          have Hrs := Lib.hid hrs
          have Hly2 := Lib.hid hly2
          clear hrs hly2
          have c9 := (hK.same Bq hsq (by omega)).trans hq9
          have g0 : wr.cell? ⟨Bq, 0, none⟩ = some (.int .i64 qan) := by simp [World.cell?, c9]
          go_wp2
          clear g0
          go_loopw [41] (fun i wr => ∃ k : Nat, k ≤ qan ∧ i = .int .i64 k ∧ wr.rowIs G 5 n (bytesV ((List.range k).foldl (turnCell d.data.toList m m' ⟨qan, qbn, qcn, qd⟩ fr tz ky) oy)) ∧ KpG G Wq wr ∧ Below w.heap.size w wr) (fun i _ => qan - (intOf i).toNat)
          case atStart => exact ⟨0, Nat.zero_le _, rfl, by simpa using hr, hK, hB⟩
          case round =>
            clear hr hB hK c9
            obtain ⟨kx, hkx, rfl, hr, hK, hB⟩ := hrel
            by_cases hlx : kx < qan
            · have hcs := range_foldl_succ (turnCell d.data.toList m m' ⟨qan, qbn, qcn, qd⟩ fr tz ky) oy kx
              have hlx2 := turnRow_length (d := d.data.toList) (m := m) (m' := m') HQ.out hs1.1 hs2.1 (by simpa using hs1.2) hs2.2 (y := ky) (by show (ky : Int) < (qbn : Int); omega) (List.range kx) (fun x hx => by rw [List.mem_range] at hx; show (x : Int) < (qan : Int); omega) oy Hly2.out
              generalize (List.range kx).foldl (turnCell d.data.toList m m' ⟨qan, qbn, qcn, qd⟩ fr tz ky) oy = ox at *
              have hp1 := pAt_bd HQ.out m' (x := (kx : Int)) (y := (ky : Int)) ⟨by omega, by show (kx : Int) < (qan : Int); omega⟩ ⟨by omega, by show (ky : Int) < (qbn : Int); omega⟩
              have hp2 := pAt_bd HQ.out m (x := (kx : Int)) (y := (ky : Int)) ⟨by omega, by show (kx : Int) < (qan : Int); omega⟩ ⟨by omega, by show (ky : Int) < (qbn : Int); omega⟩
              have hca1 := fun W => video_plane_at.calls qan qbn qcn qd m' kx ky _ W (planeAt_eq HQ.out hm' (x := (kx : Int)) (y := (ky : Int)) ⟨by omega, by show (kx : Int) < (qan : Int); omega⟩ ⟨by omega, by show (ky : Int) < (qbn : Int); omega⟩)
              have hca2 := fun W => video_plane_at.calls qan qbn qcn qd m kx ky _ W (planeAt_eq HQ.out hm (x := (kx : Int)) (y := (ky : Int)) ⟨by omega, by show (kx : Int) < (qan : Int); omega⟩ ⟨by omega, by show (ky : Int) < (qbn : Int); omega⟩)
              have hcell : turnCell d.data.toList m m' ⟨qan, qbn, qcn, qd⟩ fr tz ky ox kx = putAt ox (tz + pAt m' ⟨qan, qbn, qcn, qd⟩ kx ky).toNat (seg d.data.toList (fr + pAt m ⟨qan, qbn, qcn, qd⟩ kx ky).toNat qcn) := rfl
              rw [hcell] at hcs
              clear hcell
              dsimp only at hp1 hp2
              generalize pAt m' ⟨qan, qbn, qcn, qd⟩ kx ky = a1 at *
              generalize pAt m ⟨qan, qbn, qcn, qd⟩ kx ky = a2 at *
              obtain ⟨k1, hk1⟩ : ∃ k : Nat, tz + a1 = k := ⟨(tz + a1).toNat, by omega⟩
              obtain ⟨k2, hk2⟩ : ∃ k : Nat, fr + a2 = k := ⟨(fr + a2).toNat, by omega⟩
              have b1 : k1 + qcn ≤ n := by omega
              have b2 : k2 + qcn ≤ d.size := by omega
              rw [hk1, hk2, Int.toNat_natCast, Int.toNat_natCast] at hcs
              have hw1 : IntKind.i64.wrap (tz + a1) = (k1 : Int) := by rw [hk1]; exact IntWalk.i64_in _ (by omega)
              have hw2 : IntKind.i64.wrap (fr + a2) = (k2 : Int) := by rw [hk2]; exact IntWalk.i64_in _ (by omega)
              have c9 := (hK.same Bq hsq (by omega)).trans hq9
              have p0 : wr.cell? ⟨Bq, 0, none⟩ = some (.int .i64 qan) := by simp [World.cell?, c9]
              have p1 : wr.cell? ⟨Bq, 1, none⟩ = some (.int .i64 qbn) := by simp [World.cell?, c9]
              have p2 : wr.cell? ⟨Bq, 2, none⟩ = some (.int .i64 qcn) := by simp [World.cell?, c9]
              have p3 : wr.cell? ⟨Bq, 3, none⟩ = some (.int .i64 qd) := by simp [World.cell?, c9]
              have p4 := hK.cell k1q (by simp; omega)
              have p5 := hK.cell k4q (by simp; omega)
              have Hcs := Lib.hid hcs
              have Hlx2 := Lib.hid hlx2
              have Hc1 := Lib.hid hca1
              have Hc2 := Lib.hid hca2
              have Hz := Lib.hid (And.intro hz1 hz2)
              have hkn : k1 ≤ n := by omega
              have hkn2 : ¬ n = k1 := by omega
              have hkd : k2 ≤ d.size := by omega
              have hqd : qcn ≤ d.size - k2 := by omega
              have hKs := Nat.le_trans hKq.size hK.size
              clear hcs hlx2 hca1 hca2 hk1 hk2 hp1 hp2 c9 hz1 hz2
              go_wp2
              refine start_ (n := 24) (S := fun w' => w'.cell? ⟨Bq, 0, none⟩ = some (.int .i64 qan) ∧ w'.cell? ⟨Bq, 1, none⟩ = some (.int .i64 qbn) ∧ w'.cell? ⟨Bq, 2, none⟩ = some (.int .i64 qcn) ∧ w'.cell? ⟨Bq, 3, none⟩ = some (.int .i64 qd) ∧ w'.cell? ⟨w.heap.size, 1, none⟩ = some (.int .i64 m) ∧ w'.cell? ⟨w.heap.size, 4, none⟩ = some (.string d)) (ds := [23]) #[false, false, false, false, false, false, false, false, false, false, false, false, false, false, false, false, false, false, false, false, false, false, false, false] (by kernel_rfl) rfl rfl ⟨p0, p1, p2, p3, p4, p5⟩ (fun hHeld => ?_)
              refine pure_ (i := 0) (N := some 44) (v := ?_) (a' := ?_) #[true, false, false, false, false, false, false, false, false, false, false, false, false, false, false, false, false, false, false, false, false, false, false, false] rfl rfl (by kernel_rfl) (fun _ _ _ h => h) (Or.inl ⟨by rfl, ?_⟩) ?_ ?_
              rotate_left
              · intro w'
                go_simp
                with_reducible rfl
              rotate_left
              · simp only [Act.put, List.setIfInBounds_toArray, List.set_cons_zero, List.set_cons_succ, i64_w, i32_w]
                rfl
              refine pure_ (i := 1) (N := some 45) (v := ?_) (a' := ?_) #[true, true, false, false, false, false, false, false, false, false, false, false, false, false, false, false, false, false, false, false, false, false, false, false] rfl rfl (by kernel_rfl) (fun _ _ _ h => h) (Or.inl ⟨by rfl, ?_⟩) ?_ ?_
              rotate_left
              · intro w'
                go_simp
                with_reducible rfl
              rotate_left
              · simp only [Act.put, List.setIfInBounds_toArray, List.set_cons_zero, List.set_cons_succ, i64_w, i32_w]
                rfl
              refine pure_ (i := 3) (N := some 47) (v := ?_) (a' := ?_) #[true, true, false, true, false, false, false, false, false, false, false, false, false, false, false, false, false, false, false, false, false, false, false, false] rfl rfl (by kernel_rfl) (fun _ _ _ h => h) (Or.inl ⟨by rfl, ?_⟩) ?_ ?_
              rotate_left
              · intro w'
                go_simp
                with_reducible rfl
              rotate_left
              · simp only [Act.put, List.setIfInBounds_toArray, List.set_cons_zero, List.set_cons_succ, i64_w, i32_w]
                rfl
              refine pure_ (i := 4) (N := some 48) (v := ?_) (a' := ?_) #[true, true, false, true, true, false, false, false, false, false, false, false, false, false, false, false, false, false, false, false, false, false, false, false] rfl rfl (by kernel_rfl) (fun _ _ _ h => h) (Or.inl ⟨by rfl, ?_⟩) ?_ ?_
              rotate_left
              · intro w'
                go_simp
                with_reducible rfl
              rotate_left
              · simp only [Act.put, List.setIfInBounds_toArray, List.set_cons_zero, List.set_cons_succ, i64_w, i32_w]
                rfl
              refine pure_ (i := 5) (N := some 49) (v := ?_) (a' := ?_) #[true, true, false, true, true, true, false, false, false, false, false, false, false, false, false, false, false, false, false, false, false, false, false, false] rfl rfl (by kernel_rfl) (fun _ _ _ h => h) (Or.inl ⟨by rfl, ?_⟩) ?_ ?_
              rotate_left
              · intro w'
                go_simp
                with_reducible rfl
              rotate_left
              · simp only [Act.put, List.setIfInBounds_toArray, List.set_cons_zero, List.set_cons_succ, i64_w, i32_w]
                rfl
              refine pure_ (i := 9) (N := some 53) (v := ?_) (a' := ?_) #[true, true, false, true, true, true, false, false, false, true, false, false, false, false, false, false, false, false, false, false, false, false, false, false] rfl rfl (by kernel_rfl) (fun _ _ _ h => h) (Or.inl ⟨by rfl, ?_⟩) ?_ ?_
              rotate_left
              · intro w'
                go_simp
                with_reducible rfl
              rotate_left
              · simp only [Act.put, List.setIfInBounds_toArray, List.set_cons_zero, List.set_cons_succ, i64_w, i32_w]
                rfl
              refine pure_ (i := 11) (N := some 55) (v := ?_) (a' := ?_) #[true, true, false, true, true, true, false, false, false, true, false, true, false, false, false, false, false, false, false, false, false, false, false, false] rfl rfl (by kernel_rfl) (fun _ _ _ h => h) (Or.inl ⟨by rfl, ?_⟩) ?_ ?_
              rotate_left
              · intro w'
                go_simp
                with_reducible rfl
              rotate_left
              · simp only [Act.put, List.setIfInBounds_toArray, List.set_cons_zero, List.set_cons_succ, i64_w, i32_w]
                rfl
              refine pure_ (i := 13) (N := some 57) (v := ?_) (a' := ?_) #[true, true, false, true, true, true, false, false, false, true, false, true, false, true, false, false, false, false, false, false, false, false, false, false] rfl rfl (by kernel_rfl) (fun _ _ _ h => h) (Or.inl ⟨by rfl, ?_⟩) ?_ ?_
              rotate_left
              · intro w'
                go_simp
                with_reducible rfl
              rotate_left
              · simp only [Act.put, List.setIfInBounds_toArray, List.set_cons_zero, List.set_cons_succ, i64_w, i32_w]
                rfl
              refine pure_ (i := 15) (N := some 59) (v := ?_) (a' := ?_) #[true, true, false, true, true, true, false, false, false, true, false, true, false, true, false, true, false, false, false, false, false, false, false, false] rfl rfl (by kernel_rfl) (fun _ _ _ h => h) (Or.inl ⟨by rfl, ?_⟩) ?_ ?_
              rotate_left
              · intro w'
                go_simp
                with_reducible rfl
              rotate_left
              · simp only [Act.put, List.setIfInBounds_toArray, List.set_cons_zero, List.set_cons_succ, i64_w, i32_w]
                rfl
              refine pure_ (i := 16) (N := some 60) (v := ?_) (a' := ?_) #[true, true, false, true, true, true, false, false, false, true, false, true, false, true, false, true, true, false, false, false, false, false, false, false] rfl rfl (by kernel_rfl) (fun _ _ _ h => h) (Or.inl ⟨by rfl, ?_⟩) ?_ ?_
              rotate_left
              · intro w'
                go_simp
                with_reducible rfl
              rotate_left
              · simp only [Act.put, List.setIfInBounds_toArray, List.set_cons_zero, List.set_cons_succ, i64_w, i32_w]
                rfl
              refine pure_ (i := 20) (N := some 64) (v := ?_) (a' := ?_) #[true, true, false, true, true, true, false, false, false, true, false, true, false, true, false, true, true, false, false, false, true, false, false, false] rfl rfl (by kernel_rfl) (fun _ _ _ h => h) (Or.inl ⟨by rfl, ?_⟩) ?_ ?_
              rotate_left
              · intro w'
                go_simp
                with_reducible rfl
              rotate_left
              · simp only [Act.put, List.setIfInBounds_toArray, List.set_cons_zero, List.set_cons_succ, i64_w, i32_w]
                rfl
              refine take_ (i := 2) (N := some 46) (v := ?_) (a' := ?_) #[true, true, true, true, true, true, false, false, false, true, false, true, false, true, false, true, true, false, false, false, true, false, false, false] rfl rfl (by kernel_rfl) (fun _ _ _ h => h) (Or.inl ⟨by rfl, ?_⟩) hHeld ?_ ?_
              rotate_left
              · rintro w' ⟨s0, s1, s2, s3, s4, s5⟩
                go_simp
                with_reducible rfl
              rotate_left
              · simp only [Act.put, List.setIfInBounds_toArray, List.set_cons_zero, List.set_cons_succ, i64_w, i32_w]
                rfl
              refine take_ (i := 10) (N := some 54) (v := ?_) (a' := ?_) #[true, true, true, true, true, true, false, false, false, true, true, true, false, true, false, true, true, false, false, false, true, false, false, false] rfl rfl (by kernel_rfl) (fun _ _ _ h => h) (Or.inl ⟨by rfl, ?_⟩) hHeld ?_ ?_
              rotate_left
              · rintro w' ⟨s0, s1, s2, s3, s4, s5⟩
                go_simp
                with_reducible rfl
              rotate_left
              · simp only [Act.put, List.setIfInBounds_toArray, List.set_cons_zero, List.set_cons_succ, i64_w, i32_w]
                rfl
              refine take_ (i := 12) (N := some 56) (v := ?_) (a' := ?_) #[true, true, true, true, true, true, false, false, false, true, true, true, true, true, false, true, true, false, false, false, true, false, false, false] rfl rfl (by kernel_rfl) (fun _ _ _ h => h) (Or.inl ⟨by rfl, ?_⟩) hHeld ?_ ?_
              rotate_left
              · rintro w' ⟨s0, s1, s2, s3, s4, s5⟩
                go_simp
                with_reducible rfl
              rotate_left
              · simp only [Act.put, List.setIfInBounds_toArray, List.set_cons_zero, List.set_cons_succ, i64_w, i32_w]
                rfl
              refine take_ (i := 14) (N := some 58) (v := ?_) (a' := ?_) #[true, true, true, true, true, true, false, false, false, true, true, true, true, true, true, true, true, false, false, false, true, false, false, false] rfl rfl (by kernel_rfl) (fun _ _ _ h => h) (Or.inl ⟨by rfl, ?_⟩) hHeld ?_ ?_
              rotate_left
              · rintro w' ⟨s0, s1, s2, s3, s4, s5⟩
                go_simp
                with_reducible rfl
              rotate_left
              · simp only [Act.put, List.setIfInBounds_toArray, List.set_cons_zero, List.set_cons_succ, i64_w, i32_w]
                rfl
              refine take_ (i := 21) (N := some 65) (v := ?_) (a' := ?_) #[true, true, true, true, true, true, false, false, false, true, true, true, true, true, true, true, true, false, false, false, true, true, false, false] rfl rfl (by kernel_rfl) (fun _ _ _ h => h) (Or.inl ⟨by rfl, ?_⟩) hHeld ?_ ?_
              rotate_left
              · rintro w' ⟨s0, s1, s2, s3, s4, s5⟩
                go_simp
                with_reducible rfl
              rotate_left
              · simp only [Act.put, List.setIfInBounds_toArray, List.set_cons_zero, List.set_cons_succ, i64_w, i32_w]
                rfl
              refine one_ (i := 6) (N := some 50) #[true, true, true, true, true, true, true, false, false, true, true, true, true, true, true, true, true, false, false, false, true, true, false, false] rfl rfl (by kernel_rfl) (by decide) (fun K hK => ?_)
              refine goes_ Try.func133 (by kernel_rfl) rfl #[.agg #[.int .i64 qan, .int .i64 qbn, .int .i64 qcn, .int .i64 qd], .int .i64 m', .int .i64 kx, .int .i64 ky] (by rfl) rfl rfl (by simp only [List.map_toArray, List.map_cons, List.map_nil]; rfl) ?_
              with_reducible refine (Hc1.out _).mono ?_
              rintro e w5 ⟨rfl, hB5⟩
              refine ⟨_, rfl, ?_⟩
              refine hK.out _ _ ⟨pw_cell_below hB5 hHeld.1, pw_cell_below hB5 hHeld.2.1, pw_cell_below hB5 hHeld.2.2.1, pw_cell_below hB5 hHeld.2.2.2.1, pw_cell_below hB5 hHeld.2.2.2.2.1, pw_cell_below hB5 hHeld.2.2.2.2.2⟩ (fun hHeld => ?_)
              clear hK K
              refine norm_ (a' := ?_) ?_ ?_
              rotate_left
              · show Act.put _ (some 50) _ = _
                simp only [Act.put, List.setIfInBounds_toArray, List.set_cons_zero, List.set_cons_succ, i64_w, i32_w]
                rfl
              refine pure_ (i := 7) (N := some 51) (v := ?_) (a' := ?_) #[true, true, true, true, true, true, true, true, false, true, true, true, true, true, true, true, true, false, false, false, true, true, false, false] rfl rfl (by kernel_rfl) (fun _ _ _ h => h) (Or.inl ⟨by rfl, ?_⟩) ?_ ?_
              rotate_left
              · intro w'
                go_simp
                with_reducible rfl
              rotate_left
              · simp only [Act.put, List.setIfInBounds_toArray, List.set_cons_zero, List.set_cons_succ, i64_w, i32_w]
                rfl
              refine pure_ (i := 8) (N := some 52) (v := ?_) (a' := ?_) #[true, true, true, true, true, true, true, true, true, true, true, true, true, true, true, true, true, false, false, false, true, true, false, false] rfl rfl (by kernel_rfl) (fun _ _ _ h => h) (Or.inl ⟨by rfl, ?_⟩) ?_ ?_
              rotate_left
              · intro w'
                go_simp
                with_reducible rfl
              rotate_left
              · simp only [Act.put, List.setIfInBounds_toArray, List.set_cons_zero, List.set_cons_succ, i64_w, i32_w]
                rfl
              refine one_ (i := 17) (N := some 61) #[true, true, true, true, true, true, true, true, true, true, true, true, true, true, true, true, true, true, false, false, true, true, false, false] rfl rfl (by kernel_rfl) (by decide) (fun K hK => ?_)
              refine goes_ Try.func133 (by kernel_rfl) rfl #[.agg #[.int .i64 qan, .int .i64 qbn, .int .i64 qcn, .int .i64 qd], .int .i64 m, .int .i64 kx, .int .i64 ky] (by rfl) rfl rfl (by simp only [List.map_toArray, List.map_cons, List.map_nil]; rfl) ?_
              with_reducible refine (Hc2.out _).mono ?_
              rintro e w6 ⟨rfl, hB6⟩
              have hR6 := row_below (row_below hr.drew hB5 (Nat.lt_of_lt_of_le hG4 hKs)) hB6 (Nat.lt_of_lt_of_le hG4 (Nat.le_trans hKs hB5.size))
              refine ⟨_, rfl, ?_⟩
              refine hK.out _ _ ⟨pw_cell_below hB6 hHeld.1, pw_cell_below hB6 hHeld.2.1, pw_cell_below hB6 hHeld.2.2.1, pw_cell_below hB6 hHeld.2.2.2.1, pw_cell_below hB6 hHeld.2.2.2.2.1, pw_cell_below hB6 hHeld.2.2.2.2.2⟩ (fun hHeld => ?_)
              clear hK K
              refine norm_ (a' := ?_) ?_ ?_
              rotate_left
              · show Act.put _ (some 61) _ = _
                simp only [Act.put, List.setIfInBounds_toArray, List.set_cons_zero, List.set_cons_succ, i64_w, i32_w]
                rfl
              refine pure_ (i := 18) (N := some 62) (v := ?_) (a' := ?_) #[true, true, true, true, true, true, true, true, true, true, true, true, true, true, true, true, true, true, true, false, true, true, false, false] rfl rfl (by kernel_rfl) (fun _ _ _ h => h) (Or.inl ⟨by rfl, ?_⟩) ?_ ?_
              rotate_left
              · intro w'
                go_simp
                with_reducible rfl
              rotate_left
              · simp only [Act.put, List.setIfInBounds_toArray, List.set_cons_zero, List.set_cons_succ, i64_w, i32_w]
                rfl
              refine pure_ (i := 19) (N := some 63) (v := ?_) (a' := ?_) #[true, true, true, true, true, true, true, true, true, true, true, true, true, true, true, true, true, true, true, true, true, true, false, false] rfl rfl (by kernel_rfl) (fun _ _ _ h => h) (Or.inl ⟨by rfl, ?_⟩) ?_ ?_
              rotate_left
              · intro w'
                go_simp
                with_reducible rfl
              rotate_left
              · simp only [Act.put, List.setIfInBounds_toArray, List.set_cons_zero, List.set_cons_succ, i64_w, i32_w]
                rfl
              refine pure_ (i := 22) (N := some 66) (v := ?_) (a' := ?_) #[true, true, true, true, true, true, true, true, true, true, true, true, true, true, true, true, true, true, true, true, true, true, true, false] rfl rfl (by kernel_rfl) (fun _ _ _ h => h) (Or.inl ⟨by rfl, ?_⟩) ?_ ?_
              rotate_left
              · intro w'
                go_simp
                with_reducible rfl
              rotate_left
              · simp only [Act.put, List.setIfInBounds_toArray, List.set_cons_zero, List.set_cons_succ, i64_w, i32_w]
                rfl
              refine last_ (i := 23) (N := some 67) #[true, true, true, true, true, true, true, true, true, true, true, true, true, true, true, true, true, true, true, true, true, true, true, true] rfl rfl (by kernel_rfl) (by decide) (fun K hK => ?_)
              refine step_copy_string rfl (.tmp 52) (.tmp 66) 103 9 rfl 5 Try.underlying103 size5_ G k1 (n - k1) (n - k1) ?_ (d.extract k2 (k2 + qcn)) ?_ ?_ ?_ ?_ ?_
              · rfl
              · exact congrArg Value.string (cut_cut hqd hkd)
              · rw [cut_size b2]; omega
              · intro j hj; rw [cut_size b2] at hj; rw [hR6.cell (by omega)]; rfl
              · intro j hj; exact hR6.frozen _
              refine hK.out _ _ ?_
              clear hK K
              refine norm_ (a' := ?_) ?_ ?_
              rotate_left
              · show Act.put _ (some 67) _ = _
                simp only [Act.put, List.setIfInBounds_toArray, List.set_cons_zero, List.set_cons_succ, i64_w, i32_w]
                rfl
              refine done_ (by kernel_rfl) ?_

              have hKB : KpG G Wq (w6.setCells G k1 ((d.extract k2 (k2 + qcn)).data.toList.map fun x => Value.int .u8 (x.toNat : Int))) := (hK.trans ((KpG.of_below hB5).drew.trans (KpG.of_below hB6))).setCells _ _
              have hBB : Below w.heap.size w (w6.setCells G k1 ((d.extract k2 (k2 + qcn)).data.toList.map fun x => Value.int .u8 (x.toNat : Int))) := below_setCells hwG _ _ _ ((hB.drew.trans (hB5.mono hB.size)).trans (hB6.mono (Nat.le_trans hB.size hB5.size)))
              have hRR : (w6.setCells G k1 ((d.extract k2 (k2 + qcn)).data.toList.map fun x => Value.int .u8 (x.toNat : Int))).rowIs G 5 n (bytesV (putAt ox k1 (seg d.data.toList k2 qcn))) := by
                rw [cut_bytes]
                exact row_put hR6 Hlx2.out (by rw [seg_length _ _ _ (by simpa using b2)]; exact b1)
              generalize w6.setCells G k1 ((d.extract k2 (k2 + qcn)).data.toList.map fun x => Value.int .u8 (x.toNat : Int)) = W7 at *
              go_wp2
              go_roundw
              case rel => exact ⟨kx + 1, by omega, by go_num, by rw [Hcs.out]; exact hRR, hKB, hBB⟩
              case measure => simp [intOf]; omega
            · have e : kx = qan := by omega
              subst e
              go_wp2
              go_roundw
              case rel => exact ⟨ky + 1, by omega, by go_num, by rw [Hrs.out]; exact hr, hK, hB⟩
              case measure => simp [intOf]; omega
        · have e : ky = qbn := by omega
          subst e
          have c9 := (hK.same Bq hsq (by omega)).trans hq9
          have p0 : wr.cell? ⟨Bq, 0, none⟩ = some (.int .i64 qan) := by simp [World.cell?, c9]
          have p1 : wr.cell? ⟨Bq, 1, none⟩ = some (.int .i64 ky) := by simp [World.cell?, c9]
          have p2 : wr.cell? ⟨Bq, 2, none⟩ = some (.int .i64 qcn) := by simp [World.cell?, c9]
          have p3 : wr.cell? ⟨Bq, 3, none⟩ = some (.int .i64 qd) := by simp [World.cell?, c9]
          have p4 := hK.cell k1q (by simp; omega)
          generalize hz1e : pSize m ⟨qan, ky, qcn, qd⟩ = z1 at *
          generalize hz2e : pSize m' ⟨qan, ky, qcn, qd⟩ = z2 at *
          have Hze := Lib.hid (And.intro hz1e hz2e)
          have hw1 : IntKind.i64.wrap (fr + z1) = fr + z1 := IntWalk.i64_in _ (by omega)
          have hw2 : IntKind.i64.wrap (tz + z2) = tz + z2 := IntWalk.i64_in _ (by omega)
          have hw3 : wrap64 (fr + z1) = fr + z1 := wrap_in (by omega)
          have hw4 : wrap64 (tz + z2) = tz + z2 := wrap_in (by omega)
          have hKs := Nat.le_trans hKq.size hK.size
          clear hz1e hz2e c9
          go_wp2
          refine start_ (n := 13) (S := fun w' => w'.cell? ⟨Bq, 0, none⟩ = some (.int .i64 qan) ∧ w'.cell? ⟨Bq, 1, none⟩ = some (.int .i64 ky) ∧ w'.cell? ⟨Bq, 2, none⟩ = some (.int .i64 qcn) ∧ w'.cell? ⟨Bq, 3, none⟩ = some (.int .i64 qd) ∧ w'.cell? ⟨w.heap.size, 1, none⟩ = some (.int .i64 m)) (ds := []) #[false, false, false, false, false, false, false, false, false, false, false, false, false] (by kernel_rfl) rfl rfl ⟨p0, p1, p2, p3, p4⟩ (fun hHeld => ?_)
          refine pure_ (i := 0) (N := some 70) (v := ?_) (a' := ?_) #[true, false, false, false, false, false, false, false, false, false, false, false, false] rfl rfl (by kernel_rfl) (fun _ _ _ h => h) (Or.inl ⟨by rfl, ?_⟩) ?_ ?_
          rotate_left
          · intro w'
            go_simp
            with_reducible rfl
          rotate_left
          · simp only [Act.put, List.setIfInBounds_toArray, List.set_cons_zero, List.set_cons_succ, i64_w, i32_w]
            rfl
          refine pure_ (i := 2) (N := some 72) (v := ?_) (a' := ?_) #[true, false, true, false, false, false, false, false, false, false, false, false, false] rfl rfl (by kernel_rfl) (fun _ _ _ h => h) (Or.inl ⟨by rfl, ?_⟩) ?_ ?_
          rotate_left
          · intro w'
            go_simp
            with_reducible rfl
          rotate_left
          · simp only [Act.put, List.setIfInBounds_toArray, List.set_cons_zero, List.set_cons_succ, i64_w, i32_w]
            rfl
          refine pure_ (i := 6) (N := some 76) (v := ?_) (a' := ?_) #[true, false, true, false, false, false, true, false, false, false, false, false, false] rfl rfl (by kernel_rfl) (fun _ _ _ h => h) (Or.inl ⟨by rfl, ?_⟩) ?_ ?_
          rotate_left
          · intro w'
            go_simp
            with_reducible rfl
          rotate_left
          · simp only [Act.put, List.setIfInBounds_toArray, List.set_cons_zero, List.set_cons_succ, i64_w, i32_w]
            rfl
          refine pure_ (i := 8) (N := some 78) (v := ?_) (a' := ?_) #[true, false, true, false, false, false, true, false, true, false, false, false, false] rfl rfl (by kernel_rfl) (fun _ _ _ h => h) (Or.inl ⟨by rfl, ?_⟩) ?_ ?_
          rotate_left
          · intro w'
            go_simp
            with_reducible rfl
          rotate_left
          · simp only [Act.put, List.setIfInBounds_toArray, List.set_cons_zero, List.set_cons_succ, i64_w, i32_w]
            rfl
          refine take_ (i := 1) (N := some 71) (v := ?_) (a' := ?_) #[true, true, true, false, false, false, true, false, true, false, false, false, false] rfl rfl (by kernel_rfl) (fun _ _ _ h => h) (Or.inl ⟨by rfl, ?_⟩) hHeld ?_ ?_
          rotate_left
          · rintro w' ⟨s0, s1, s2, s3, s4⟩
            go_simp
            with_reducible rfl
          rotate_left
          · simp only [Act.put, List.setIfInBounds_toArray, List.set_cons_zero, List.set_cons_succ, i64_w, i32_w]
            rfl
          refine take_ (i := 3) (N := some 73) (v := ?_) (a' := ?_) #[true, true, true, true, false, false, true, false, true, false, false, false, false] rfl rfl (by kernel_rfl) (fun _ _ _ h => h) (Or.inl ⟨by rfl, ?_⟩) hHeld ?_ ?_
          rotate_left
          · rintro w' ⟨s0, s1, s2, s3, s4⟩
            go_simp
            with_reducible rfl
          rotate_left
          · simp only [Act.put, List.setIfInBounds_toArray, List.set_cons_zero, List.set_cons_succ, i64_w, i32_w]
            rfl
          refine take_ (i := 7) (N := some 77) (v := ?_) (a' := ?_) #[true, true, true, true, false, false, true, true, true, false, false, false, false] rfl rfl (by kernel_rfl) (fun _ _ _ h => h) (Or.inl ⟨by rfl, ?_⟩) hHeld ?_ ?_
          rotate_left
          · rintro w' ⟨s0, s1, s2, s3, s4⟩
            go_simp
            with_reducible rfl
          rotate_left
          · simp only [Act.put, List.setIfInBounds_toArray, List.set_cons_zero, List.set_cons_succ, i64_w, i32_w]
            rfl
          refine one_ (i := 4) (N := some 74) #[true, true, true, true, true, false, true, true, true, false, false, false, false] rfl rfl (by kernel_rfl) (by decide) (fun K hK => ?_)
          refine goes_ Try.func132 (by kernel_rfl) rfl #[.agg #[.int .i64 qan, .int .i64 ky, .int .i64 qcn, .int .i64 qd], .int .i64 m] (by rfl) rfl rfl (by simp only [List.map_toArray, List.map_cons, List.map_nil]; rfl) ?_
          with_reducible refine (Hsz1.out _).mono ?_
          rintro e w5 ⟨rfl, hB5⟩
          refine ⟨_, rfl, ?_⟩
          refine hK.out _ _ ⟨pw_cell_below hB5 hHeld.1, pw_cell_below hB5 hHeld.2.1, pw_cell_below hB5 hHeld.2.2.1, pw_cell_below hB5 hHeld.2.2.2.1, pw_cell_below hB5 hHeld.2.2.2.2⟩ (fun hHeld => ?_)
          clear hK K
          refine norm_ (a' := ?_) ?_ ?_
          rotate_left
          · show Act.put _ (some 74) _ = _
            simp only [Act.put, List.setIfInBounds_toArray, List.set_cons_zero, List.set_cons_succ, i64_w, i32_w]
            rfl
          refine pure_ (i := 5) (N := some 75) (v := ?_) (a' := ?_) #[true, true, true, true, true, true, true, true, true, false, false, false, false] rfl rfl (by kernel_rfl) (fun _ _ _ h => h) (Or.inl ⟨by rfl, ?_⟩) ?_ ?_
          rotate_left
          · intro w'
            go_simp
            with_reducible rfl
          rotate_left
          · simp only [Act.put, List.setIfInBounds_toArray, List.set_cons_zero, List.set_cons_succ, i64_w, i32_w]
            rfl
          refine one_ (i := 9) (N := some 79) #[true, true, true, true, true, true, true, true, true, true, false, false, false] rfl rfl (by kernel_rfl) (by decide) (fun K hK => ?_)
          refine goes_ Try.func132 (by kernel_rfl) rfl #[.agg #[.int .i64 qan, .int .i64 ky, .int .i64 qcn, .int .i64 qd], .int .i64 m'] (by rfl) rfl rfl (by simp only [List.map_toArray, List.map_cons, List.map_nil]; rfl) ?_
          with_reducible refine (Hsz2.out _).mono ?_
          rintro e w6 ⟨rfl, hB6⟩
          refine ⟨_, rfl, ?_⟩
          refine hK.out _ _ ⟨pw_cell_below hB6 hHeld.1, pw_cell_below hB6 hHeld.2.1, pw_cell_below hB6 hHeld.2.2.1, pw_cell_below hB6 hHeld.2.2.2.1, pw_cell_below hB6 hHeld.2.2.2.2⟩ (fun hHeld => ?_)
          clear hK K
          refine norm_ (a' := ?_) ?_ ?_
          rotate_left
          · show Act.put _ (some 79) _ = _
            simp only [Act.put, List.setIfInBounds_toArray, List.set_cons_zero, List.set_cons_succ, i64_w, i32_w]
            rfl
          refine pure_ (i := 10) (N := some 80) (v := ?_) (a' := ?_) #[true, true, true, true, true, true, true, true, true, true, true, false, false] rfl rfl (by kernel_rfl) (fun _ _ _ h => h) (Or.inl ⟨by rfl, ?_⟩) ?_ ?_
          rotate_left
          · intro w'
            go_simp
            with_reducible rfl
          rotate_left
          · simp only [Act.put, List.setIfInBounds_toArray, List.set_cons_zero, List.set_cons_succ, i64_w, i32_w]
            rfl
          refine pure_ (i := 11) (N := some 6) (v := ?_) (a' := ?_) #[true, true, true, true, true, true, true, true, true, true, true, true, false] rfl rfl (by kernel_rfl) (fun _ _ _ h => h) (Or.inl ⟨by rfl, ?_⟩) ?_ ?_
          rotate_left
          · intro w'
            go_simp
            with_reducible rfl
          rotate_left
          · simp only [Act.put, List.setIfInBounds_toArray, List.set_cons_zero, List.set_cons_succ, i64_w, i32_w]
            rfl
          refine pure_ (i := 12) (N := some 7) (v := ?_) (a' := ?_) #[true, true, true, true, true, true, true, true, true, true, true, true, true] rfl rfl (by kernel_rfl) (fun _ _ _ h => h) (Or.inl ⟨by rfl, ?_⟩) ?_ ?_
          rotate_left
          · intro w'
            go_simp
            with_reducible rfl
          rotate_left
          · simp only [Act.put, List.setIfInBounds_toArray, List.set_cons_zero, List.set_cons_succ, i64_w, i32_w]
            rfl
          refine done_ (by kernel_rfl) ?_

          have hR6 := row_below (row_below hr.drew hB5 (Nat.lt_of_lt_of_le hG4 hKs)) hB6 (Nat.lt_of_lt_of_le hG4 (Nat.le_trans hKs hB5.size))
          have hKB : KpG G w4 w6 := hKq.trans (hK.trans ((KpG.of_below hB5).drew.trans (KpG.of_below hB6)))
          have hBB : Below w.heap.size w w6 := (hB.drew.trans (hB5.mono hB.size)).trans (hB6.mono (Nat.le_trans hB.size hB5.size))
          clear hr hK hB hHeld
          go_wp2
          go_roundw
          case rel => exact ⟨j + 1, by omega, by go_num, by rw [Hsd.out], by rw [Hsd.out], by rw [Hsd.out]; unfold turnPlane; dsimp only; rw [Int.toNat_natCast]; exact hR6, hKB, hBB⟩
          case measure => simp [intOf]; omega
    · have e : j = N := by omega
      subst e
      have hfin : turnUpto d.data.toList m m' ps n j = turnUpto d.data.toList m m' ps n 3 := by
        unfold turnUpto
        rw [List.take_of_length_le (by rw [← HN.out]; exact Nat.le_refl _), List.take_of_length_le hpl.2]
      have hlen : (turnUpto d.data.toList m m' ps n 3).out.length = n := by
        rw [← hfin]
        exact turnUpto_length Hok.out hm hm' (by rw [← Hd.out]; simp) (by rw [Hn.out]; exact Int.le_refl _) j (by rw [HN.out]; exact Nat.le_refl _)
      rw [hfin] at hr
      generalize hst : turnUpto d.data.toList m m' ps n 3 = st at *
      obtain ⟨fr, tz, out⟩ := st
      have Hst := Lib.hid hst
      clear hst
      dsimp only at hr hlen
      have hgp := (hK.same w.heap.size (by omega) (by omega)).trans hg0
      have hgr := (hK.same (w.heap.size + 1) (by omega) (by omega)).trans hg1
      have pc1 : wr.cell? ⟨w.heap.size, 1, none⟩ = some (.int .i64 m) := by simp [World.cell?, hgp]
      have pc4 : wr.cell? ⟨w.heap.size, 4, none⟩ = some (.string d) := by simp [World.cell?, hgp]
      have pf1 : wr.frozen? ⟨w.heap.size, 1, none⟩ = false := by simp [World.frozen?, hgp]
      have pf4 : wr.frozen? ⟨w.heap.size, 4, none⟩ = false := by simp [World.frozen?, hgp]
      have hcv : ∀ W : World, W.rowIs G 5 n (bytesV out) → (convert 103 9 (.slice (some ⟨G, 0, none⟩) n n)).run Try.prog W = .ok (.string ⟨out.toArray⟩) W := by
        intro W hW
        have := run_convert_bytes_back (P := Try.prog) W 103 9 5 ⟨G, 0, none⟩ n out Try.underlying103 Try.underlying5 Try.underlying9 (fun j hj => by
          have hc := hW.cell (i := j) (by omega)
          have e : (⟨G, 0, none⟩ : Addr).add j = ⟨G, j, none⟩ := by cases j <;> simp [Addr.add]
          rw [e, hc]
          simp only [bytesV, List.getElem?_eq_getElem hj, Option.getD_some])
        rw [hlen] at this
        exact this
      have hGp : ¬ G = w.heap.size := by omega
      have Hlen := Lib.hid hlen
      have Hgp := Lib.hid hgp
      have Hgr := Lib.hid hgr
      clear hlen hgp hgr hg0 hg1
      go_wp2
      refine start_ (n := 7) (S := fun w' => w'.rowIs G 5 n (bytesV out)) (ds := []) #[false, false, false, false, false, false, false] (by kernel_rfl) rfl rfl (hr.drew) (fun hHeld => ?_)
      refine pure_ (i := 0) (N := some 82) (v := ?_) (a' := ?_) #[true, false, false, false, false, false, false] rfl rfl (by kernel_rfl) (fun _ _ _ h => h) (Or.inl ⟨by rfl, ?_⟩) ?_ ?_
      rotate_left
      · intro w'
        go_simp
        with_reducible rfl
      rotate_left
      · simp only [Act.put, List.setIfInBounds_toArray, List.set_cons_zero, List.set_cons_succ, i64_w, i32_w]
        rfl
      refine pure_ (i := 1) (N := some 83) (v := ?_) (a' := ?_) #[true, true, false, false, false, false, false] rfl rfl (by kernel_rfl) (fun _ _ _ h => h) (Or.inl ⟨by rfl, ?_⟩) ?_ ?_
      rotate_left
      · intro w'
        go_simp
        with_reducible rfl
      rotate_left
      · simp only [Act.put, List.setIfInBounds_toArray, List.set_cons_zero, List.set_cons_succ, i64_w, i32_w]
        rfl
      refine pure_ (i := 3) (N := some 85) (v := ?_) (a' := ?_) #[true, true, false, true, false, false, false] rfl rfl (by kernel_rfl) (fun _ _ _ h => h) (Or.inl ⟨by rfl, ?_⟩) ?_ ?_
      rotate_left
      · intro w'
        go_simp
        with_reducible rfl
      rotate_left
      · simp only [Act.put, List.setIfInBounds_toArray, List.set_cons_zero, List.set_cons_succ, i64_w, i32_w]
        rfl
      refine take_ (i := 2) (N := some 84) (v := ?_) (a' := ?_) #[true, true, true, true, false, false, false] rfl rfl (by kernel_rfl) (fun _ _ _ h => h) (Or.inl ⟨by rfl, ?_⟩) hHeld ?_ ?_
      rotate_left
      · intro w' s0
        go_simp
        with_reducible rfl
      rotate_left
      · simp only [Act.put, List.setIfInBounds_toArray, List.set_cons_zero, List.set_cons_succ, i64_w, i32_w]
        rfl
      refine one_ (i := 4) (N := none) #[true, true, true, true, true, false, false] rfl rfl (by kernel_rfl) (by decide) (fun K hK => ?_)
      refine skip_ (w1 := ?_) (by rfl) rfl ?_ ?_
      rotate_left
      · go_simp
        rfl
      refine hK.out _ _ (hHeld.setOther hGp _) (fun hHeld => ?_)
      clear hK K
      refine pure_ (i := 5) (N := some 86) (v := ?_) (a' := ?_) #[true, true, true, true, true, true, false] rfl rfl (by kernel_rfl) (fun _ _ _ h => h) (Or.inl ⟨by rfl, ?_⟩) ?_ ?_
      rotate_left
      · intro w'
        go_simp
        with_reducible rfl
      rotate_left
      · simp only [Act.put, List.setIfInBounds_toArray, List.set_cons_zero, List.set_cons_succ, i64_w, i32_w]
        rfl
      refine one_ (i := 6) (N := none) #[true, true, true, true, true, true, true] rfl rfl (by kernel_rfl) (by decide) (fun K hK => ?_)
      refine skip_ (w1 := ?_) (by rfl) rfl ?_ ?_
      rotate_left
      · go_simp
        rfl
      refine hK.out _ _ (hHeld.setOther hGp _) (fun hHeld => ?_)
      clear hK K
      refine done_ (by kernel_rfl) ?_

      have hE : Below w.heap.size w ((wr.setCell ⟨w.heap.size, 1, none⟩ (.int .i64 m')).setCell ⟨w.heap.size, 4, none⟩ (.string ⟨out.toArray⟩)).drew := ((hB.setCell (Nat.le_refl _) _).setCell (Nat.le_refl _) _).drew
      have hz : ((wr.setCell ⟨w.heap.size, 1, none⟩ (.int .i64 m')).setCell ⟨w.heap.size, 4, none⟩ (.string ⟨out.toArray⟩)).drew.heap[w.heap.size]? = some (.cells #[.int .i64 f, .int .i64 m', .int .i64 x, .int .i64 y, .string ⟨out.toArray⟩] 49 (0, 0)) := by
        refine blk_drew ?_
        refine blk_put (cs := #[.int .i64 f, .int .i64 m', .int .i64 x, .int .i64 y, .string d]) ?_ 4 _ rfl
        refine blk_put (cs := #[.int .i64 f, .int .i64 m, .int .i64 x, .int .i64 y, .string d]) ?_ 1 _ rfl
        exact Hgp.out
      have hz1 : ((wr.setCell ⟨w.heap.size, 1, none⟩ (.int .i64 m')).setCell ⟨w.heap.size, 4, none⟩ (.string ⟨out.toArray⟩)).drew.heap[w.heap.size + 1]? = some (.cells #[.int .i64 0, .int .i64 0, .int .i64 0, .int .i64 0, .string ⟨#[]⟩] 49 (0, 0)) := by
        refine blk_drew ?_
        rw [Deep.blk_setCell_other _ _ _ _ (by simp), Deep.blk_setCell_other _ _ _ _ (by simp)]
        exact Hgr.out
      generalize ((wr.setCell ⟨w.heap.size, 1, none⟩ (.int .i64 m')).setCell ⟨w.heap.size, 4, none⟩ (.string ⟨out.toArray⟩)).drew = WE at *
      have r0 : WE.cell? ⟨w.heap.size, 0, none⟩ = some (.int .i64 f) := by simp [World.cell?, hz]
      have r1 : WE.cell? ⟨w.heap.size, 1, none⟩ = some (.int .i64 m') := by simp [World.cell?, hz]
      have r2 : WE.cell? ⟨w.heap.size, 2, none⟩ = some (.int .i64 x) := by simp [World.cell?, hz]
      have r3 : WE.cell? ⟨w.heap.size, 3, none⟩ = some (.int .i64 y) := by simp [World.cell?, hz]
      have r4 : WE.cell? ⟨w.heap.size, 4, none⟩ = some (.string ⟨out.toArray⟩) := by simp [World.cell?, hz]
      have d0 : WE.cell? ⟨w.heap.size + 1, 0, none⟩ = some (.int .i64 0) := by simp [World.cell?, hz1]
      have d1 : WE.cell? ⟨w.heap.size + 1, 1, none⟩ = some (.int .i64 0) := by simp [World.cell?, hz1]
      have d2 : WE.cell? ⟨w.heap.size + 1, 2, none⟩ = some (.int .i64 0) := by simp [World.cell?, hz1]
      have d3 : WE.cell? ⟨w.heap.size + 1, 3, none⟩ = some (.int .i64 0) := by simp [World.cell?, hz1]
      have d4 : WE.cell? ⟨w.heap.size + 1, 4, none⟩ = some (.string ⟨#[]⟩) := by simp [World.cell?, hz1]
      have f0 : ∀ o, WE.frozen? ⟨w.heap.size + 1, o, none⟩ = false := by intro o; simp [World.frozen?, hz1]
      have Hz1 := Lib.hid hz1
      clear hz hz1 pc1 pc4 pf1 pf4 hHeld hr hcv hK hB
      go_wp2
      refine bodyPost_ret (results_cell_row rfl _ _ (w.heap.size + 1) 49 #[.int .i64 f, .int .i64 m', .int .i64 x, .int .i64 y, .string ⟨out.toArray⟩] (0, 0) _ rfl ?_ Try.underlying49 rfl (by kernel_rfl)) rfl ⟨?_, ?_⟩
      · refine blk_put (cs := #[.int .i64 f, .int .i64 m', .int .i64 x, .int .i64 y, .string ⟨#[]⟩]) ?_ 4 _ rfl
        refine blk_put (cs := #[.int .i64 f, .int .i64 m', .int .i64 x, .int .i64 0, .string ⟨#[]⟩]) ?_ 3 _ rfl
        refine blk_put (cs := #[.int .i64 f, .int .i64 m', .int .i64 0, .int .i64 0, .string ⟨#[]⟩]) ?_ 2 _ rfl
        refine blk_put (cs := #[.int .i64 f, .int .i64 0, .int .i64 0, .int .i64 0, .string ⟨#[]⟩]) ?_ 1 _ rfl
        refine blk_put (cs := #[.int .i64 0, .int .i64 0, .int .i64 0, .int .i64 0, .string ⟨#[]⟩]) ?_ 0 _ rfl
        exact Hz1.out
      · rw [Hst.out]
      · exact ((((hE.setCell (by simp) _).setCell (by simp) _).setCell (by simp) _).setCell (by simp) _).setCell (by simp) _
end Go.Proofs.Ytenaegjiggodkaa.PV

/- The contracts of video's size and turned, in the form that the printed texts take. -/
namespace Go.Proofs.Ytenaegjiggodkaa.PV
open Go.RowKit Go.Proofs.YtenaegjiggodkaaW.PrintWords Go.Proofs.YtenaegjiggodkaaW.PrintLast Go.Proofs.YtenaegjiggodkaaW.PrintMore
set_option linter.unusedVariables false
instance (m : Int) : Decidable (okM m) := by unfold okM; infer_instance
instance (f m w h : Int) : Decidable (okF f m w h) := by unfold okF; infer_instance
def video_size.f (a0 a1 a2 a3 : Int) : Option Int := if okF a0 a1 a2 a3 then some (sizeL a0 a1 a2 a3) else none
def video_turned.f (a0_0 a0_1 a0_2 a0_3 : Int) (a0_4 : ByteArray) (a1 : Int) : Option (Int × Int × Int × Int × ByteArray) :=
  if okF a0_0 a0_1 a0_2 a0_3 ∧ okM a1 ∧ (a0_4.size : Int) = sizeL a0_0 a0_1 a0_2 a0_3 then some (a0_0, a1, a0_2, a0_3, ⟨(turnedL a0_4.data.toList a0_0 a0_1 a1 a0_2 a0_3).toArray⟩) else none
theorem video_size.calls (a0 a1 a2 a3 : Int) (r : Int) (w : World) (h : video_size.f a0 a1 a2 a3 = some r) :
    Calls Try.prog 84 #[.int .i64 a0, .int .i64 a1, .int .i64 a2, .int .i64 a3] w fun e w' => e = .returned (.int .i64 r) ∧ Below w.heap.size w w' := by
  unfold video_size.f at h
  split at h
  · rename_i ok
    obtain rfl := Option.some.inj h
    exact size84 a0 a1 a2 a3 ok w
  · cases h
theorem video_turned.calls (a0_0 a0_1 a0_2 a0_3 : Int) (a0_4 : ByteArray) (a1 : Int) (r1 r2 r3 r4 : Int) (r5 : ByteArray) (w : World) (h : video_turned.f a0_0 a0_1 a0_2 a0_3 a0_4 a1 = some (r1, r2, r3, r4, r5)) :
    Calls Try.prog 87 #[.agg #[.int .i64 a0_0, .int .i64 a0_1, .int .i64 a0_2, .int .i64 a0_3, .string a0_4], .int .i64 a1] w fun e w' => e = .returned (.agg #[.int .i64 r1, .int .i64 r2, .int .i64 r3, .int .i64 r4, .string r5]) ∧ Below w.heap.size w w' := by
  unfold video_turned.f at h
  split at h
  · rename_i ok
    injection h with h
    injection h with e1 h
    injection h with e2 h
    injection h with e3 h
    injection h with e4 e5
    subst e1; subst e2; subst e3; subst e4; subst e5
    exact turned87 a0_0 a0_1 a0_2 a0_3 a1 a0_4 ok.1 ok.2.1 ok.2.2 w
  · cases h
end Go.Proofs.Ytenaegjiggodkaa.PV

-- Printed by vprint.py (a program of this claim over the translation's own print). Lean checks it.
namespace Go.Proofs.Ytenaegjiggodkaa.PV
open Go.RowKit Go.Proofs.YtenaegjiggodkaaW.PrintWords Go.Proofs.YtenaegjiggodkaaW.PrintLast Go.Proofs.YtenaegjiggodkaaW.PrintMore
attribute [local go_sem] max2_int min2_int max_two min_two max_three min_three max_four min_four   -- for this text's walks alone
attribute [local go_sem] field49_4
set_option linter.unusedVariables false
set_option linter.unusedSimpArgs false

/-! ### video_Valid: function 33 -/
def video_Valid.j0 : Nat → Bool → Int → Int → Int → Int → ByteArray → Option (Bool)
  | 0, _, _, _, _, _, _ => none
  | k + 1, x27, x208000, x208001, x208002, x208003, x208004 => if x27 = true then (some false) else (if x208001 = 0 then (some true) else ((video_turned.f x208000 x208001 x208002 x208003 x208004 0).bind fun bt210 => ((video_turned.f bt210.1 bt210.2.1 bt210.2.2.1 bt210.2.2.2.1 bt210.2.2.2.2 1).bind fun bt215 => (some (bt215.2.2.2.2.toList == x208004.toList)))))
def video_Valid.f (k : Nat) (a0_0 : Int) (a0_1 : Int) (a0_2 : Int) (a0_3 : Int) (a0_4 : ByteArray) : Option (Bool) := (video_right.f a0_0 a0_1 a0_2 a0_3).bind fun t208 => (if t208 = true then ((video_size.f a0_0 a0_1 a0_2 a0_3).bind fun t209 => (video_Valid.j0 k ((a0_4.size : Int) != t209) a0_0 a0_1 a0_2 a0_3 a0_4)) else (video_Valid.j0 k true a0_0 a0_1 a0_2 a0_3 a0_4))
theorem video_Valid.mono_l : ∀ k, (∀ y0 y1 y2 y3 y4 y5, LeO (video_Valid.j0 k y0 y1 y2 y3 y4 y5) (video_Valid.j0 (k + 1) y0 y1 y2 y3 y4 y5))
  | 0 => fun _ _ _ _ _ _ r h => by simp [video_Valid.j0] at h
  | k + 1 => by
    have ih0 := video_Valid.mono_l k
    · intro y0 y1 y2 y3 y4 y5
      unfold video_Valid.j0
      repeat' first
      | (with_reducible exact ih0 _ _ _ _ _ _)
      | (with_reducible exact LeO.refl _)
      | (with_reducible exact LeO.none _)
      | (with_reducible refine LeO.ite ?_ ?_)
      | (with_reducible refine LeO.bind ?_ (fun _ => ?_))
      | exact ih0 _ _ _ _ _ _
      | exact LeO.none _
      | refine LeO.ite ?_ ?_
      | refine LeO.bind ?_ (fun _ => ?_)
theorem video_Valid.mono : ∀ a0 a1 a2 a3 a4 k, LeO (video_Valid.f k a0 a1 a2 a3 a4) (video_Valid.f (k + 1) a0 a1 a2 a3 a4) := by
  intro a0 a1 a2 a3 a4 k
  have ih0 := video_Valid.mono_l k
  unfold video_Valid.f
  repeat' first
      | (with_reducible exact ih0 _ _ _ _ _ _)
      | (with_reducible exact LeO.refl _)
      | (with_reducible exact LeO.none _)
      | (with_reducible refine LeO.ite ?_ ?_)
      | (with_reducible refine LeO.bind ?_ (fun _ => ?_))
      | exact ih0 _ _ _ _ _ _
      | exact LeO.none _
      | refine LeO.ite ?_ ?_
      | refine LeO.bind ?_ (fun _ => ?_)
def video_Valid.T1 : Bool × List (List Nat × List Nat) := (true, [([], []), ([0], [0]), ([], []), ([2], [2]), ([], []), ([4], [4]), ([], []), ([6], [6]), ([1, 3, 5, 7], [1, 3, 5, 7]), ([8], [8]), ([9, 8], [9]), ([10], [10]), ([11, 10], [10, 11]), ([12, 10], [10, 12]), ([10], [10]), ([14, 10], [10, 14]), ([10], [10]), ([16, 10], [10, 16]), ([10], [10]), ([18, 10], [10, 18]), ([10], [10]), ([20, 10], [10, 20]), ([15, 17, 19, 21, 10, 10], [10, 15, 17, 19, 21]), ([13, 22, 10], [10, 13, 22]), ([10, 23], [10, 23])])
def video_Valid.B1 : List Nat := [0, 1, 0, 4, 0, 16, 0, 64, 255, 511, 1023, 2047, 4095, 8191, 2047, 18431, 2047, 67583, 2047, 264191, 2047, 1050623, 4179967, 8388607, 16777215]
theorem video_Valid.tab1 : rtab .any (opsOf Try.f33 1) = video_Valid.T1 := by kernel_rfl
theorem video_Valid.bits1 : waitsOk video_Valid.T1.2 video_Valid.B1 = true := by kernel_rfl
def video_Valid.T3 : Bool × List (List Nat × List Nat) := (true, [([], []), ([0], [0]), ([1], [1]), ([2], [2]), ([3], [3]), ([4, 3, 3], [3, 4]), ([5, 5, 3], [3, 5]), ([6, 3], [3, 6]), ([3], [3]), ([8, 3], [3, 8]), ([7, 9, 3], [3, 7, 9]), ([3, 10], [3, 10]), ([11, 6, 0, 1, 2, 3, 4, 5, 6, 7, 8, 9, 10, 11], [11])])
def video_Valid.B3 : List Nat := [0, 1, 3, 7, 15, 31, 63, 127, 15, 271, 1023, 2047, 4095]
theorem video_Valid.tab3 : rtab .any (opsOf Try.f33 3) = video_Valid.T3 := by kernel_rfl
theorem video_Valid.bits3 : waitsOk video_Valid.T3.2 video_Valid.B3 = true := by kernel_rfl
set_option maxHeartbeats 8000000 in
set_option maxRecDepth 100000 in
theorem video_Valid.calls (k : Nat) (a0_0 : Int) (a0_1 : Int) (a0_2 : Int) (a0_3 : Int) (a0_4 : ByteArray) (r : Bool) (w : World) (h : video_Valid.f k a0_0 a0_1 a0_2 a0_3 a0_4 = some r) :
    Calls Try.prog 33 #[.agg #[.int .i64 a0_0, .int .i64 a0_1, .int .i64 a0_2, .int .i64 a0_3, .string a0_4]] w fun e w' => e = .returned (.bool r) ∧ Below w.heap.size w w' := by
  have hu49 := Try.underlying49
  have HB := Aside0.mk (Below.refl w.heap.size w)
  have H : ((video_right.f a0_0 a0_1 a0_2 a0_3).bind fun t208 => (if t208 = true then ((video_size.f a0_0 a0_1 a0_2 a0_3).bind fun t209 => (video_Valid.j0 k ((a0_4.size : Int) != t209) a0_0 a0_1 a0_2 a0_3 a0_4)) else (video_Valid.j0 k true a0_0 a0_1 a0_2 a0_3 a0_4))) = some r := h
  clear h
  have HC2 := Aside0.mk H
  clear H
  go_enter Try.func33, Try.ntmps33
  go_upto_region 1 with (first | ((with_reducible refine gate_dst (N := 1) rfl ?_); (try (refine gate_guard (by rfl) ?_; dsimp only)); refine box_event ?hg (N := 1) ?hd (cs := #[.int .i64 a0_0, .int .i64 a0_1, .int .i64 a0_2, .int .i64 a0_3, .string a0_4]) (t := 49) ?hr ?_; (case hd => rfl); (case hg => rfl); (case hr => first | (go_simp; done) | (go_simp; rfl)); intro gb207 hg w3 hbox hb; have n0_ := Aside0.mk (below_step (by repeat (first | (with_reducible first | exact HB.out | apply below_alloc | apply pw_below_drewN | apply below_drew1) | exact HB.out)) hb); have n1_ := Aside0.mk (hbox); have n2_ := Aside0.mk ((by rw [hg]; exact (below_size (by repeat (first | (with_reducible first | exact HB.out | apply below_alloc | apply pw_below_drewN | apply below_drew1) | exact HB.out))) : w.heap.size ≤ gb207)); have n3_ := Aside0.mk ((by rw [hg]; exact (below_size (by repeat (first | (with_reducible first | exact HB.out | apply below_alloc | apply pw_below_drewN | apply below_drew1) | exact HB.out))) : w.heap.size ≤ gb207)); clear HB; have HB := n0_; have BK207 := n1_; have GW207 := n2_; have GE207 := n3_; clear n0_ n1_ n2_ n3_; clear hb hbox hg))
  (try simp only [Act.put, List.setIfInBounds_toArray, List.set_cons_zero, List.set_cons_succ])
  go_cut [27] (fun v27 wc => ∃ (kq : Nat) (x27_1 : Bool), v27 = .bool x27_1 ∧ Aside0 (video_Valid.j0 kq x27_1 a0_0 a0_1 a0_2 a0_3 a0_4 = some r) ∧ Aside0 (kq ≤ k) ∧ Aside0 (wc.heap[gb207]? = some (.cells #[.int .i64 a0_0, .int .i64 a0_1, .int .i64 a0_2, .int .i64 a0_3, .string a0_4] 49 (0, 0))) ∧ Aside0 (Below w.heap.size w wc))
  case first =>
    have H := HC2.out
    clear HC2
    replace H := Option.bind_eq_some_iff.mp H
    obtain ⟨t208, A40, H⟩ := H
    replace H : (if t208 = true then ((video_size.f a0_0 a0_1 a0_2 a0_3).bind fun t209 => (video_Valid.j0 k ((a0_4.size : Int) != t209) a0_0 a0_1 a0_2 a0_3 a0_4)) else (video_Valid.j0 k true a0_0 a0_1 a0_2 a0_3 a0_4)) = some r := H
    have A4 := Aside0.mk A40
    clear A40
    by_cases c5 : t208 = true
    · subst c5
      have H1 : ((video_size.f a0_0 a0_1 a0_2 a0_3).bind fun t209 => (video_Valid.j0 k ((a0_4.size : Int) != t209) a0_0 a0_1 a0_2 a0_3 a0_4)) = some r := by rw [if_pos rfl] at H; exact H
      clear H
      have H := H1
      clear H1
      replace H := Option.bind_eq_some_iff.mp H
      obtain ⟨t209, A60, H⟩ := H
      replace H : (video_Valid.j0 k ((a0_4.size : Int) != t209) a0_0 a0_1 a0_2 a0_3 a0_4) = some r := H
      have A6 := Aside0.mk A60
      clear A60
      have H' := Aside0.mk H
      clear H
      try go_wp2
      have n0_ := Aside0.mk (blk_drew BK207.out)
      have n1_ := Aside0.mk (below_drew1 HB.out)
      clear BK207
      clear HB
      have BK207 := n0_
      have HB := n1_
      clear n0_ n1_
      refine start_ (n := 25) (S := fun w' => w'.cell? ⟨gb207, 0, none⟩ = some (.int .i64 a0_0) ∧ w'.cell? ⟨gb207, 1, none⟩ = some (.int .i64 a0_1) ∧ w'.cell? ⟨gb207, 2, none⟩ = some (.int .i64 a0_2) ∧ w'.cell? ⟨gb207, 3, none⟩ = some (.int .i64 a0_3) ∧ w'.cell? ⟨gb207, 4, none⟩ = some (.string a0_4)) (ds := []) #[false, false, false, false, false, false, false, false, false, false, false, false, false, false, false, false, false, false, false, false, false, false, false, false, false] (by kernel_rfl) rfl rfl ⟨(blk_cell BK207.out 0).trans rfl, (blk_cell BK207.out 1).trans rfl, (blk_cell BK207.out 2).trans rfl, (blk_cell BK207.out 3).trans rfl, (blk_cell BK207.out 4).trans rfl⟩ (fun hHeld => ?_); refine with_tabW video_Valid.tab1 video_Valid.bits1 (fun HT_ HW_ => ?_)
      generalize w3.drew = w7 at BK207 HB hHeld ⊢
      refine pure_ (i := 0) (N := some 3) (v := ?_) (a' := ?_) #[true, false, false, false, false, false, false, false, false, false, false, false, false, false, false, false, false, false, false, false, false, false, false, false, false] rfl rfl (any_of HT_.out (by kernel_rfl)) (fun _ _ _ h => h) (Or.inl ⟨by rfl, ?_⟩) ?_ ?_
      rotate_left
      · intro w'
        go_simp
        with_reducible rfl
      rotate_left
      · simp only [Act.put, List.setIfInBounds_toArray, List.set_cons_zero, List.set_cons_succ, i64_w, i32_w]
        rfl
      refine pure_ (i := 2) (N := some 5) (v := ?_) (a' := ?_) #[true, false, true, false, false, false, false, false, false, false, false, false, false, false, false, false, false, false, false, false, false, false, false, false, false] rfl rfl (any_of HT_.out (by kernel_rfl)) (fun _ _ _ h => h) (Or.inl ⟨by rfl, ?_⟩) ?_ ?_
      rotate_left
      · intro w'
        go_simp
        with_reducible rfl
      rotate_left
      · simp only [Act.put, List.setIfInBounds_toArray, List.set_cons_zero, List.set_cons_succ, i64_w, i32_w]
        rfl
      refine pure_ (i := 4) (N := some 7) (v := ?_) (a' := ?_) #[true, false, true, false, true, false, false, false, false, false, false, false, false, false, false, false, false, false, false, false, false, false, false, false, false] rfl rfl (any_of HT_.out (by kernel_rfl)) (fun _ _ _ h => h) (Or.inl ⟨by rfl, ?_⟩) ?_ ?_
      rotate_left
      · intro w'
        go_simp
        with_reducible rfl
      rotate_left
      · simp only [Act.put, List.setIfInBounds_toArray, List.set_cons_zero, List.set_cons_succ, i64_w, i32_w]
        rfl
      refine pure_ (i := 6) (N := some 9) (v := ?_) (a' := ?_) #[true, false, true, false, true, false, true, false, false, false, false, false, false, false, false, false, false, false, false, false, false, false, false, false, false] rfl rfl (any_of HT_.out (by kernel_rfl)) (fun _ _ _ h => h) (Or.inl ⟨by rfl, ?_⟩) ?_ ?_
      rotate_left
      · intro w'
        go_simp
        with_reducible rfl
      rotate_left
      · simp only [Act.put, List.setIfInBounds_toArray, List.set_cons_zero, List.set_cons_succ, i64_w, i32_w]
        rfl
      refine take_ (i := 1) (N := some 4) (v := ?_) (a' := ?_) #[true, true, true, false, true, false, true, false, false, false, false, false, false, false, false, false, false, false, false, false, false, false, false, false, false] rfl rfl (take_ofW HT_.out HW_.out (by kernel_rfl)) (fun _ _ _ h => h) (Or.inl ⟨by rfl, ?_⟩) hHeld ?_ ?_
      rotate_left
      · rintro w' ⟨s0, s1, s2, s3, s4⟩
        go_simp
        with_reducible rfl
      rotate_left
      · simp only [Act.put, List.setIfInBounds_toArray, List.set_cons_zero, List.set_cons_succ, i64_w, i32_w]
        rfl
      refine take_ (i := 3) (N := some 6) (v := ?_) (a' := ?_) #[true, true, true, true, true, false, true, false, false, false, false, false, false, false, false, false, false, false, false, false, false, false, false, false, false] rfl rfl (take_ofW HT_.out HW_.out (by kernel_rfl)) (fun _ _ _ h => h) (Or.inl ⟨by rfl, ?_⟩) hHeld ?_ ?_
      rotate_left
      · rintro w' ⟨s0, s1, s2, s3, s4⟩
        go_simp
        with_reducible rfl
      rotate_left
      · simp only [Act.put, List.setIfInBounds_toArray, List.set_cons_zero, List.set_cons_succ, i64_w, i32_w]
        rfl
      refine take_ (i := 5) (N := some 8) (v := ?_) (a' := ?_) #[true, true, true, true, true, true, true, false, false, false, false, false, false, false, false, false, false, false, false, false, false, false, false, false, false] rfl rfl (take_ofW HT_.out HW_.out (by kernel_rfl)) (fun _ _ _ h => h) (Or.inl ⟨by rfl, ?_⟩) hHeld ?_ ?_
      rotate_left
      · rintro w' ⟨s0, s1, s2, s3, s4⟩
        go_simp
        with_reducible rfl
      rotate_left
      · simp only [Act.put, List.setIfInBounds_toArray, List.set_cons_zero, List.set_cons_succ, i64_w, i32_w]
        rfl
      refine take_ (i := 7) (N := some 10) (v := ?_) (a' := ?_) #[true, true, true, true, true, true, true, true, false, false, false, false, false, false, false, false, false, false, false, false, false, false, false, false, false] rfl rfl (take_ofW HT_.out HW_.out (by kernel_rfl)) (fun _ _ _ h => h) (Or.inl ⟨by rfl, ?_⟩) hHeld ?_ ?_
      rotate_left
      · rintro w' ⟨s0, s1, s2, s3, s4⟩
        go_simp
        with_reducible rfl
      rotate_left
      · simp only [Act.put, List.setIfInBounds_toArray, List.set_cons_zero, List.set_cons_succ, i64_w, i32_w]
        rfl
      refine one_ (i := 8) (N := some 11) #[true, true, true, true, true, true, true, true, true, false, false, false, false, false, false, false, false, false, false, false, false, false, false, false, false] rfl rfl (one_of HT_.out (by kernel_rfl)) (by decide) (fun K hK => ?_)
      refine goes_ Try.func83 (by kernel_rfl) rfl #[.int .i64 a0_0, .int .i64 a0_1, .int .i64 a0_2, .int .i64 a0_3] (by rfl) rfl rfl (by (try simp only [List.map_toArray, List.map_cons, List.map_nil]); first | done | rfl | (simp only [List.length_drop, List.length_take]; rfl)) ?_
      with_reducible refine (video_right.calls a0_0 a0_1 a0_2 a0_3 true _ A4.out).mono ?_
      rintro e w' ⟨rfl, ⟨nd, rfl⟩⟩
      refine ⟨_, rfl, ?_⟩
      refine hK.out _ _ ⟨(blk_cell BK207.out 0).trans rfl, (blk_cell BK207.out 1).trans rfl, (blk_cell BK207.out 2).trans rfl, (blk_cell BK207.out 3).trans rfl, (blk_cell BK207.out 4).trans rfl⟩ (fun hHeld => ?_)
      clear hK K
      refine norm_ (a' := ?_) ?_ ?_
      rotate_left
      · show Act.put _ (some 11) _ = _
        simp only [Act.put, List.setIfInBounds_toArray, List.set_cons_zero, List.set_cons_succ, i64_w, i32_w]
        rfl
      refine pure_ (i := 9) (N := some 12) (v := ?_) (a' := ?_) #[true, true, true, true, true, true, true, true, true, true, false, false, false, false, false, false, false, false, false, false, false, false, false, false, false] rfl rfl (any_of HT_.out (by kernel_rfl)) (fun _ _ _ h => h) (Or.inl ⟨by rfl, ?_⟩) ?_ ?_
      rotate_left
      · intro w'
        go_simp
        with_reducible rfl
      rotate_left
      · simp only [Act.put, List.setIfInBounds_toArray, List.set_cons_zero, List.set_cons_succ, i64_w, i32_w]
        rfl
      refine pure_ (i := 10) (N := some 13) (v := ?_) (a' := ?_) #[true, true, true, true, true, true, true, true, true, true, true, false, false, false, false, false, false, false, false, false, false, false, false, false, false] rfl rfl (any_of HT_.out (by kernel_rfl)) (fun _ _ _ h => h) (Or.inl ⟨by rfl, ?_⟩) ?_ ?_
      rotate_left
      · intro w'
        go_simp
        with_reducible rfl
      rotate_left
      · simp only [Act.put, List.setIfInBounds_toArray, List.set_cons_zero, List.set_cons_succ, i64_w, i32_w]
        rfl
      refine pure_ (i := 11) (N := some 14) (v := ?_) (a' := ?_) #[true, true, true, true, true, true, true, true, true, true, true, true, false, false, false, false, false, false, false, false, false, false, false, false, false] rfl rfl (any_of HT_.out (by kernel_rfl)) (fun _ _ _ h => h) (Or.inl ⟨by rfl, ?_⟩) ?_ ?_
      rotate_left
      · intro w'
        go_simp
        with_reducible rfl
      rotate_left
      · simp only [Act.put, List.setIfInBounds_toArray, List.set_cons_zero, List.set_cons_succ, i64_w, i32_w]
        rfl
      refine pure_ (i := 14) (N := some 17) (v := ?_) (a' := ?_) #[true, true, true, true, true, true, true, true, true, true, true, true, false, false, true, false, false, false, false, false, false, false, false, false, false] rfl rfl (any_of HT_.out (by kernel_rfl)) (fun _ _ _ h => h) (Or.inl ⟨by rfl, ?_⟩) ?_ ?_
      rotate_left
      · intro w'
        go_simp
        with_reducible rfl
      rotate_left
      · simp only [Act.put, List.setIfInBounds_toArray, List.set_cons_zero, List.set_cons_succ, i64_w, i32_w]
        rfl
      refine pure_ (i := 16) (N := some 19) (v := ?_) (a' := ?_) #[true, true, true, true, true, true, true, true, true, true, true, true, false, false, true, false, true, false, false, false, false, false, false, false, false] rfl rfl (any_of HT_.out (by kernel_rfl)) (fun _ _ _ h => h) (Or.inl ⟨by rfl, ?_⟩) ?_ ?_
      rotate_left
      · intro w'
        go_simp
        with_reducible rfl
      rotate_left
      · simp only [Act.put, List.setIfInBounds_toArray, List.set_cons_zero, List.set_cons_succ, i64_w, i32_w]
        rfl
      refine pure_ (i := 18) (N := some 21) (v := ?_) (a' := ?_) #[true, true, true, true, true, true, true, true, true, true, true, true, false, false, true, false, true, false, true, false, false, false, false, false, false] rfl rfl (any_of HT_.out (by kernel_rfl)) (fun _ _ _ h => h) (Or.inl ⟨by rfl, ?_⟩) ?_ ?_
      rotate_left
      · intro w'
        go_simp
        with_reducible rfl
      rotate_left
      · simp only [Act.put, List.setIfInBounds_toArray, List.set_cons_zero, List.set_cons_succ, i64_w, i32_w]
        rfl
      refine pure_ (i := 20) (N := some 23) (v := ?_) (a' := ?_) #[true, true, true, true, true, true, true, true, true, true, true, true, false, false, true, false, true, false, true, false, true, false, false, false, false] rfl rfl (any_of HT_.out (by kernel_rfl)) (fun _ _ _ h => h) (Or.inl ⟨by rfl, ?_⟩) ?_ ?_
      rotate_left
      · intro w'
        go_simp
        with_reducible rfl
      rotate_left
      · simp only [Act.put, List.setIfInBounds_toArray, List.set_cons_zero, List.set_cons_succ, i64_w, i32_w]
        rfl
      refine take_ (i := 12) (N := some 15) (v := ?_) (a' := ?_) #[true, true, true, true, true, true, true, true, true, true, true, true, true, false, true, false, true, false, true, false, true, false, false, false, false] rfl rfl (take_ofW HT_.out HW_.out (by kernel_rfl)) (fun _ _ _ h => h) (Or.inl ⟨by rfl, ?_⟩) hHeld ?_ ?_
      rotate_left
      · rintro w' ⟨s0, s1, s2, s3, s4⟩
        go_simp
        with_reducible rfl
      rotate_left
      · simp only [Act.put, List.setIfInBounds_toArray, List.set_cons_zero, List.set_cons_succ, i64_w, i32_w]
        rfl
      refine pure_ (i := 13) (N := some 16) (v := ?_) (a' := ?_) #[true, true, true, true, true, true, true, true, true, true, true, true, true, true, true, false, true, false, true, false, true, false, false, false, false] rfl rfl (any_of HT_.out (by kernel_rfl)) (fun _ _ _ h => h) (Or.inl ⟨by rfl, ?_⟩) ?_ ?_
      rotate_left
      · intro w'
        go_simp
        with_reducible rfl
      rotate_left
      · simp only [Act.put, List.setIfInBounds_toArray, List.set_cons_zero, List.set_cons_succ, i64_w, i32_w]
        rfl
      refine take_ (i := 15) (N := some 18) (v := ?_) (a' := ?_) #[true, true, true, true, true, true, true, true, true, true, true, true, true, true, true, true, true, false, true, false, true, false, false, false, false] rfl rfl (take_ofW HT_.out HW_.out (by kernel_rfl)) (fun _ _ _ h => h) (Or.inl ⟨by rfl, ?_⟩) hHeld ?_ ?_
      rotate_left
      · rintro w' ⟨s0, s1, s2, s3, s4⟩
        go_simp
        with_reducible rfl
      rotate_left
      · simp only [Act.put, List.setIfInBounds_toArray, List.set_cons_zero, List.set_cons_succ, i64_w, i32_w]
        rfl
      refine take_ (i := 17) (N := some 20) (v := ?_) (a' := ?_) #[true, true, true, true, true, true, true, true, true, true, true, true, true, true, true, true, true, true, true, false, true, false, false, false, false] rfl rfl (take_ofW HT_.out HW_.out (by kernel_rfl)) (fun _ _ _ h => h) (Or.inl ⟨by rfl, ?_⟩) hHeld ?_ ?_
      rotate_left
      · rintro w' ⟨s0, s1, s2, s3, s4⟩
        go_simp
        with_reducible rfl
      rotate_left
      · simp only [Act.put, List.setIfInBounds_toArray, List.set_cons_zero, List.set_cons_succ, i64_w, i32_w]
        rfl
      refine take_ (i := 19) (N := some 22) (v := ?_) (a' := ?_) #[true, true, true, true, true, true, true, true, true, true, true, true, true, true, true, true, true, true, true, true, true, false, false, false, false] rfl rfl (take_ofW HT_.out HW_.out (by kernel_rfl)) (fun _ _ _ h => h) (Or.inl ⟨by rfl, ?_⟩) hHeld ?_ ?_
      rotate_left
      · rintro w' ⟨s0, s1, s2, s3, s4⟩
        go_simp
        with_reducible rfl
      rotate_left
      · simp only [Act.put, List.setIfInBounds_toArray, List.set_cons_zero, List.set_cons_succ, i64_w, i32_w]
        rfl
      refine take_ (i := 21) (N := some 24) (v := ?_) (a' := ?_) #[true, true, true, true, true, true, true, true, true, true, true, true, true, true, true, true, true, true, true, true, true, true, false, false, false] rfl rfl (take_ofW HT_.out HW_.out (by kernel_rfl)) (fun _ _ _ h => h) (Or.inl ⟨by rfl, ?_⟩) hHeld ?_ ?_
      rotate_left
      · rintro w' ⟨s0, s1, s2, s3, s4⟩
        go_simp
        with_reducible rfl
      rotate_left
      · simp only [Act.put, List.setIfInBounds_toArray, List.set_cons_zero, List.set_cons_succ, i64_w, i32_w]
        rfl
      refine one_ (i := 22) (N := some 25) #[true, true, true, true, true, true, true, true, true, true, true, true, true, true, true, true, true, true, true, true, true, true, true, false, false] rfl rfl (one_of HT_.out (by kernel_rfl)) (by decide) (fun K hK => ?_)
      refine goes_ Try.func84 (by kernel_rfl) rfl #[.int .i64 a0_0, .int .i64 a0_1, .int .i64 a0_2, .int .i64 a0_3] (by rfl) rfl rfl (by (try simp only [List.map_toArray, List.map_cons, List.map_nil]); first | done | rfl | (simp only [List.length_drop, List.length_take]; rfl)) ?_
      with_reducible refine (video_size.calls a0_0 a0_1 a0_2 a0_3 t209 _ A6.out).mono ?_
      rintro e w8 ⟨rfl, hb⟩
      refine ⟨_, rfl, ?_⟩
      have n0_ := Aside0.mk (blk_below (g := gb207) (o := .cells #[.int .i64 a0_0, .int .i64 a0_1, .int .i64 a0_2, .int .i64 a0_3, .string a0_4] 49 (0, 0)) (by (with_reducible repeat (first | refine blk_drewN ?_ _ | refine blk_drew ?_ | refine blk_alloc ?_ _)); exact BK207.out) hb)
      have n1_ := Aside0.mk (below_step (by repeat (first | (with_reducible first | exact HB.out | apply below_alloc | apply pw_below_drewN | apply below_drew1 | refine below_set ?_ GE207.out) | exact HB.out)) hb)
      clear BK207
      clear HB
      have BK207 := n0_
      have HB := n1_
      clear n0_ n1_
      (try clear hb)
      (try clear hb2)
      (try clear hk)
      (try clear hi)
      refine hK.out _ _ ⟨(blk_cell BK207.out 0).trans rfl, (blk_cell BK207.out 1).trans rfl, (blk_cell BK207.out 2).trans rfl, (blk_cell BK207.out 3).trans rfl, (blk_cell BK207.out 4).trans rfl⟩ (fun hHeld => ?_)
      clear hK K
      refine norm_ (a' := ?_) ?_ ?_
      rotate_left
      · show Act.put _ (some 25) _ = _
        simp only [Act.put, List.setIfInBounds_toArray, List.set_cons_zero, List.set_cons_succ, i64_w, i32_w]
        rfl
      refine pure_ (i := 23) (N := some 26) (v := ?_) (a' := ?_) #[true, true, true, true, true, true, true, true, true, true, true, true, true, true, true, true, true, true, true, true, true, true, true, true, false] rfl rfl (any_of HT_.out (by kernel_rfl)) (fun _ _ _ h => h) (Or.inl ⟨by rfl, ?_⟩) ?_ ?_
      rotate_left
      · intro w'
        go_simp
        with_reducible rfl
      rotate_left
      · simp only [Act.put, List.setIfInBounds_toArray, List.set_cons_zero, List.set_cons_succ, i64_w, i32_w]
        rfl
      refine pure_ (i := 24) (N := some 27) (v := ?_) (a' := ?_) #[true, true, true, true, true, true, true, true, true, true, true, true, true, true, true, true, true, true, true, true, true, true, true, true, true] rfl rfl (any_of HT_.out (by kernel_rfl)) (fun _ _ _ h => h) (Or.inl ⟨by rfl, ?_⟩) ?_ ?_
      rotate_left
      · intro w'
        go_simp
        with_reducible rfl
      rotate_left
      · simp only [Act.put, List.setIfInBounds_toArray, List.set_cons_zero, List.set_cons_succ, i64_w, i32_w]
        rfl
      refine done_ (done_of HT_.out (by kernel_rfl)) ?_
      try go_wp2
      go_meet
      case rel => exact ⟨_, (((a0_4.size : Int) != t209)), (by first | rfl | (simp; done) | (simp [*]; done)), H', ⟨by first | omega | exact Nat.le_refl _⟩, ⟨by (with_reducible repeat (first | refine blk_drewN ?_ _ | refine blk_drew ?_ | refine blk_alloc ?_ _)); exact BK207.out⟩, ⟨by repeat (first | (with_reducible first | exact HB.out | apply below_alloc | apply pw_below_drewN | apply below_drew1 | refine below_set ?_ GE207.out) | exact HB.out)⟩⟩
    · replace c5 := Bool.eq_false_iff.mpr c5
      subst c5
      have H1 : (video_Valid.j0 k true a0_0 a0_1 a0_2 a0_3 a0_4) = some r := by rw [if_neg (show ¬ (false = true) by decide)] at H; exact H
      clear H
      have H := H1
      clear H1
      have H' := Aside0.mk H
      clear H
      try go_wp2
      have n0_ := Aside0.mk (blk_drew BK207.out)
      have n1_ := Aside0.mk (below_drew1 HB.out)
      clear BK207
      clear HB
      have BK207 := n0_
      have HB := n1_
      clear n0_ n1_
      refine start_ (n := 25) (S := fun w' => w'.cell? ⟨gb207, 0, none⟩ = some (.int .i64 a0_0) ∧ w'.cell? ⟨gb207, 1, none⟩ = some (.int .i64 a0_1) ∧ w'.cell? ⟨gb207, 2, none⟩ = some (.int .i64 a0_2) ∧ w'.cell? ⟨gb207, 3, none⟩ = some (.int .i64 a0_3) ∧ w'.cell? ⟨gb207, 4, none⟩ = some (.string a0_4)) (ds := []) #[false, false, false, false, false, false, false, false, false, false, false, false, false, false, false, false, false, false, false, false, false, false, false, false, false] (by kernel_rfl) rfl rfl ⟨(blk_cell BK207.out 0).trans rfl, (blk_cell BK207.out 1).trans rfl, (blk_cell BK207.out 2).trans rfl, (blk_cell BK207.out 3).trans rfl, (blk_cell BK207.out 4).trans rfl⟩ (fun hHeld => ?_); refine with_tabW video_Valid.tab1 video_Valid.bits1 (fun HT_ HW_ => ?_)
      generalize w3.drew = w9 at BK207 HB hHeld ⊢
      refine pure_ (i := 0) (N := some 3) (v := ?_) (a' := ?_) #[true, false, false, false, false, false, false, false, false, false, false, false, false, false, false, false, false, false, false, false, false, false, false, false, false] rfl rfl (any_of HT_.out (by kernel_rfl)) (fun _ _ _ h => h) (Or.inl ⟨by rfl, ?_⟩) ?_ ?_
      rotate_left
      · intro w'
        go_simp
        with_reducible rfl
      rotate_left
      · simp only [Act.put, List.setIfInBounds_toArray, List.set_cons_zero, List.set_cons_succ, i64_w, i32_w]
        rfl
      refine pure_ (i := 2) (N := some 5) (v := ?_) (a' := ?_) #[true, false, true, false, false, false, false, false, false, false, false, false, false, false, false, false, false, false, false, false, false, false, false, false, false] rfl rfl (any_of HT_.out (by kernel_rfl)) (fun _ _ _ h => h) (Or.inl ⟨by rfl, ?_⟩) ?_ ?_
      rotate_left
      · intro w'
        go_simp
        with_reducible rfl
      rotate_left
      · simp only [Act.put, List.setIfInBounds_toArray, List.set_cons_zero, List.set_cons_succ, i64_w, i32_w]
        rfl
      refine pure_ (i := 4) (N := some 7) (v := ?_) (a' := ?_) #[true, false, true, false, true, false, false, false, false, false, false, false, false, false, false, false, false, false, false, false, false, false, false, false, false] rfl rfl (any_of HT_.out (by kernel_rfl)) (fun _ _ _ h => h) (Or.inl ⟨by rfl, ?_⟩) ?_ ?_
      rotate_left
      · intro w'
        go_simp
        with_reducible rfl
      rotate_left
      · simp only [Act.put, List.setIfInBounds_toArray, List.set_cons_zero, List.set_cons_succ, i64_w, i32_w]
        rfl
      refine pure_ (i := 6) (N := some 9) (v := ?_) (a' := ?_) #[true, false, true, false, true, false, true, false, false, false, false, false, false, false, false, false, false, false, false, false, false, false, false, false, false] rfl rfl (any_of HT_.out (by kernel_rfl)) (fun _ _ _ h => h) (Or.inl ⟨by rfl, ?_⟩) ?_ ?_
      rotate_left
      · intro w'
        go_simp
        with_reducible rfl
      rotate_left
      · simp only [Act.put, List.setIfInBounds_toArray, List.set_cons_zero, List.set_cons_succ, i64_w, i32_w]
        rfl
      refine take_ (i := 1) (N := some 4) (v := ?_) (a' := ?_) #[true, true, true, false, true, false, true, false, false, false, false, false, false, false, false, false, false, false, false, false, false, false, false, false, false] rfl rfl (take_ofW HT_.out HW_.out (by kernel_rfl)) (fun _ _ _ h => h) (Or.inl ⟨by rfl, ?_⟩) hHeld ?_ ?_
      rotate_left
      · rintro w' ⟨s0, s1, s2, s3, s4⟩
        go_simp
        with_reducible rfl
      rotate_left
      · simp only [Act.put, List.setIfInBounds_toArray, List.set_cons_zero, List.set_cons_succ, i64_w, i32_w]
        rfl
      refine take_ (i := 3) (N := some 6) (v := ?_) (a' := ?_) #[true, true, true, true, true, false, true, false, false, false, false, false, false, false, false, false, false, false, false, false, false, false, false, false, false] rfl rfl (take_ofW HT_.out HW_.out (by kernel_rfl)) (fun _ _ _ h => h) (Or.inl ⟨by rfl, ?_⟩) hHeld ?_ ?_
      rotate_left
      · rintro w' ⟨s0, s1, s2, s3, s4⟩
        go_simp
        with_reducible rfl
      rotate_left
      · simp only [Act.put, List.setIfInBounds_toArray, List.set_cons_zero, List.set_cons_succ, i64_w, i32_w]
        rfl
      refine take_ (i := 5) (N := some 8) (v := ?_) (a' := ?_) #[true, true, true, true, true, true, true, false, false, false, false, false, false, false, false, false, false, false, false, false, false, false, false, false, false] rfl rfl (take_ofW HT_.out HW_.out (by kernel_rfl)) (fun _ _ _ h => h) (Or.inl ⟨by rfl, ?_⟩) hHeld ?_ ?_
      rotate_left
      · rintro w' ⟨s0, s1, s2, s3, s4⟩
        go_simp
        with_reducible rfl
      rotate_left
      · simp only [Act.put, List.setIfInBounds_toArray, List.set_cons_zero, List.set_cons_succ, i64_w, i32_w]
        rfl
      refine take_ (i := 7) (N := some 10) (v := ?_) (a' := ?_) #[true, true, true, true, true, true, true, true, false, false, false, false, false, false, false, false, false, false, false, false, false, false, false, false, false] rfl rfl (take_ofW HT_.out HW_.out (by kernel_rfl)) (fun _ _ _ h => h) (Or.inl ⟨by rfl, ?_⟩) hHeld ?_ ?_
      rotate_left
      · rintro w' ⟨s0, s1, s2, s3, s4⟩
        go_simp
        with_reducible rfl
      rotate_left
      · simp only [Act.put, List.setIfInBounds_toArray, List.set_cons_zero, List.set_cons_succ, i64_w, i32_w]
        rfl
      refine one_ (i := 8) (N := some 11) #[true, true, true, true, true, true, true, true, true, false, false, false, false, false, false, false, false, false, false, false, false, false, false, false, false] rfl rfl (one_of HT_.out (by kernel_rfl)) (by decide) (fun K hK => ?_)
      refine goes_ Try.func83 (by kernel_rfl) rfl #[.int .i64 a0_0, .int .i64 a0_1, .int .i64 a0_2, .int .i64 a0_3] (by rfl) rfl rfl (by (try simp only [List.map_toArray, List.map_cons, List.map_nil]); first | done | rfl | (simp only [List.length_drop, List.length_take]; rfl)) ?_
      with_reducible refine (video_right.calls a0_0 a0_1 a0_2 a0_3 false _ A4.out).mono ?_
      rintro e w' ⟨rfl, ⟨nd, rfl⟩⟩
      refine ⟨_, rfl, ?_⟩
      refine hK.out _ _ ⟨(blk_cell BK207.out 0).trans rfl, (blk_cell BK207.out 1).trans rfl, (blk_cell BK207.out 2).trans rfl, (blk_cell BK207.out 3).trans rfl, (blk_cell BK207.out 4).trans rfl⟩ (fun hHeld => ?_)
      clear hK K
      refine norm_ (a' := ?_) ?_ ?_
      rotate_left
      · show Act.put _ (some 11) _ = _
        simp only [Act.put, List.setIfInBounds_toArray, List.set_cons_zero, List.set_cons_succ, i64_w, i32_w]
        rfl
      refine pure_ (i := 9) (N := some 12) (v := ?_) (a' := ?_) #[true, true, true, true, true, true, true, true, true, true, false, false, false, false, false, false, false, false, false, false, false, false, false, false, false] rfl rfl (any_of HT_.out (by kernel_rfl)) (fun _ _ _ h => h) (Or.inl ⟨by rfl, ?_⟩) ?_ ?_
      rotate_left
      · intro w'
        go_simp
        with_reducible rfl
      rotate_left
      · simp only [Act.put, List.setIfInBounds_toArray, List.set_cons_zero, List.set_cons_succ, i64_w, i32_w]
        rfl
      refine pure_ (i := 10) (N := some 13) (v := ?_) (a' := ?_) #[true, true, true, true, true, true, true, true, true, true, true, false, false, false, false, false, false, false, false, false, false, false, false, false, false] rfl rfl (any_of HT_.out (by kernel_rfl)) (fun _ _ _ h => h) (Or.inl ⟨by rfl, ?_⟩) ?_ ?_
      rotate_left
      · intro w'
        go_simp
        with_reducible rfl
      rotate_left
      · simp only [Act.put, List.setIfInBounds_toArray, List.set_cons_zero, List.set_cons_succ, i64_w, i32_w]
        rfl
      refine pure_ (i := 11) (N := some 14) (v := undef) (a' := ?_) #[true, true, true, true, true, true, true, true, true, true, true, true, false, false, false, false, false, false, false, false, false, false, false, false, false] rfl rfl (any_of HT_.out (by kernel_rfl)) (fun _ _ _ h => h) (Or.inr ⟨by rfl, rfl⟩) ?_ ?_
      rotate_left
      · simp only [Act.put, List.setIfInBounds_toArray, List.set_cons_zero, List.set_cons_succ, i64_w, i32_w]
        rfl
      refine pure_ (i := 12) (N := some 15) (v := undef) (a' := ?_) #[true, true, true, true, true, true, true, true, true, true, true, true, true, false, false, false, false, false, false, false, false, false, false, false, false] rfl rfl (any_of HT_.out (by kernel_rfl)) (fun _ _ _ h => h) (Or.inr ⟨by rfl, rfl⟩) ?_ ?_
      rotate_left
      · simp only [Act.put, List.setIfInBounds_toArray, List.set_cons_zero, List.set_cons_succ, i64_w, i32_w]
        rfl
      refine pure_ (i := 13) (N := some 16) (v := undef) (a' := ?_) #[true, true, true, true, true, true, true, true, true, true, true, true, true, true, false, false, false, false, false, false, false, false, false, false, false] rfl rfl (any_of HT_.out (by kernel_rfl)) (fun _ _ _ h => h) (Or.inr ⟨by rfl, rfl⟩) ?_ ?_
      rotate_left
      · simp only [Act.put, List.setIfInBounds_toArray, List.set_cons_zero, List.set_cons_succ, i64_w, i32_w]
        rfl
      refine pure_ (i := 14) (N := some 17) (v := undef) (a' := ?_) #[true, true, true, true, true, true, true, true, true, true, true, true, true, true, true, false, false, false, false, false, false, false, false, false, false] rfl rfl (any_of HT_.out (by kernel_rfl)) (fun _ _ _ h => h) (Or.inr ⟨by rfl, rfl⟩) ?_ ?_
      rotate_left
      · simp only [Act.put, List.setIfInBounds_toArray, List.set_cons_zero, List.set_cons_succ, i64_w, i32_w]
        rfl
      refine pure_ (i := 15) (N := some 18) (v := undef) (a' := ?_) #[true, true, true, true, true, true, true, true, true, true, true, true, true, true, true, true, false, false, false, false, false, false, false, false, false] rfl rfl (any_of HT_.out (by kernel_rfl)) (fun _ _ _ h => h) (Or.inr ⟨by rfl, rfl⟩) ?_ ?_
      rotate_left
      · simp only [Act.put, List.setIfInBounds_toArray, List.set_cons_zero, List.set_cons_succ, i64_w, i32_w]
        rfl
      refine pure_ (i := 16) (N := some 19) (v := undef) (a' := ?_) #[true, true, true, true, true, true, true, true, true, true, true, true, true, true, true, true, true, false, false, false, false, false, false, false, false] rfl rfl (any_of HT_.out (by kernel_rfl)) (fun _ _ _ h => h) (Or.inr ⟨by rfl, rfl⟩) ?_ ?_
      rotate_left
      · simp only [Act.put, List.setIfInBounds_toArray, List.set_cons_zero, List.set_cons_succ, i64_w, i32_w]
        rfl
      refine pure_ (i := 17) (N := some 20) (v := undef) (a' := ?_) #[true, true, true, true, true, true, true, true, true, true, true, true, true, true, true, true, true, true, false, false, false, false, false, false, false] rfl rfl (any_of HT_.out (by kernel_rfl)) (fun _ _ _ h => h) (Or.inr ⟨by rfl, rfl⟩) ?_ ?_
      rotate_left
      · simp only [Act.put, List.setIfInBounds_toArray, List.set_cons_zero, List.set_cons_succ, i64_w, i32_w]
        rfl
      refine pure_ (i := 18) (N := some 21) (v := undef) (a' := ?_) #[true, true, true, true, true, true, true, true, true, true, true, true, true, true, true, true, true, true, true, false, false, false, false, false, false] rfl rfl (any_of HT_.out (by kernel_rfl)) (fun _ _ _ h => h) (Or.inr ⟨by rfl, rfl⟩) ?_ ?_
      rotate_left
      · simp only [Act.put, List.setIfInBounds_toArray, List.set_cons_zero, List.set_cons_succ, i64_w, i32_w]
        rfl
      refine pure_ (i := 19) (N := some 22) (v := undef) (a' := ?_) #[true, true, true, true, true, true, true, true, true, true, true, true, true, true, true, true, true, true, true, true, false, false, false, false, false] rfl rfl (any_of HT_.out (by kernel_rfl)) (fun _ _ _ h => h) (Or.inr ⟨by rfl, rfl⟩) ?_ ?_
      rotate_left
      · simp only [Act.put, List.setIfInBounds_toArray, List.set_cons_zero, List.set_cons_succ, i64_w, i32_w]
        rfl
      refine pure_ (i := 20) (N := some 23) (v := undef) (a' := ?_) #[true, true, true, true, true, true, true, true, true, true, true, true, true, true, true, true, true, true, true, true, true, false, false, false, false] rfl rfl (any_of HT_.out (by kernel_rfl)) (fun _ _ _ h => h) (Or.inr ⟨by rfl, rfl⟩) ?_ ?_
      rotate_left
      · simp only [Act.put, List.setIfInBounds_toArray, List.set_cons_zero, List.set_cons_succ, i64_w, i32_w]
        rfl
      refine pure_ (i := 21) (N := some 24) (v := undef) (a' := ?_) #[true, true, true, true, true, true, true, true, true, true, true, true, true, true, true, true, true, true, true, true, true, true, false, false, false] rfl rfl (any_of HT_.out (by kernel_rfl)) (fun _ _ _ h => h) (Or.inr ⟨by rfl, rfl⟩) ?_ ?_
      rotate_left
      · simp only [Act.put, List.setIfInBounds_toArray, List.set_cons_zero, List.set_cons_succ, i64_w, i32_w]
        rfl
      refine pure_ (i := 22) (N := some 25) (v := undef) (a' := ?_) #[true, true, true, true, true, true, true, true, true, true, true, true, true, true, true, true, true, true, true, true, true, true, true, false, false] rfl rfl (any_of HT_.out (by kernel_rfl)) (fun _ _ _ h => h) (Or.inr ⟨by rfl, rfl⟩) ?_ ?_
      rotate_left
      · simp only [Act.put, List.setIfInBounds_toArray, List.set_cons_zero, List.set_cons_succ, i64_w, i32_w]
        rfl
      refine pure_ (i := 23) (N := some 26) (v := undef) (a' := ?_) #[true, true, true, true, true, true, true, true, true, true, true, true, true, true, true, true, true, true, true, true, true, true, true, true, false] rfl rfl (any_of HT_.out (by kernel_rfl)) (fun _ _ _ h => h) (Or.inr ⟨by rfl, rfl⟩) ?_ ?_
      rotate_left
      · simp only [Act.put, List.setIfInBounds_toArray, List.set_cons_zero, List.set_cons_succ, i64_w, i32_w]
        rfl
      refine pure_ (i := 24) (N := some 27) (v := ?_) (a' := ?_) #[true, true, true, true, true, true, true, true, true, true, true, true, true, true, true, true, true, true, true, true, true, true, true, true, true] rfl rfl (any_of HT_.out (by kernel_rfl)) (fun _ _ _ h => h) (Or.inl ⟨by rfl, ?_⟩) ?_ ?_
      rotate_left
      · intro w'
        go_simp
        with_reducible rfl
      rotate_left
      · simp only [Act.put, List.setIfInBounds_toArray, List.set_cons_zero, List.set_cons_succ, i64_w, i32_w]
        rfl
      refine done_ (done_of HT_.out (by kernel_rfl)) ?_
      try go_wp2
      go_meet
      case rel => exact ⟨_, (true), (by first | rfl | (simp; done) | (simp [*]; done)), H', ⟨by first | omega | exact Nat.le_refl _⟩, ⟨by (with_reducible repeat (first | refine blk_drewN ?_ _ | refine blk_drew ?_ | refine blk_alloc ?_ _)); exact BK207.out⟩, ⟨by repeat (first | (with_reducible first | exact HB.out | apply below_alloc | apply pw_below_drewN | apply below_drew1 | refine below_set ?_ GE207.out) | exact HB.out)⟩⟩
  case rest =>
    clear HC2
    try clear p2
    try clear c3
    try clear c5
    try clear c8
    obtain ⟨kq, x27_1, rfl, HA, HJ1, BK207, HB⟩ := hcut
    cases kq with
    | zero => exact absurd HA.out (by simp [video_Valid.j0])
    | succ kj1 =>
      have H := HA.out
      clear HA
      simp only [video_Valid.j0] at H
      by_cases c10 : x27_1 = true
      · subst c10
        have H1 : (some false) = some r := by rw [if_pos rfl] at H; exact H
        clear H
        have H := H1
        clear H1
        obtain rfl := Option.some.inj H
        go_wp2
        go_ret
        exact ⟨by first | rfl | (simp [errW_none, errW_some] <;> rfl) | (simp [*, errW_none, errW_some] <;> rfl), by repeat (first | (with_reducible first | exact HB.out | apply below_alloc | apply pw_below_drewN | apply below_drew1 | refine below_set ?_ GE207.out) | exact HB.out)⟩
      · replace c10 := Bool.eq_false_iff.mpr c10
        subst c10
        have H1 : (if a0_1 = 0 then (some true) else ((video_turned.f a0_0 a0_1 a0_2 a0_3 a0_4 0).bind fun bt210 => ((video_turned.f bt210.1 bt210.2.1 bt210.2.2.1 bt210.2.2.2.1 bt210.2.2.2.2 1).bind fun bt215 => (some (bt215.2.2.2.2.toList == a0_4.toList))))) = some r := by rw [if_neg (show ¬ (false = true) by decide)] at H; exact H
        clear H
        have H := H1
        clear H1
        by_cases c11 : a0_1 = 0
        · rw [if_pos c11] at H
          have c11b0 : (a0_1 == 0) = true := beq_iff_eq.mpr c11
          have c11b1 : (a0_1 != 0) = false := bne_eq_false_iff_eq.mpr c11
          clear c11
          obtain rfl := Option.some.inj H
          try go_wp2
          have n0_ := Aside0.mk (blk_drew BK207.out)
          have n1_ := Aside0.mk (below_drew1 HB.out)
          clear BK207
          clear HB
          have BK207 := n0_
          have HB := n1_
          clear n0_ n1_
          refine start_ (n := 13) (S := fun w' => w'.cell? ⟨gb207, 0, none⟩ = some (.int .i64 a0_0) ∧ w'.cell? ⟨gb207, 1, none⟩ = some (.int .i64 a0_1) ∧ w'.cell? ⟨gb207, 2, none⟩ = some (.int .i64 a0_2) ∧ w'.cell? ⟨gb207, 3, none⟩ = some (.int .i64 a0_3) ∧ w'.cell? ⟨gb207, 4, none⟩ = some (.string a0_4)) (ds := []) #[false, false, false, false, false, false, false, false, false, false, false, false, false] (by kernel_rfl) rfl rfl ⟨(blk_cell BK207.out 0).trans rfl, (blk_cell BK207.out 1).trans rfl, (blk_cell BK207.out 2).trans rfl, (blk_cell BK207.out 3).trans rfl, (blk_cell BK207.out 4).trans rfl⟩ (fun hHeld => ?_); refine with_tabW video_Valid.tab3 video_Valid.bits3 (fun HT_ HW_ => ?_)
          generalize wc.drew = w12 at BK207 HB hHeld ⊢
          refine pure_ (i := 0) (N := some 28) (v := ?_) (a' := ?_) #[true, false, false, false, false, false, false, false, false, false, false, false, false] rfl rfl (any_of HT_.out (by kernel_rfl)) (fun _ _ _ h => h) (Or.inl ⟨by rfl, ?_⟩) ?_ ?_
          rotate_left
          · intro w'
            go_simp
            with_reducible rfl
          rotate_left
          · simp only [Act.put, List.setIfInBounds_toArray, List.set_cons_zero, List.set_cons_succ, i64_w, i32_w]
            rfl
          refine take_ (i := 1) (N := some 29) (v := ?_) (a' := ?_) #[true, true, false, false, false, false, false, false, false, false, false, false, false] rfl rfl (take_ofW HT_.out HW_.out (by kernel_rfl)) (fun _ _ _ h => h) (Or.inl ⟨by rfl, ?_⟩) hHeld ?_ ?_
          rotate_left
          · rintro w' ⟨s0, s1, s2, s3, s4⟩
            go_simp
            with_reducible rfl
          rotate_left
          · simp only [Act.put, List.setIfInBounds_toArray, List.set_cons_zero, List.set_cons_succ, i64_w, i32_w]
            rfl
          refine pure_ (i := 2) (N := some 30) (v := ?_) (a' := ?_) #[true, true, true, false, false, false, false, false, false, false, false, false, false] rfl rfl (any_of HT_.out (by kernel_rfl)) (fun _ _ _ h => h) (Or.inl ⟨by rfl, ?_⟩) ?_ ?_
          rotate_left
          · intro w'
            go_simp
            with_reducible rfl
          rotate_left
          · simp only [Act.put, List.setIfInBounds_toArray, List.set_cons_zero, List.set_cons_succ, i64_w, i32_w]
            rfl
          refine pure_ (i := 3) (N := some 31) (v := ?_) (a' := ?_) #[true, true, true, true, false, false, false, false, false, false, false, false, false] rfl rfl (any_of HT_.out (by kernel_rfl)) (fun _ _ _ h => h) (Or.inl ⟨by rfl, ?_⟩) ?_ ?_
          rotate_left
          · intro w'
            go_simp
            with_reducible rfl
          rotate_left
          · simp only [Act.put, List.setIfInBounds_toArray, List.set_cons_zero, List.set_cons_succ, i64_w, i32_w]
            rfl
          refine pure_ (i := 4) (N := some 32) (v := undef) (a' := ?_) #[true, true, true, true, true, false, false, false, false, false, false, false, false] rfl rfl (any_of HT_.out (by kernel_rfl)) (fun _ _ _ h => h) (Or.inr ⟨by rfl, rfl⟩) ?_ ?_
          rotate_left
          · simp only [Act.put, List.setIfInBounds_toArray, List.set_cons_zero, List.set_cons_succ, i64_w, i32_w]
            rfl
          refine pure_ (i := 5) (N := some 33) (v := undef) (a' := ?_) #[true, true, true, true, true, true, false, false, false, false, false, false, false] rfl rfl (any_of HT_.out (by kernel_rfl)) (fun _ _ _ h => h) (Or.inr ⟨by rfl, rfl⟩) ?_ ?_
          rotate_left
          · simp only [Act.put, List.setIfInBounds_toArray, List.set_cons_zero, List.set_cons_succ, i64_w, i32_w]
            rfl
          refine pure_ (i := 6) (N := some 34) (v := undef) (a' := ?_) #[true, true, true, true, true, true, true, false, false, false, false, false, false] rfl rfl (any_of HT_.out (by kernel_rfl)) (fun _ _ _ h => h) (Or.inr ⟨by rfl, rfl⟩) ?_ ?_
          rotate_left
          · simp only [Act.put, List.setIfInBounds_toArray, List.set_cons_zero, List.set_cons_succ, i64_w, i32_w]
            rfl
          refine pure_ (i := 7) (N := some 35) (v := undef) (a' := ?_) #[true, true, true, true, true, true, true, true, false, false, false, false, false] rfl rfl (any_of HT_.out (by kernel_rfl)) (fun _ _ _ h => h) (Or.inr ⟨by rfl, rfl⟩) ?_ ?_
          rotate_left
          · simp only [Act.put, List.setIfInBounds_toArray, List.set_cons_zero, List.set_cons_succ, i64_w, i32_w]
            rfl
          refine pure_ (i := 8) (N := some 36) (v := undef) (a' := ?_) #[true, true, true, true, true, true, true, true, true, false, false, false, false] rfl rfl (any_of HT_.out (by kernel_rfl)) (fun _ _ _ h => h) (Or.inr ⟨by rfl, rfl⟩) ?_ ?_
          rotate_left
          · simp only [Act.put, List.setIfInBounds_toArray, List.set_cons_zero, List.set_cons_succ, i64_w, i32_w]
            rfl
          refine pure_ (i := 9) (N := some 37) (v := undef) (a' := ?_) #[true, true, true, true, true, true, true, true, true, true, false, false, false] rfl rfl (any_of HT_.out (by kernel_rfl)) (fun _ _ _ h => h) (Or.inr ⟨by rfl, rfl⟩) ?_ ?_
          rotate_left
          · simp only [Act.put, List.setIfInBounds_toArray, List.set_cons_zero, List.set_cons_succ, i64_w, i32_w]
            rfl
          refine pure_ (i := 10) (N := some 38) (v := undef) (a' := ?_) #[true, true, true, true, true, true, true, true, true, true, true, false, false] rfl rfl (any_of HT_.out (by kernel_rfl)) (fun _ _ _ h => h) (Or.inr ⟨by rfl, rfl⟩) ?_ ?_
          rotate_left
          · simp only [Act.put, List.setIfInBounds_toArray, List.set_cons_zero, List.set_cons_succ, i64_w, i32_w]
            rfl
          refine pure_ (i := 11) (N := some 39) (v := ?_) (a' := ?_) #[true, true, true, true, true, true, true, true, true, true, true, true, false] rfl rfl (any_of HT_.out (by kernel_rfl)) (fun _ _ _ h => h) (Or.inl ⟨by rfl, ?_⟩) ?_ ?_
          rotate_left
          · intro w'
            go_simp
            with_reducible rfl
          rotate_left
          · simp only [Act.put, List.setIfInBounds_toArray, List.set_cons_zero, List.set_cons_succ, i64_w, i32_w]
            rfl
          refine pure_ (i := 12) (N := some 2) (v := ?_) (a' := ?_) #[true, true, true, true, true, true, true, true, true, true, true, true, true] rfl rfl (any_of HT_.out (by kernel_rfl)) (fun _ _ _ h => h) (Or.inl ⟨by rfl, ?_⟩) ?_ ?_
          rotate_left
          · intro w'
            go_simp
            with_reducible rfl
          rotate_left
          · simp only [Act.put, List.setIfInBounds_toArray, List.set_cons_zero, List.set_cons_succ, i64_w, i32_w]
            rfl
          refine done_ (done_of HT_.out (by kernel_rfl)) ?_
          try go_wp2
          go_ret
          exact ⟨by first | rfl | (simp [errW_none, errW_some] <;> rfl) | (simp [*, errW_none, errW_some] <;> rfl), by repeat (first | (with_reducible first | exact HB.out | apply below_alloc | apply pw_below_drewN | apply below_drew1 | refine below_set ?_ GE207.out) | exact HB.out)⟩
        · rw [if_neg c11] at H
          have c11b0 : (a0_1 == 0) = false := beq_eq_false_iff_ne.mpr c11
          have c11b1 : (a0_1 != 0) = true := bne_iff_ne.mpr c11
          replace H := Option.bind_eq_some_iff.mp H
          obtain ⟨⟨t210, t211, t212, t213, t214⟩, A130, H⟩ := H
          replace H : ((video_turned.f t210 t211 t212 t213 t214 1).bind fun bt215 => (some (bt215.2.2.2.2.toList == a0_4.toList))) = some r := H
          have A13 := Aside0.mk A130
          clear A130
          replace H := Option.bind_eq_some_iff.mp H
          obtain ⟨⟨t215, t216, t217, t218, t219⟩, A140, H⟩ := H
          replace H : (some (t219.toList == a0_4.toList)) = some r := H
          have A14 := Aside0.mk A140
          clear A140
          obtain rfl := Option.some.inj H
          try go_wp2
          have n0_ := Aside0.mk (blk_drew BK207.out)
          have n1_ := Aside0.mk (below_drew1 HB.out)
          clear BK207
          clear HB
          have BK207 := n0_
          have HB := n1_
          clear n0_ n1_
          refine start_ (n := 13) (S := fun w' => w'.cell? ⟨gb207, 0, none⟩ = some (.int .i64 a0_0) ∧ w'.cell? ⟨gb207, 1, none⟩ = some (.int .i64 a0_1) ∧ w'.cell? ⟨gb207, 2, none⟩ = some (.int .i64 a0_2) ∧ w'.cell? ⟨gb207, 3, none⟩ = some (.int .i64 a0_3) ∧ w'.cell? ⟨gb207, 4, none⟩ = some (.string a0_4)) (ds := []) #[false, false, false, false, false, false, false, false, false, false, false, false, false] (by kernel_rfl) rfl rfl ⟨(blk_cell BK207.out 0).trans rfl, (blk_cell BK207.out 1).trans rfl, (blk_cell BK207.out 2).trans rfl, (blk_cell BK207.out 3).trans rfl, (blk_cell BK207.out 4).trans rfl⟩ (fun hHeld => ?_); refine with_tabW video_Valid.tab3 video_Valid.bits3 (fun HT_ HW_ => ?_)
          generalize wc.drew = w15 at BK207 HB hHeld ⊢
          refine pure_ (i := 0) (N := some 28) (v := ?_) (a' := ?_) #[true, false, false, false, false, false, false, false, false, false, false, false, false] rfl rfl (any_of HT_.out (by kernel_rfl)) (fun _ _ _ h => h) (Or.inl ⟨by rfl, ?_⟩) ?_ ?_
          rotate_left
          · intro w'
            go_simp
            with_reducible rfl
          rotate_left
          · simp only [Act.put, List.setIfInBounds_toArray, List.set_cons_zero, List.set_cons_succ, i64_w, i32_w]
            rfl
          refine take_ (i := 1) (N := some 29) (v := ?_) (a' := ?_) #[true, true, false, false, false, false, false, false, false, false, false, false, false] rfl rfl (take_ofW HT_.out HW_.out (by kernel_rfl)) (fun _ _ _ h => h) (Or.inl ⟨by rfl, ?_⟩) hHeld ?_ ?_
          rotate_left
          · rintro w' ⟨s0, s1, s2, s3, s4⟩
            go_simp
            with_reducible rfl
          rotate_left
          · simp only [Act.put, List.setIfInBounds_toArray, List.set_cons_zero, List.set_cons_succ, i64_w, i32_w]
            rfl
          refine pure_ (i := 2) (N := some 30) (v := ?_) (a' := ?_) #[true, true, true, false, false, false, false, false, false, false, false, false, false] rfl rfl (any_of HT_.out (by kernel_rfl)) (fun _ _ _ h => h) (Or.inl ⟨by rfl, ?_⟩) ?_ ?_
          rotate_left
          · intro w'
            go_simp
            with_reducible rfl
          rotate_left
          · simp only [Act.put, List.setIfInBounds_toArray, List.set_cons_zero, List.set_cons_succ, i64_w, i32_w]
            rfl
          refine pure_ (i := 3) (N := some 31) (v := ?_) (a' := ?_) #[true, true, true, true, false, false, false, false, false, false, false, false, false] rfl rfl (any_of HT_.out (by kernel_rfl)) (fun _ _ _ h => h) (Or.inl ⟨by rfl, ?_⟩) ?_ ?_
          rotate_left
          · intro w'
            go_simp
            with_reducible rfl
          rotate_left
          · simp only [Act.put, List.setIfInBounds_toArray, List.set_cons_zero, List.set_cons_succ, i64_w, i32_w]
            rfl
          refine pure_ (i := 8) (N := some 36) (v := ?_) (a' := ?_) #[true, true, true, true, false, false, false, false, true, false, false, false, false] rfl rfl (any_of HT_.out (by kernel_rfl)) (fun _ _ _ h => h) (Or.inl ⟨by rfl, ?_⟩) ?_ ?_
          rotate_left
          · intro w'
            go_simp
            with_reducible rfl
          rotate_left
          · simp only [Act.put, List.setIfInBounds_toArray, List.set_cons_zero, List.set_cons_succ, i64_w, i32_w]
            rfl
          refine take_ (i := 4) (N := some 32) (v := ?_) (a' := ?_) #[true, true, true, true, true, false, false, false, true, false, false, false, false] rfl rfl (take_ofW HT_.out HW_.out (by kernel_rfl)) (fun _ _ _ h => h) (Or.inl ⟨by rfl, ?_⟩) hHeld ?_ ?_
          rotate_left
          · rintro w' ⟨s0, s1, s2, s3, s4⟩
            go_simp
            with_reducible rfl
          rotate_left
          · simp only [Act.put, List.setIfInBounds_toArray, List.set_cons_zero, List.set_cons_succ, i64_w, i32_w]
            rfl
          refine take_ (i := 9) (N := some 37) (v := ?_) (a' := ?_) #[true, true, true, true, true, false, false, false, true, true, false, false, false] rfl rfl (take_ofW HT_.out HW_.out (by kernel_rfl)) (fun _ _ _ h => h) (Or.inl ⟨by rfl, ?_⟩) hHeld ?_ ?_
          rotate_left
          · rintro w' ⟨s0, s1, s2, s3, s4⟩
            go_simp
            with_reducible rfl
          rotate_left
          · simp only [Act.put, List.setIfInBounds_toArray, List.set_cons_zero, List.set_cons_succ, i64_w, i32_w]
            rfl
          refine one_ (i := 5) (N := some 33) #[true, true, true, true, true, true, false, false, true, true, false, false, false] rfl rfl (one_of HT_.out (by kernel_rfl)) (by decide) (fun K hK => ?_)
          refine goes_ Try.func87 (by kernel_rfl) rfl #[.agg #[.int .i64 a0_0, .int .i64 a0_1, .int .i64 a0_2, .int .i64 a0_3, .string a0_4], .int .i64 0] (by rfl) rfl rfl (by (try simp only [List.map_toArray, List.map_cons, List.map_nil]); first | done | rfl | (simp only [List.length_drop, List.length_take]; rfl)) ?_
          with_reducible refine (video_turned.calls a0_0 a0_1 a0_2 a0_3 a0_4 0 t210 t211 t212 t213 t214 _ A13.out).mono ?_
          rintro e w16 ⟨rfl, hb⟩
          refine ⟨_, rfl, ?_⟩
          have n0_ := Aside0.mk (blk_below (g := gb207) (o := .cells #[.int .i64 a0_0, .int .i64 a0_1, .int .i64 a0_2, .int .i64 a0_3, .string a0_4] 49 (0, 0)) (by (with_reducible repeat (first | refine blk_drewN ?_ _ | refine blk_drew ?_ | refine blk_alloc ?_ _)); exact BK207.out) hb)
          have n1_ := Aside0.mk (below_step (by repeat (first | (with_reducible first | exact HB.out | apply below_alloc | apply pw_below_drewN | apply below_drew1 | refine below_set ?_ GE207.out) | exact HB.out)) hb)
          clear BK207
          clear HB
          have BK207 := n0_
          have HB := n1_
          clear n0_ n1_
          (try clear hb)
          (try clear hb2)
          (try clear hk)
          (try clear hi)
          refine hK.out _ _ ⟨(blk_cell BK207.out 0).trans rfl, (blk_cell BK207.out 1).trans rfl, (blk_cell BK207.out 2).trans rfl, (blk_cell BK207.out 3).trans rfl, (blk_cell BK207.out 4).trans rfl⟩ (fun hHeld => ?_)
          clear hK K
          refine norm_ (a' := ?_) ?_ ?_
          rotate_left
          · show Act.put _ (some 33) _ = _
            simp only [Act.put, List.setIfInBounds_toArray, List.set_cons_zero, List.set_cons_succ, i64_w, i32_w]
            rfl
          refine one_ (i := 6) (N := some 34) #[true, true, true, true, true, true, true, false, true, true, false, false, false] rfl rfl (one_of HT_.out (by kernel_rfl)) (by decide) (fun K hK => ?_)
          refine goes_ Try.func87 (by kernel_rfl) rfl #[.agg #[.int .i64 t210, .int .i64 t211, .int .i64 t212, .int .i64 t213, .string t214], .int .i64 1] (by rfl) rfl rfl (by (try simp only [List.map_toArray, List.map_cons, List.map_nil]); first | done | rfl | (simp only [List.length_drop, List.length_take]; rfl)) ?_
          with_reducible refine (video_turned.calls t210 t211 t212 t213 t214 1 t215 t216 t217 t218 t219 _ A14.out).mono ?_
          rintro e w17 ⟨rfl, hb⟩
          refine ⟨_, rfl, ?_⟩
          have n0_ := Aside0.mk (blk_below (g := gb207) (o := .cells #[.int .i64 a0_0, .int .i64 a0_1, .int .i64 a0_2, .int .i64 a0_3, .string a0_4] 49 (0, 0)) (by (with_reducible repeat (first | refine blk_drewN ?_ _ | refine blk_drew ?_ | refine blk_alloc ?_ _)); exact BK207.out) hb)
          have n1_ := Aside0.mk (below_step (by repeat (first | (with_reducible first | exact HB.out | apply below_alloc | apply pw_below_drewN | apply below_drew1 | refine below_set ?_ GE207.out) | exact HB.out)) hb)
          clear BK207
          clear HB
          have BK207 := n0_
          have HB := n1_
          clear n0_ n1_
          (try clear hb)
          (try clear hb2)
          (try clear hk)
          (try clear hi)
          refine hK.out _ _ ⟨(blk_cell BK207.out 0).trans rfl, (blk_cell BK207.out 1).trans rfl, (blk_cell BK207.out 2).trans rfl, (blk_cell BK207.out 3).trans rfl, (blk_cell BK207.out 4).trans rfl⟩ (fun hHeld => ?_)
          clear hK K
          refine norm_ (a' := ?_) ?_ ?_
          rotate_left
          · show Act.put _ (some 34) _ = _
            simp only [Act.put, List.setIfInBounds_toArray, List.set_cons_zero, List.set_cons_succ, i64_w, i32_w]
            rfl
          refine pure_ (i := 7) (N := some 35) (v := ?_) (a' := ?_) #[true, true, true, true, true, true, true, true, true, true, false, false, false] rfl rfl (any_of HT_.out (by kernel_rfl)) (fun _ _ _ h => h) (Or.inl ⟨by rfl, ?_⟩) ?_ ?_
          rotate_left
          · intro w'
            go_simp
            with_reducible rfl
          rotate_left
          · simp only [Act.put, List.setIfInBounds_toArray, List.set_cons_zero, List.set_cons_succ, i64_w, i32_w]
            rfl
          refine pure_ (i := 10) (N := some 38) (v := ?_) (a' := ?_) #[true, true, true, true, true, true, true, true, true, true, true, false, false] rfl rfl (any_of HT_.out (by kernel_rfl)) (fun _ _ _ h => h) (Or.inl ⟨by rfl, ?_⟩) ?_ ?_
          rotate_left
          · intro w'
            go_simp
            with_reducible rfl
          rotate_left
          · simp only [Act.put, List.setIfInBounds_toArray, List.set_cons_zero, List.set_cons_succ, i64_w, i32_w]
            rfl
          refine pure_ (i := 11) (N := some 39) (v := ?_) (a' := ?_) #[true, true, true, true, true, true, true, true, true, true, true, true, false] rfl rfl (any_of HT_.out (by kernel_rfl)) (fun _ _ _ h => h) (Or.inl ⟨by rfl, ?_⟩) ?_ ?_
          rotate_left
          · intro w'
            go_simp
            with_reducible rfl
          rotate_left
          · simp only [Act.put, List.setIfInBounds_toArray, List.set_cons_zero, List.set_cons_succ, i64_w, i32_w]
            rfl
          refine pure_ (i := 12) (N := some 2) (v := ?_) (a' := ?_) #[true, true, true, true, true, true, true, true, true, true, true, true, true] rfl rfl (any_of HT_.out (by kernel_rfl)) (fun _ _ _ h => h) (Or.inl ⟨by rfl, ?_⟩) ?_ ?_
          rotate_left
          · intro w'
            go_simp
            with_reducible rfl
          rotate_left
          · simp only [Act.put, List.setIfInBounds_toArray, List.set_cons_zero, List.set_cons_succ, i64_w, i32_w]
            rfl
          refine done_ (done_of HT_.out (by kernel_rfl)) ?_
          try go_wp2
          go_ret
          exact ⟨by first | rfl | (simp [errW_none, errW_some] <;> rfl) | (simp [*, errW_none, errW_some] <;> rfl), by repeat (first | (with_reducible first | exact HB.out | apply below_alloc | apply pw_below_drewN | apply below_drew1 | refine below_set ?_ GE207.out) | exact HB.out)⟩

end Go.Proofs.Ytenaegjiggodkaa.PV

-- Printed by vprint.py (a program of this claim over the translation's own print). Lean checks it.
namespace Go.Proofs.Ytenaegjiggodkaa.PV
open Go.RowKit Go.Proofs.YtenaegjiggodkaaW.PrintWords Go.Proofs.YtenaegjiggodkaaW.PrintLast Go.Proofs.YtenaegjiggodkaaW.PrintMore
attribute [local go_sem] max2_int min2_int max_two min_two max_three min_three max_four min_four   -- for this text's walks alone
set_option linter.unusedVariables false
set_option linter.unusedSimpArgs false

/-! ### video_Convert: function 42 -/
def video_Convert.f (k : Nat) (a0_0 : Int) (a0_1 : Int) (a0_2 : Int) (a0_3 : Int) (a0_4 : ByteArray) (a1 : Int) : Option (Int × Int × Int × Int × ByteArray × Int) := (video_Valid.f k a0_0 a0_1 a0_2 a0_3 a0_4).bind fun t222 => (if t222 = true then ((video_modifiers.f a1).bind fun t223 => (if t223 = true then ((video_turned.f a0_0 a0_1 a0_2 a0_3 a0_4 a1).bind fun bt224 => (some (bt224.1, bt224.2.1, bt224.2.2.1, bt224.2.2.2.1, bt224.2.2.2.2, 0))) else (some (0, 0, 0, 0, (⟨#[]⟩ : ByteArray), 7)))) else (some (0, 0, 0, 0, (⟨#[]⟩ : ByteArray), 1)))
theorem video_Convert.mono : ∀ a0 a1 a2 a3 a4 a5 k, LeO (video_Convert.f k a0 a1 a2 a3 a4 a5) (video_Convert.f (k + 1) a0 a1 a2 a3 a4 a5) := by
  intro a0 a1 a2 a3 a4 a5 k
  unfold video_Convert.f
  repeat' first
      | (with_reducible exact video_Valid.mono _ _ _ _ _ _)
      | (with_reducible exact LeO.refl _)
      | (with_reducible exact LeO.none _)
      | (with_reducible refine LeO.ite ?_ ?_)
      | (with_reducible refine LeO.bind ?_ (fun _ => ?_))
      | exact video_Valid.mono _ _ _ _ _ _
      | exact LeO.none _
      | refine LeO.ite ?_ ?_
      | refine LeO.bind ?_ (fun _ => ?_)
set_option maxHeartbeats 8000000 in
set_option maxRecDepth 100000 in
theorem video_Convert.calls (k : Nat) (a0_0 : Int) (a0_1 : Int) (a0_2 : Int) (a0_3 : Int) (a0_4 : ByteArray) (a1 : Int) (r1 : Int) (r2 : Int) (r3 : Int) (r4 : Int) (r5 : ByteArray) (r6 : Int) (w : World) (h : video_Convert.f k a0_0 a0_1 a0_2 a0_3 a0_4 a1 = some (r1, r2, r3, r4, r5, r6)) :
    Calls Try.prog 42 #[.agg #[.int .i64 a0_0, .int .i64 a0_1, .int .i64 a0_2, .int .i64 a0_3, .string a0_4], .int .i64 a1] w fun e w' => e = .returned (.tuple #[.agg #[.int .i64 r1, .int .i64 r2, .int .i64 r3, .int .i64 r4, .string r5], .int .i64 r6]) ∧ Below w.heap.size w w' := by
  have hu49 := Try.underlying49
  have HB := Aside0.mk (Below.refl w.heap.size w)
  have H : ((video_Valid.f k a0_0 a0_1 a0_2 a0_3 a0_4).bind fun t222 => (if t222 = true then ((video_modifiers.f a1).bind fun t223 => (if t223 = true then ((video_turned.f a0_0 a0_1 a0_2 a0_3 a0_4 a1).bind fun bt224 => (some (bt224.1, bt224.2.1, bt224.2.2.1, bt224.2.2.2.1, bt224.2.2.2.2, 0))) else (some (0, 0, 0, 0, (⟨#[]⟩ : ByteArray), 7)))) else (some (0, 0, 0, 0, (⟨#[]⟩ : ByteArray), 1)))) = some (r1, r2, r3, r4, r5, r6) := h
  clear h
  replace H := Option.bind_eq_some_iff.mp H
  obtain ⟨t222, A30, H⟩ := H
  replace H : (if t222 = true then ((video_modifiers.f a1).bind fun t223 => (if t223 = true then ((video_turned.f a0_0 a0_1 a0_2 a0_3 a0_4 a1).bind fun bt224 => (some (bt224.1, bt224.2.1, bt224.2.2.1, bt224.2.2.2.1, bt224.2.2.2.2, 0))) else (some (0, 0, 0, 0, (⟨#[]⟩ : ByteArray), 7)))) else (some (0, 0, 0, 0, (⟨#[]⟩ : ByteArray), 1))) = some (r1, r2, r3, r4, r5, r6) := H
  have A3 := Aside0.mk A30
  clear A30
  by_cases c4 : t222 = true
  · subst c4
    have H1 : ((video_modifiers.f a1).bind fun t223 => (if t223 = true then ((video_turned.f a0_0 a0_1 a0_2 a0_3 a0_4 a1).bind fun bt224 => (some (bt224.1, bt224.2.1, bt224.2.2.1, bt224.2.2.2.1, bt224.2.2.2.2, 0))) else (some (0, 0, 0, 0, (⟨#[]⟩ : ByteArray), 7)))) = some (r1, r2, r3, r4, r5, r6) := by rw [if_pos rfl] at H; exact H
    clear H
    have H := H1
    clear H1
    replace H := Option.bind_eq_some_iff.mp H
    obtain ⟨t223, A50, H⟩ := H
    replace H : (if t223 = true then ((video_turned.f a0_0 a0_1 a0_2 a0_3 a0_4 a1).bind fun bt224 => (some (bt224.1, bt224.2.1, bt224.2.2.1, bt224.2.2.2.1, bt224.2.2.2.2, 0))) else (some (0, 0, 0, 0, (⟨#[]⟩ : ByteArray), 7))) = some (r1, r2, r3, r4, r5, r6) := H
    have A5 := Aside0.mk A50
    clear A50
    by_cases c6 : t223 = true
    · subst c6
      have H1 : ((video_turned.f a0_0 a0_1 a0_2 a0_3 a0_4 a1).bind fun bt224 => (some (bt224.1, bt224.2.1, bt224.2.2.1, bt224.2.2.2.1, bt224.2.2.2.2, 0))) = some (r1, r2, r3, r4, r5, r6) := by rw [if_pos rfl] at H; exact H
      clear H
      have H := H1
      clear H1
      replace H := Option.bind_eq_some_iff.mp H
      obtain ⟨⟨t224, t225, t226, t227, t228⟩, A70, H⟩ := H
      replace H : (some (t224, t225, t226, t227, t228, 0)) = some (r1, r2, r3, r4, r5, r6) := H
      have A7 := Aside0.mk A70
      clear A70
      simp only [Option.some.injEq, Prod.mk.injEq] at H
      obtain ⟨rfl, rfl, rfl, rfl, rfl, rfl⟩ := H
      go_enter Try.func42, Try.ntmps42
      go_wp2_with (first | ((with_reducible refine gate_dst (N := 2) rfl ?_); refine box_event ?hg (N := 2) ?hd (cs := #[.int .i64 a0_0, .int .i64 a0_1, .int .i64 a0_2, .int .i64 a0_3, .string a0_4]) (t := 49) ?hr ?_; (case hd => rfl); (case hg => rfl); (case hr => first | (go_simp; done) | (go_simp; rfl)); intro gb220 hg w8 hbox hb; have n0_ := Aside0.mk (below_step (by repeat (first | (with_reducible first | exact HB.out | apply below_alloc | apply pw_below_drewN | apply below_drew1) | exact HB.out)) hb); have n1_ := Aside0.mk (hbox); have n2_ := Aside0.mk ((by rw [hg]; exact (below_size (by repeat (first | (with_reducible first | exact HB.out | apply below_alloc | apply pw_below_drewN | apply below_drew1) | exact HB.out))) : w.heap.size ≤ gb220)); have n3_ := Aside0.mk ((by rw [hg]; exact (below_size (by repeat (first | (with_reducible first | exact HB.out | apply below_alloc | apply pw_below_drewN | apply below_drew1) | exact HB.out))) : w.heap.size ≤ gb220)); clear HB; have HB := n0_; have BK220 := n1_; have GW220 := n2_; have GE220 := n3_; clear n0_ n1_ n2_ n3_; clear hb hbox hg) | ((with_reducible refine gate_dst (N := 4) rfl ?_); refine box_event ?hg (N := 4) ?hd (cs := #[.int .i64 0, .int .i64 0, .int .i64 0, .int .i64 0, .string (⟨#[]⟩ : ByteArray)]) (t := 49) ?hr ?_; (case hd => rfl); (case hg => rfl); (case hr => first | (go_simp; done) | (go_simp; rfl)); intro gb221 hg w9 hbox hb; have n0_ := Aside0.mk (blk_below (g := gb220) (o := .cells #[.int .i64 a0_0, .int .i64 a0_1, .int .i64 a0_2, .int .i64 a0_3, .string a0_4] 49 (0, 0)) (by (with_reducible repeat (first | refine blk_drewN ?_ _ | refine blk_drew ?_ | refine blk_alloc ?_ _)); exact BK220.out) hb); have n1_ := Aside0.mk (below_step (by repeat (first | (with_reducible first | exact HB.out | apply below_alloc | apply pw_below_drewN | apply below_drew1 | refine below_set ?_ GE220.out) | exact HB.out)) hb); have n2_ := Aside0.mk (hbox); have n3_ := Aside0.mk ((by rw [hg]; exact (below_size (by repeat (first | (with_reducible first | exact HB.out | apply below_alloc | apply pw_below_drewN | apply below_drew1 | refine below_set ?_ GE220.out) | exact HB.out))) : w.heap.size ≤ gb221)); have n4_ := Aside0.mk ((by rw [hg]; exact (below_size (by repeat (first | (with_reducible first | exact HB.out | apply below_alloc | apply pw_below_drewN | apply below_drew1 | refine below_set ?_ GE220.out) | exact HB.out))) : w.heap.size ≤ gb221)); have n5_ := Aside0.mk ((by rw [hg]; exact Nat.ne_of_lt (blk_lt (g := gb220) (o := .cells #[.int .i64 a0_0, .int .i64 a0_1, .int .i64 a0_2, .int .i64 a0_3, .string a0_4] 49 (0, 0)) (by (with_reducible repeat (first | refine blk_drewN ?_ _ | refine blk_drew ?_ | refine blk_alloc ?_ _)); exact BK220.out)) : gb220 ≠ gb221)); have n6_ := Aside0.mk ((by rw [hg]; exact Nat.ne_of_gt (blk_lt (g := gb220) (o := .cells #[.int .i64 a0_0, .int .i64 a0_1, .int .i64 a0_2, .int .i64 a0_3, .string a0_4] 49 (0, 0)) (by (with_reducible repeat (first | refine blk_drewN ?_ _ | refine blk_drew ?_ | refine blk_alloc ?_ _)); exact BK220.out)) : gb221 ≠ gb220)); clear BK220; clear HB; have BK220 := n0_; have HB := n1_; have BK221 := n2_; have GW221 := n3_; have GE221 := n4_; have NB220_221 := n5_; have NB221_220 := n6_; clear n0_ n1_ n2_ n3_ n4_ n5_ n6_; clear hb hbox hg; have hnb10 := NB220_221.out; have hnc10 := NB221_220.out; have hcz11_0 : w9.cell? ⟨gb220, 0, none⟩ = some (.int .i64 a0_0) := (blk_cell BK220.out 0).trans rfl; have hcz11_1 : w9.cell? ⟨gb220, 1, none⟩ = some (.int .i64 a0_1) := (blk_cell BK220.out 1).trans rfl; have hcz11_2 : w9.cell? ⟨gb220, 2, none⟩ = some (.int .i64 a0_2) := (blk_cell BK220.out 2).trans rfl; have hcz11_3 : w9.cell? ⟨gb220, 3, none⟩ = some (.int .i64 a0_3) := (blk_cell BK220.out 3).trans rfl; have hcz11_4 : w9.cell? ⟨gb220, 4, none⟩ = some (.string a0_4) := (blk_cell BK220.out 4).trans rfl; have hfz11_0 := blk_frozen BK220.out 0; have hfz11_1 := blk_frozen BK220.out 1; have hfz11_2 := blk_frozen BK220.out 2; have hfz11_3 := blk_frozen BK220.out 3; have hfz11_4 := blk_frozen BK220.out 4) | ((with_reducible refine gate_callee (f := 33) rfl ?_); refine goesL_ (some 8) rfl rfl Try.func33 (by kernel_rfl) rfl #[.agg #[.int .i64 a0_0, .int .i64 a0_1, .int .i64 a0_2, .int .i64 a0_3, .string a0_4]] rfl (by (try simp only [List.map_toArray, List.map_cons, List.map_nil]); first | done | rfl | (simp only [List.length_drop, List.length_take]; rfl)) ?_; (with_reducible refine (video_Valid.calls k a0_0 a0_1 a0_2 a0_3 a0_4 true _ A3.out).mono ?_); rintro e w12 ⟨rfl, hb⟩; refine ⟨_, rfl, ?_⟩; have n0_ := Aside0.mk (blk_below (g := gb220) (o := .cells #[.int .i64 a0_0, .int .i64 a0_1, .int .i64 a0_2, .int .i64 a0_3, .string a0_4] 49 (0, 0)) (by (with_reducible repeat (first | refine blk_drewN ?_ _ | refine blk_drew ?_ | refine blk_alloc ?_ _)); exact BK220.out) hb); have n1_ := Aside0.mk (blk_below (g := gb221) (o := .cells #[.int .i64 0, .int .i64 0, .int .i64 0, .int .i64 0, .string (⟨#[]⟩ : ByteArray)] 49 (0, 0)) (by (with_reducible repeat (first | refine blk_drewN ?_ _ | refine blk_drew ?_ | refine blk_alloc ?_ _)); exact BK221.out) hb); have n2_ := Aside0.mk (below_step (by repeat (first | (with_reducible first | exact HB.out | apply below_alloc | apply pw_below_drewN | apply below_drew1 | refine below_set ?_ GE220.out | refine below_set ?_ GE221.out) | exact HB.out)) hb); clear BK220; clear BK221; clear HB; have BK220 := n0_; have BK221 := n1_; have HB := n2_; clear n0_ n1_ n2_; (try clear hb); (try clear hb2); (try clear hk); (try clear hi)) | ((with_reducible refine gate_callee (f := 95) rfl ?_); refine goesL_ (some 13) rfl rfl Try.func95 (by kernel_rfl) rfl #[.int .i64 a1] rfl (by (try simp only [List.map_toArray, List.map_cons, List.map_nil]); first | done | rfl | (simp only [List.length_drop, List.length_take]; rfl)) ?_; (with_reducible refine (video_modifiers.calls a1 true _ A5.out).mono ?_); rintro e w' ⟨rfl, ⟨nd, rfl⟩⟩; refine ⟨_, rfl, ?_⟩; (try (rw [drewN_self w12]; generalize hq_ : World.drewN w12 _ = w12; have n0_ : Aside0 (w12.heap[gb220]? = some (.cells #[.int .i64 a0_0, .int .i64 a0_1, .int .i64 a0_2, .int .i64 a0_3, .string a0_4] 49 (0, 0))) := ⟨by rw [← hq_]; exact (by (with_reducible repeat (first | refine blk_drewN ?_ _ | refine blk_drew ?_ | refine blk_alloc ?_ _)); exact BK220.out)⟩; have n1_ : Aside0 (w12.heap[gb221]? = some (.cells #[.int .i64 0, .int .i64 0, .int .i64 0, .int .i64 0, .string (⟨#[]⟩ : ByteArray)] 49 (0, 0))) := ⟨by rw [← hq_]; exact (by (with_reducible repeat (first | refine blk_drewN ?_ _ | refine blk_drew ?_ | refine blk_alloc ?_ _)); exact BK221.out)⟩; have n2_ : Aside0 (Below w.heap.size w w12) := ⟨by rw [← hq_]; exact (by repeat (first | (with_reducible first | exact HB.out | apply below_alloc | apply pw_below_drewN | apply below_drew1 | refine below_set ?_ GE220.out | refine below_set ?_ GE221.out) | exact HB.out))⟩; clear BK220 BK221 HB hq_; have BK220 := n0_; have BK221 := n1_; have HB := n2_; clear n0_ n1_ n2_)); have hcz13_0 : w12.cell? ⟨gb220, 0, none⟩ = some (.int .i64 a0_0) := (blk_cell BK220.out 0).trans rfl; have hcz13_1 : w12.cell? ⟨gb220, 1, none⟩ = some (.int .i64 a0_1) := (blk_cell BK220.out 1).trans rfl; have hcz13_2 : w12.cell? ⟨gb220, 2, none⟩ = some (.int .i64 a0_2) := (blk_cell BK220.out 2).trans rfl; have hcz13_3 : w12.cell? ⟨gb220, 3, none⟩ = some (.int .i64 a0_3) := (blk_cell BK220.out 3).trans rfl; have hcz13_4 : w12.cell? ⟨gb220, 4, none⟩ = some (.string a0_4) := (blk_cell BK220.out 4).trans rfl; have hfz13_0 := blk_frozen BK220.out 0; have hfz13_1 := blk_frozen BK220.out 1; have hfz13_2 := blk_frozen BK220.out 2; have hfz13_3 := blk_frozen BK220.out 3; have hfz13_4 := blk_frozen BK220.out 4) | ((with_reducible refine gate_callee (f := 87) rfl ?_); refine goesL_ (some 18) rfl rfl Try.func87 (by kernel_rfl) rfl #[.agg #[.int .i64 a0_0, .int .i64 a0_1, .int .i64 a0_2, .int .i64 a0_3, .string a0_4], .int .i64 a1] rfl (by (try simp only [List.map_toArray, List.map_cons, List.map_nil]); first | done | rfl | (simp only [List.length_drop, List.length_take]; rfl)) ?_; (with_reducible refine (video_turned.calls a0_0 a0_1 a0_2 a0_3 a0_4 a1 t224 t225 t226 t227 t228 _ A7.out).mono ?_); rintro e w14 ⟨rfl, hb⟩; refine ⟨_, rfl, ?_⟩; have n0_ := Aside0.mk (blk_below (g := gb220) (o := .cells #[.int .i64 a0_0, .int .i64 a0_1, .int .i64 a0_2, .int .i64 a0_3, .string a0_4] 49 (0, 0)) (by (with_reducible repeat (first | refine blk_drewN ?_ _ | refine blk_drew ?_ | refine blk_alloc ?_ _)); exact BK220.out) hb); have n1_ := Aside0.mk (blk_below (g := gb221) (o := .cells #[.int .i64 0, .int .i64 0, .int .i64 0, .int .i64 0, .string (⟨#[]⟩ : ByteArray)] 49 (0, 0)) (by (with_reducible repeat (first | refine blk_drewN ?_ _ | refine blk_drew ?_ | refine blk_alloc ?_ _)); exact BK221.out) hb); have n2_ := Aside0.mk (below_step (by repeat (first | (with_reducible first | exact HB.out | apply below_alloc | apply pw_below_drewN | apply below_drew1 | refine below_set ?_ GE220.out | refine below_set ?_ GE221.out) | exact HB.out)) hb); clear BK220; clear BK221; clear HB; have BK220 := n0_; have BK221 := n1_; have HB := n2_; clear n0_ n1_ n2_; (try clear hb); (try clear hb2); (try clear hk); (try clear hi); have hcz15_0 : w14.cell? ⟨gb221, 0, none⟩ = some (.int .i64 0) := (blk_cell BK221.out 0).trans rfl; have hcz15_1 : w14.cell? ⟨gb221, 1, none⟩ = some (.int .i64 0) := (blk_cell BK221.out 1).trans rfl; have hcz15_2 : w14.cell? ⟨gb221, 2, none⟩ = some (.int .i64 0) := (blk_cell BK221.out 2).trans rfl; have hcz15_3 : w14.cell? ⟨gb221, 3, none⟩ = some (.int .i64 0) := (blk_cell BK221.out 3).trans rfl; have hcz15_4 : w14.cell? ⟨gb221, 4, none⟩ = some (.string (⟨#[]⟩ : ByteArray)) := (blk_cell BK221.out 4).trans rfl; have hfz15_0 := blk_frozen BK221.out 0; have hfz15_1 := blk_frozen BK221.out 1; have hfz15_2 := blk_frozen BK221.out 2; have hfz15_3 := blk_frozen BK221.out 3; have hfz15_4 := blk_frozen BK221.out 4))
      refine bodyPost_ret (results_ct rfl _ _ gb221 49 #[.int .i64 t224, .int .i64 t225, .int .i64 t226, .int .i64 t227, .string t228] (0, 0) _ rfl (by (with_reducible repeat (first | refine blk_drewN ?_ _ | refine blk_drew ?_ | refine blk_alloc ?_ _)); refine blk_put (cs := #[.int .i64 t224, .int .i64 t225, .int .i64 t226, .int .i64 t227, .string (⟨#[]⟩ : ByteArray)]) ?_ 4 _ rfl; (with_reducible repeat (first | refine blk_drewN ?_ _ | refine blk_drew ?_ | refine blk_alloc ?_ _)); refine blk_put (cs := #[.int .i64 t224, .int .i64 t225, .int .i64 t226, .int .i64 0, .string (⟨#[]⟩ : ByteArray)]) ?_ 3 _ rfl; (with_reducible repeat (first | refine blk_drewN ?_ _ | refine blk_drew ?_ | refine blk_alloc ?_ _)); refine blk_put (cs := #[.int .i64 t224, .int .i64 t225, .int .i64 0, .int .i64 0, .string (⟨#[]⟩ : ByteArray)]) ?_ 2 _ rfl; (with_reducible repeat (first | refine blk_drewN ?_ _ | refine blk_drew ?_ | refine blk_alloc ?_ _)); refine blk_put (cs := #[.int .i64 t224, .int .i64 0, .int .i64 0, .int .i64 0, .string (⟨#[]⟩ : ByteArray)]) ?_ 1 _ rfl; (with_reducible repeat (first | refine blk_drewN ?_ _ | refine blk_drew ?_ | refine blk_alloc ?_ _)); refine blk_put (cs := #[.int .i64 0, .int .i64 0, .int .i64 0, .int .i64 0, .string (⟨#[]⟩ : ByteArray)]) ?_ 0 _ rfl; (with_reducible repeat (first | refine blk_drewN ?_ _ | refine blk_drew ?_ | refine blk_alloc ?_ _)); exact BK221.out) Try.underlying49 rfl (by kernel_rfl)) rfl ?_
      exact ⟨by first | rfl | (simp [errW_none, errW_some] <;> rfl) | (simp [*, errW_none, errW_some] <;> rfl), by repeat (first | (with_reducible first | exact HB.out | apply below_alloc | apply pw_below_drewN | apply below_drew1 | refine below_set ?_ GE220.out | refine below_set ?_ GE221.out) | exact HB.out)⟩
    · replace c6 := Bool.eq_false_iff.mpr c6
      subst c6
      have H1 : (some (0, 0, 0, 0, (⟨#[]⟩ : ByteArray), 7)) = some (r1, r2, r3, r4, r5, r6) := by rw [if_neg (show ¬ (false = true) by decide)] at H; exact H
      clear H
      have H := H1
      clear H1
      simp only [Option.some.injEq, Prod.mk.injEq] at H
      obtain ⟨rfl, rfl, rfl, rfl, rfl, rfl⟩ := H
      go_enter Try.func42, Try.ntmps42
      go_wp2_with (first | ((with_reducible refine gate_dst (N := 2) rfl ?_); refine box_event ?hg (N := 2) ?hd (cs := #[.int .i64 a0_0, .int .i64 a0_1, .int .i64 a0_2, .int .i64 a0_3, .string a0_4]) (t := 49) ?hr ?_; (case hd => rfl); (case hg => rfl); (case hr => first | (go_simp; done) | (go_simp; rfl)); intro gb220 hg w16 hbox hb; have n0_ := Aside0.mk (below_step (by repeat (first | (with_reducible first | exact HB.out | apply below_alloc | apply pw_below_drewN | apply below_drew1) | exact HB.out)) hb); have n1_ := Aside0.mk (hbox); have n2_ := Aside0.mk ((by rw [hg]; exact (below_size (by repeat (first | (with_reducible first | exact HB.out | apply below_alloc | apply pw_below_drewN | apply below_drew1) | exact HB.out))) : w.heap.size ≤ gb220)); have n3_ := Aside0.mk ((by rw [hg]; exact (below_size (by repeat (first | (with_reducible first | exact HB.out | apply below_alloc | apply pw_below_drewN | apply below_drew1) | exact HB.out))) : w.heap.size ≤ gb220)); clear HB; have HB := n0_; have BK220 := n1_; have GW220 := n2_; have GE220 := n3_; clear n0_ n1_ n2_ n3_; clear hb hbox hg) | ((with_reducible refine gate_dst (N := 4) rfl ?_); refine box_event ?hg (N := 4) ?hd (cs := #[.int .i64 0, .int .i64 0, .int .i64 0, .int .i64 0, .string (⟨#[]⟩ : ByteArray)]) (t := 49) ?hr ?_; (case hd => rfl); (case hg => rfl); (case hr => first | (go_simp; done) | (go_simp; rfl)); intro gb221 hg w17 hbox hb; have n0_ := Aside0.mk (blk_below (g := gb220) (o := .cells #[.int .i64 a0_0, .int .i64 a0_1, .int .i64 a0_2, .int .i64 a0_3, .string a0_4] 49 (0, 0)) (by (with_reducible repeat (first | refine blk_drewN ?_ _ | refine blk_drew ?_ | refine blk_alloc ?_ _)); exact BK220.out) hb); have n1_ := Aside0.mk (below_step (by repeat (first | (with_reducible first | exact HB.out | apply below_alloc | apply pw_below_drewN | apply below_drew1 | refine below_set ?_ GE220.out) | exact HB.out)) hb); have n2_ := Aside0.mk (hbox); have n3_ := Aside0.mk ((by rw [hg]; exact (below_size (by repeat (first | (with_reducible first | exact HB.out | apply below_alloc | apply pw_below_drewN | apply below_drew1 | refine below_set ?_ GE220.out) | exact HB.out))) : w.heap.size ≤ gb221)); have n4_ := Aside0.mk ((by rw [hg]; exact (below_size (by repeat (first | (with_reducible first | exact HB.out | apply below_alloc | apply pw_below_drewN | apply below_drew1 | refine below_set ?_ GE220.out) | exact HB.out))) : w.heap.size ≤ gb221)); have n5_ := Aside0.mk ((by rw [hg]; exact Nat.ne_of_lt (blk_lt (g := gb220) (o := .cells #[.int .i64 a0_0, .int .i64 a0_1, .int .i64 a0_2, .int .i64 a0_3, .string a0_4] 49 (0, 0)) (by (with_reducible repeat (first | refine blk_drewN ?_ _ | refine blk_drew ?_ | refine blk_alloc ?_ _)); exact BK220.out)) : gb220 ≠ gb221)); have n6_ := Aside0.mk ((by rw [hg]; exact Nat.ne_of_gt (blk_lt (g := gb220) (o := .cells #[.int .i64 a0_0, .int .i64 a0_1, .int .i64 a0_2, .int .i64 a0_3, .string a0_4] 49 (0, 0)) (by (with_reducible repeat (first | refine blk_drewN ?_ _ | refine blk_drew ?_ | refine blk_alloc ?_ _)); exact BK220.out)) : gb221 ≠ gb220)); clear BK220; clear HB; have BK220 := n0_; have HB := n1_; have BK221 := n2_; have GW221 := n3_; have GE221 := n4_; have NB220_221 := n5_; have NB221_220 := n6_; clear n0_ n1_ n2_ n3_ n4_ n5_ n6_; clear hb hbox hg; have hnb18 := NB220_221.out; have hnc18 := NB221_220.out; have hcz19_0 : w17.cell? ⟨gb220, 0, none⟩ = some (.int .i64 a0_0) := (blk_cell BK220.out 0).trans rfl; have hcz19_1 : w17.cell? ⟨gb220, 1, none⟩ = some (.int .i64 a0_1) := (blk_cell BK220.out 1).trans rfl; have hcz19_2 : w17.cell? ⟨gb220, 2, none⟩ = some (.int .i64 a0_2) := (blk_cell BK220.out 2).trans rfl; have hcz19_3 : w17.cell? ⟨gb220, 3, none⟩ = some (.int .i64 a0_3) := (blk_cell BK220.out 3).trans rfl; have hcz19_4 : w17.cell? ⟨gb220, 4, none⟩ = some (.string a0_4) := (blk_cell BK220.out 4).trans rfl; have hfz19_0 := blk_frozen BK220.out 0; have hfz19_1 := blk_frozen BK220.out 1; have hfz19_2 := blk_frozen BK220.out 2; have hfz19_3 := blk_frozen BK220.out 3; have hfz19_4 := blk_frozen BK220.out 4) | ((with_reducible refine gate_callee (f := 33) rfl ?_); refine goesL_ (some 8) rfl rfl Try.func33 (by kernel_rfl) rfl #[.agg #[.int .i64 a0_0, .int .i64 a0_1, .int .i64 a0_2, .int .i64 a0_3, .string a0_4]] rfl (by (try simp only [List.map_toArray, List.map_cons, List.map_nil]); first | done | rfl | (simp only [List.length_drop, List.length_take]; rfl)) ?_; (with_reducible refine (video_Valid.calls k a0_0 a0_1 a0_2 a0_3 a0_4 true _ A3.out).mono ?_); rintro e w20 ⟨rfl, hb⟩; refine ⟨_, rfl, ?_⟩; have n0_ := Aside0.mk (blk_below (g := gb220) (o := .cells #[.int .i64 a0_0, .int .i64 a0_1, .int .i64 a0_2, .int .i64 a0_3, .string a0_4] 49 (0, 0)) (by (with_reducible repeat (first | refine blk_drewN ?_ _ | refine blk_drew ?_ | refine blk_alloc ?_ _)); exact BK220.out) hb); have n1_ := Aside0.mk (blk_below (g := gb221) (o := .cells #[.int .i64 0, .int .i64 0, .int .i64 0, .int .i64 0, .string (⟨#[]⟩ : ByteArray)] 49 (0, 0)) (by (with_reducible repeat (first | refine blk_drewN ?_ _ | refine blk_drew ?_ | refine blk_alloc ?_ _)); exact BK221.out) hb); have n2_ := Aside0.mk (below_step (by repeat (first | (with_reducible first | exact HB.out | apply below_alloc | apply pw_below_drewN | apply below_drew1 | refine below_set ?_ GE220.out | refine below_set ?_ GE221.out) | exact HB.out)) hb); clear BK220; clear BK221; clear HB; have BK220 := n0_; have BK221 := n1_; have HB := n2_; clear n0_ n1_ n2_; (try clear hb); (try clear hb2); (try clear hk); (try clear hi)) | ((with_reducible refine gate_callee (f := 95) rfl ?_); refine goesL_ (some 13) rfl rfl Try.func95 (by kernel_rfl) rfl #[.int .i64 a1] rfl (by (try simp only [List.map_toArray, List.map_cons, List.map_nil]); first | done | rfl | (simp only [List.length_drop, List.length_take]; rfl)) ?_; (with_reducible refine (video_modifiers.calls a1 false _ A5.out).mono ?_); rintro e w' ⟨rfl, ⟨nd, rfl⟩⟩; refine ⟨_, rfl, ?_⟩; (try (rw [drewN_self w20]; generalize hq_ : World.drewN w20 _ = w20; have n0_ : Aside0 (w20.heap[gb220]? = some (.cells #[.int .i64 a0_0, .int .i64 a0_1, .int .i64 a0_2, .int .i64 a0_3, .string a0_4] 49 (0, 0))) := ⟨by rw [← hq_]; exact (by (with_reducible repeat (first | refine blk_drewN ?_ _ | refine blk_drew ?_ | refine blk_alloc ?_ _)); exact BK220.out)⟩; have n1_ : Aside0 (w20.heap[gb221]? = some (.cells #[.int .i64 0, .int .i64 0, .int .i64 0, .int .i64 0, .string (⟨#[]⟩ : ByteArray)] 49 (0, 0))) := ⟨by rw [← hq_]; exact (by (with_reducible repeat (first | refine blk_drewN ?_ _ | refine blk_drew ?_ | refine blk_alloc ?_ _)); exact BK221.out)⟩; have n2_ : Aside0 (Below w.heap.size w w20) := ⟨by rw [← hq_]; exact (by repeat (first | (with_reducible first | exact HB.out | apply below_alloc | apply pw_below_drewN | apply below_drew1 | refine below_set ?_ GE220.out | refine below_set ?_ GE221.out) | exact HB.out))⟩; clear BK220 BK221 HB hq_; have BK220 := n0_; have BK221 := n1_; have HB := n2_; clear n0_ n1_ n2_)); have hcz21_0 : w20.cell? ⟨gb221, 0, none⟩ = some (.int .i64 0) := (blk_cell BK221.out 0).trans rfl; have hcz21_1 : w20.cell? ⟨gb221, 1, none⟩ = some (.int .i64 0) := (blk_cell BK221.out 1).trans rfl; have hcz21_2 : w20.cell? ⟨gb221, 2, none⟩ = some (.int .i64 0) := (blk_cell BK221.out 2).trans rfl; have hcz21_3 : w20.cell? ⟨gb221, 3, none⟩ = some (.int .i64 0) := (blk_cell BK221.out 3).trans rfl; have hcz21_4 : w20.cell? ⟨gb221, 4, none⟩ = some (.string (⟨#[]⟩ : ByteArray)) := (blk_cell BK221.out 4).trans rfl; have hfz21_0 := blk_frozen BK221.out 0; have hfz21_1 := blk_frozen BK221.out 1; have hfz21_2 := blk_frozen BK221.out 2; have hfz21_3 := blk_frozen BK221.out 3; have hfz21_4 := blk_frozen BK221.out 4))
      refine bodyPost_ret (results_ct rfl _ _ gb221 49 #[.int .i64 0, .int .i64 0, .int .i64 0, .int .i64 0, .string (⟨#[]⟩ : ByteArray)] (0, 0) _ rfl (by (with_reducible repeat (first | refine blk_drewN ?_ _ | refine blk_drew ?_ | refine blk_alloc ?_ _)); refine blk_put (cs := #[.int .i64 0, .int .i64 0, .int .i64 0, .int .i64 0, .string (⟨#[]⟩ : ByteArray)]) ?_ 4 _ rfl; (with_reducible repeat (first | refine blk_drewN ?_ _ | refine blk_drew ?_ | refine blk_alloc ?_ _)); refine blk_put (cs := #[.int .i64 0, .int .i64 0, .int .i64 0, .int .i64 0, .string (⟨#[]⟩ : ByteArray)]) ?_ 3 _ rfl; (with_reducible repeat (first | refine blk_drewN ?_ _ | refine blk_drew ?_ | refine blk_alloc ?_ _)); refine blk_put (cs := #[.int .i64 0, .int .i64 0, .int .i64 0, .int .i64 0, .string (⟨#[]⟩ : ByteArray)]) ?_ 2 _ rfl; (with_reducible repeat (first | refine blk_drewN ?_ _ | refine blk_drew ?_ | refine blk_alloc ?_ _)); refine blk_put (cs := #[.int .i64 0, .int .i64 0, .int .i64 0, .int .i64 0, .string (⟨#[]⟩ : ByteArray)]) ?_ 1 _ rfl; (with_reducible repeat (first | refine blk_drewN ?_ _ | refine blk_drew ?_ | refine blk_alloc ?_ _)); refine blk_put (cs := #[.int .i64 0, .int .i64 0, .int .i64 0, .int .i64 0, .string (⟨#[]⟩ : ByteArray)]) ?_ 0 _ rfl; (with_reducible repeat (first | refine blk_drewN ?_ _ | refine blk_drew ?_ | refine blk_alloc ?_ _)); exact BK221.out) Try.underlying49 rfl (by kernel_rfl)) rfl ?_
      exact ⟨by first | rfl | (simp [errW_none, errW_some] <;> rfl) | (simp [*, errW_none, errW_some] <;> rfl), by repeat (first | (with_reducible first | exact HB.out | apply below_alloc | apply pw_below_drewN | apply below_drew1 | refine below_set ?_ GE220.out | refine below_set ?_ GE221.out) | exact HB.out)⟩
  · replace c4 := Bool.eq_false_iff.mpr c4
    subst c4
    have H1 : (some (0, 0, 0, 0, (⟨#[]⟩ : ByteArray), 1)) = some (r1, r2, r3, r4, r5, r6) := by rw [if_neg (show ¬ (false = true) by decide)] at H; exact H
    clear H
    have H := H1
    clear H1
    simp only [Option.some.injEq, Prod.mk.injEq] at H
    obtain ⟨rfl, rfl, rfl, rfl, rfl, rfl⟩ := H
    go_enter Try.func42, Try.ntmps42
    go_wp2_with (first | ((with_reducible refine gate_dst (N := 2) rfl ?_); refine box_event ?hg (N := 2) ?hd (cs := #[.int .i64 a0_0, .int .i64 a0_1, .int .i64 a0_2, .int .i64 a0_3, .string a0_4]) (t := 49) ?hr ?_; (case hd => rfl); (case hg => rfl); (case hr => first | (go_simp; done) | (go_simp; rfl)); intro gb220 hg w22 hbox hb; have n0_ := Aside0.mk (below_step (by repeat (first | (with_reducible first | exact HB.out | apply below_alloc | apply pw_below_drewN | apply below_drew1) | exact HB.out)) hb); have n1_ := Aside0.mk (hbox); have n2_ := Aside0.mk ((by rw [hg]; exact (below_size (by repeat (first | (with_reducible first | exact HB.out | apply below_alloc | apply pw_below_drewN | apply below_drew1) | exact HB.out))) : w.heap.size ≤ gb220)); have n3_ := Aside0.mk ((by rw [hg]; exact (below_size (by repeat (first | (with_reducible first | exact HB.out | apply below_alloc | apply pw_below_drewN | apply below_drew1) | exact HB.out))) : w.heap.size ≤ gb220)); clear HB; have HB := n0_; have BK220 := n1_; have GW220 := n2_; have GE220 := n3_; clear n0_ n1_ n2_ n3_; clear hb hbox hg) | ((with_reducible refine gate_dst (N := 4) rfl ?_); refine box_event ?hg (N := 4) ?hd (cs := #[.int .i64 0, .int .i64 0, .int .i64 0, .int .i64 0, .string (⟨#[]⟩ : ByteArray)]) (t := 49) ?hr ?_; (case hd => rfl); (case hg => rfl); (case hr => first | (go_simp; done) | (go_simp; rfl)); intro gb221 hg w23 hbox hb; have n0_ := Aside0.mk (blk_below (g := gb220) (o := .cells #[.int .i64 a0_0, .int .i64 a0_1, .int .i64 a0_2, .int .i64 a0_3, .string a0_4] 49 (0, 0)) (by (with_reducible repeat (first | refine blk_drewN ?_ _ | refine blk_drew ?_ | refine blk_alloc ?_ _)); exact BK220.out) hb); have n1_ := Aside0.mk (below_step (by repeat (first | (with_reducible first | exact HB.out | apply below_alloc | apply pw_below_drewN | apply below_drew1 | refine below_set ?_ GE220.out) | exact HB.out)) hb); have n2_ := Aside0.mk (hbox); have n3_ := Aside0.mk ((by rw [hg]; exact (below_size (by repeat (first | (with_reducible first | exact HB.out | apply below_alloc | apply pw_below_drewN | apply below_drew1 | refine below_set ?_ GE220.out) | exact HB.out))) : w.heap.size ≤ gb221)); have n4_ := Aside0.mk ((by rw [hg]; exact (below_size (by repeat (first | (with_reducible first | exact HB.out | apply below_alloc | apply pw_below_drewN | apply below_drew1 | refine below_set ?_ GE220.out) | exact HB.out))) : w.heap.size ≤ gb221)); have n5_ := Aside0.mk ((by rw [hg]; exact Nat.ne_of_lt (blk_lt (g := gb220) (o := .cells #[.int .i64 a0_0, .int .i64 a0_1, .int .i64 a0_2, .int .i64 a0_3, .string a0_4] 49 (0, 0)) (by (with_reducible repeat (first | refine blk_drewN ?_ _ | refine blk_drew ?_ | refine blk_alloc ?_ _)); exact BK220.out)) : gb220 ≠ gb221)); have n6_ := Aside0.mk ((by rw [hg]; exact Nat.ne_of_gt (blk_lt (g := gb220) (o := .cells #[.int .i64 a0_0, .int .i64 a0_1, .int .i64 a0_2, .int .i64 a0_3, .string a0_4] 49 (0, 0)) (by (with_reducible repeat (first | refine blk_drewN ?_ _ | refine blk_drew ?_ | refine blk_alloc ?_ _)); exact BK220.out)) : gb221 ≠ gb220)); clear BK220; clear HB; have BK220 := n0_; have HB := n1_; have BK221 := n2_; have GW221 := n3_; have GE221 := n4_; have NB220_221 := n5_; have NB221_220 := n6_; clear n0_ n1_ n2_ n3_ n4_ n5_ n6_; clear hb hbox hg; have hnb24 := NB220_221.out; have hnc24 := NB221_220.out; have hcz25_0 : w23.cell? ⟨gb220, 0, none⟩ = some (.int .i64 a0_0) := (blk_cell BK220.out 0).trans rfl; have hcz25_1 : w23.cell? ⟨gb220, 1, none⟩ = some (.int .i64 a0_1) := (blk_cell BK220.out 1).trans rfl; have hcz25_2 : w23.cell? ⟨gb220, 2, none⟩ = some (.int .i64 a0_2) := (blk_cell BK220.out 2).trans rfl; have hcz25_3 : w23.cell? ⟨gb220, 3, none⟩ = some (.int .i64 a0_3) := (blk_cell BK220.out 3).trans rfl; have hcz25_4 : w23.cell? ⟨gb220, 4, none⟩ = some (.string a0_4) := (blk_cell BK220.out 4).trans rfl; have hfz25_0 := blk_frozen BK220.out 0; have hfz25_1 := blk_frozen BK220.out 1; have hfz25_2 := blk_frozen BK220.out 2; have hfz25_3 := blk_frozen BK220.out 3; have hfz25_4 := blk_frozen BK220.out 4) | ((with_reducible refine gate_callee (f := 33) rfl ?_); refine goesL_ (some 8) rfl rfl Try.func33 (by kernel_rfl) rfl #[.agg #[.int .i64 a0_0, .int .i64 a0_1, .int .i64 a0_2, .int .i64 a0_3, .string a0_4]] rfl (by (try simp only [List.map_toArray, List.map_cons, List.map_nil]); first | done | rfl | (simp only [List.length_drop, List.length_take]; rfl)) ?_; (with_reducible refine (video_Valid.calls k a0_0 a0_1 a0_2 a0_3 a0_4 false _ A3.out).mono ?_); rintro e w26 ⟨rfl, hb⟩; refine ⟨_, rfl, ?_⟩; have n0_ := Aside0.mk (blk_below (g := gb220) (o := .cells #[.int .i64 a0_0, .int .i64 a0_1, .int .i64 a0_2, .int .i64 a0_3, .string a0_4] 49 (0, 0)) (by (with_reducible repeat (first | refine blk_drewN ?_ _ | refine blk_drew ?_ | refine blk_alloc ?_ _)); exact BK220.out) hb); have n1_ := Aside0.mk (blk_below (g := gb221) (o := .cells #[.int .i64 0, .int .i64 0, .int .i64 0, .int .i64 0, .string (⟨#[]⟩ : ByteArray)] 49 (0, 0)) (by (with_reducible repeat (first | refine blk_drewN ?_ _ | refine blk_drew ?_ | refine blk_alloc ?_ _)); exact BK221.out) hb); have n2_ := Aside0.mk (below_step (by repeat (first | (with_reducible first | exact HB.out | apply below_alloc | apply pw_below_drewN | apply below_drew1 | refine below_set ?_ GE220.out | refine below_set ?_ GE221.out) | exact HB.out)) hb); clear BK220; clear BK221; clear HB; have BK220 := n0_; have BK221 := n1_; have HB := n2_; clear n0_ n1_ n2_; (try clear hb); (try clear hb2); (try clear hk); (try clear hi); have hcz27_0 : w26.cell? ⟨gb221, 0, none⟩ = some (.int .i64 0) := (blk_cell BK221.out 0).trans rfl; have hcz27_1 : w26.cell? ⟨gb221, 1, none⟩ = some (.int .i64 0) := (blk_cell BK221.out 1).trans rfl; have hcz27_2 : w26.cell? ⟨gb221, 2, none⟩ = some (.int .i64 0) := (blk_cell BK221.out 2).trans rfl; have hcz27_3 : w26.cell? ⟨gb221, 3, none⟩ = some (.int .i64 0) := (blk_cell BK221.out 3).trans rfl; have hcz27_4 : w26.cell? ⟨gb221, 4, none⟩ = some (.string (⟨#[]⟩ : ByteArray)) := (blk_cell BK221.out 4).trans rfl; have hfz27_0 := blk_frozen BK221.out 0; have hfz27_1 := blk_frozen BK221.out 1; have hfz27_2 := blk_frozen BK221.out 2; have hfz27_3 := blk_frozen BK221.out 3; have hfz27_4 := blk_frozen BK221.out 4))
    refine bodyPost_ret (results_ct rfl _ _ gb221 49 #[.int .i64 0, .int .i64 0, .int .i64 0, .int .i64 0, .string (⟨#[]⟩ : ByteArray)] (0, 0) _ rfl (by (with_reducible repeat (first | refine blk_drewN ?_ _ | refine blk_drew ?_ | refine blk_alloc ?_ _)); refine blk_put (cs := #[.int .i64 0, .int .i64 0, .int .i64 0, .int .i64 0, .string (⟨#[]⟩ : ByteArray)]) ?_ 4 _ rfl; (with_reducible repeat (first | refine blk_drewN ?_ _ | refine blk_drew ?_ | refine blk_alloc ?_ _)); refine blk_put (cs := #[.int .i64 0, .int .i64 0, .int .i64 0, .int .i64 0, .string (⟨#[]⟩ : ByteArray)]) ?_ 3 _ rfl; (with_reducible repeat (first | refine blk_drewN ?_ _ | refine blk_drew ?_ | refine blk_alloc ?_ _)); refine blk_put (cs := #[.int .i64 0, .int .i64 0, .int .i64 0, .int .i64 0, .string (⟨#[]⟩ : ByteArray)]) ?_ 2 _ rfl; (with_reducible repeat (first | refine blk_drewN ?_ _ | refine blk_drew ?_ | refine blk_alloc ?_ _)); refine blk_put (cs := #[.int .i64 0, .int .i64 0, .int .i64 0, .int .i64 0, .string (⟨#[]⟩ : ByteArray)]) ?_ 1 _ rfl; (with_reducible repeat (first | refine blk_drewN ?_ _ | refine blk_drew ?_ | refine blk_alloc ?_ _)); refine blk_put (cs := #[.int .i64 0, .int .i64 0, .int .i64 0, .int .i64 0, .string (⟨#[]⟩ : ByteArray)]) ?_ 0 _ rfl; (with_reducible repeat (first | refine blk_drewN ?_ _ | refine blk_drew ?_ | refine blk_alloc ?_ _)); exact BK221.out) Try.underlying49 rfl (by kernel_rfl)) rfl ?_
    exact ⟨by first | rfl | (simp [errW_none, errW_some] <;> rfl) | (simp [*, errW_none, errW_some] <;> rfl), by repeat (first | (with_reducible first | exact HB.out | apply below_alloc | apply pw_below_drewN | apply below_drew1 | refine below_set ?_ GE220.out | refine below_set ?_ GE221.out) | exact HB.out)⟩

end Go.Proofs.Ytenaegjiggodkaa.PV

-- Printed by vprint.py (a program of this claim over the translation's own print). Lean checks it.
namespace Go.Proofs.Ytenaegjiggodkaa.PV
open Go.RowKit Go.Proofs.YtenaegjiggodkaaW.PrintWords Go.Proofs.YtenaegjiggodkaaW.PrintLast Go.Proofs.YtenaegjiggodkaaW.PrintMore
attribute [local go_sem] max2_int min2_int max_two min_two max_three min_three max_four min_four   -- for this text's walks alone
set_option linter.unusedVariables false
set_option linter.unusedSimpArgs false

theorem eqA43 (d : Nat) (w : World) (x0 y0 : Int) (x1 y1 : Int) (x2 y2 : Int) (x3 y3 : Int) :
    (Op.equalIn (d + 2) 43 (.agg #[.int .i64 x0, .int .i64 x1, .int .i64 x2, .int .i64 x3]) (.agg #[.int .i64 y0, .int .i64 y1, .int .i64 y2, .int .i64 y3])).run Try.prog w = .ok (x0 == y0 && (x1 == y1 && (x2 == y2 && (x3 == y3)))) w := by
  refine eqA_of Try.underlying43 (by kernel_rfl) ?_
  refine eqf_cons (by rfl) (by go_simp; rfl) (by go_simp; rfl) (by go_simp) ?_
  refine eqf_cons (by rfl) (by go_simp; rfl) (by go_simp; rfl) (by go_simp) ?_
  refine eqf_cons (by rfl) (by go_simp; rfl) (by go_simp; rfl) (by go_simp) ?_
  exact eqf_last (by rfl) (by go_simp; rfl) (by go_simp; rfl) (by go_simp)
end Go.Proofs.Ytenaegjiggodkaa.PV

/- Plain facts on a grid's spans and bands, piece by piece, as video's loops make them. -/
namespace Go.Proofs.Ytenaegjiggodkaa.PV

theorem pairs_length : ∀ xs : List Int, (pairs xs).length = xs.length - 1
  | [] => rfl
  | [_] => rfl
  | a :: b :: t => by
    have := pairs_length (b :: t)
    simp only [pairs, List.length_cons] at this ⊢
    omega
theorem pairs_get : ∀ (xs : List Int) (k : Nat) (h : k < (pairs xs).length), (pairs xs)[k] = (xs.getD k 0, xs.getD (k + 1) 0)
  | [], _, h => by simp [pairs] at h
  | [_], _, h => by simp [pairs] at h
  | a :: b :: t, 0, _ => by simp [pairs]
  | a :: b :: t, k + 1, h => by
    have := pairs_get (b :: t) k (by simpa [pairs] using h)
    simp only [pairs, List.getElem_cons_succ]
    rw [this]
    simp
def spansUpto (sel : Int → Bool) (xs : List Int) (k : Nat) : List S145 := ((pairs xs).take k).foldl (stepSel sel) []
theorem spansUpto_zero (sel : Int → Bool) (xs : List Int) : spansUpto sel xs 0 = [] := by simp [spansUpto]
theorem spansUpto_succ (sel : Int → Bool) (xs : List Int) (k : Nat) (h : k < xs.length - 1) : spansUpto sel xs (k + 1) = stepSel sel (spansUpto sel xs k) (xs.getD k 0, xs.getD (k + 1) 0) := by
  have hk : k < (pairs xs).length := by rw [pairs_length]; exact h
  unfold spansUpto
  rw [List.take_succ_eq_append_getElem hk, List.foldl_append, pairs_get xs k hk]
  rfl
theorem spansUpto_all (sel : Int → Bool) (xs : List Int) : spansUpto sel xs (xs.length - 1) = spansOf sel xs := by
  unfold spansUpto spansOf
  rw [List.take_of_length_le (by rw [pairs_length]; exact Nat.le_refl _)]
theorem stepS_length (acc : List S145) (p : Int × Int) : (stepS acc p).length ≤ acc.length + 1 := by
  unfold stepS; split <;> simp
theorem spansUpto_length (sel : Int → Bool) (xs : List Int) (k : Nat) : (spansUpto sel xs k).length ≤ k := by
  have : ∀ (l : List (Int × Int)) (a : List S145), (l.foldl (stepSel sel) a).length ≤ a.length + l.length := by
    intro l
    induction l with
    | nil => intro a; simp
    | cons p t ih =>
      intro a
      have h1 := ih (stepSel sel a p)
      have h2 : (stepSel sel a p).length ≤ a.length + 1 := by
        unfold stepSel
        split
        · exact stepS_length a p
        · omega
      simp only [List.foldl_cons, List.length_cons]
      omega
  have := this ((pairs xs).take k) []
  have h2 : ((pairs xs).take k).length ≤ k := by rw [List.length_take]; omega
  unfold spansUpto
  simp only [List.length_nil] at this
  omega
theorem bandsOf_length (sel : Int → Int → Bool) (xs ys : List Int) : (bandsOf sel xs ys).length = ys.length - 1 := by unfold bandsOf; rw [List.length_map, pairs_length]
theorem bandsOf_take (sel : Int → Int → Bool) (xs ys : List Int) (i : Nat) (h : i < ys.length - 1) : (bandsOf sel xs ys).take (i + 1) = (bandsOf sel xs ys).take i ++ [bandOf sel xs (ys.getD i 0, ys.getD (i + 1) 0)] := by
  have hk : i < (pairs ys).length := by rw [pairs_length]; exact h
  rw [List.take_succ_eq_append_getElem (by rw [bandsOf_length]; exact h)]
  unfold bandsOf
  rw [List.getElem_map, pairs_get ys i hk]
end Go.Proofs.Ytenaegjiggodkaa.PV

/- A range over a function whose iterator hands on memory of its own (what it hands on is known by a predicate of the world), and a region that draws its order inside a round of such a loop. -/
namespace Go.Proofs.YtenaegjiggodkaaRange
open Go.RowKit
set_option linter.unusedVariables false

section quiet
variable {P : Program} {ops : Array Oper} {md : Region.Mode} {C : World → Prop} {n l : Nat}

theorem wpIn_of_quiet {o : Oper} {a : Act} {K : Act → Prop} {K' : Act → World → Prop} {Q' : Exit → Act → World → Prop} {w : World} (hnd : ∀ c, o.op ≠ .defer c) (hw : C w) (h : ∀ a w', C w' → K a → K' a w') (hh : o.quiet P a C K) :
    o.wpIn (Fence.wide.inRound l) n P a w K' Q' := by
  obtain ⟨v, h1, h2⟩ := hh
  have h3 := h1 w hw
  unfold Oper.quietAt at h3
  unfold Oper.wpIn
  refine ⟨fun _ _ => trivial, ?_⟩
  rw [show (Fence.wide.inRound l).round = some l from rfl, Oper.semAt_some l a.eval o hnd]
  generalize (execOp a.eval o).run P w = r at *
  cases r with
  | ok n' w' =>
    cases n' <;> simp only [Oper.quietUpon] at h3 <;> simp only [Oper.uponIn]
    case value u =>
      obtain ⟨e1, e2⟩ := h3
      rw [e1, e2]
      exact h _ _ hw h2
    case skip =>
      obtain ⟨e1, e2⟩ := h3
      rw [e1, ← e2]
      exact h _ _ hw h2
    case enter f args =>
      obtain ⟨e1, hc⟩ := h3
      rw [e1]
      exact ⟨fun hd => (by cases hd), CallsIn.inRound l (callsIn_wide.2 (hc.mono fun e w'' ⟨he, hw''⟩ => by subst he; exact h _ _ hw'' h2))⟩
  | halt x w' => simp only [Oper.quietUpon] at h3

theorem wpOpIn_of_qOp {i : Nat} {a : Act} {K : Act → Prop} {K' : Act → World → Prop} {Q' : Exit → Act → World → Prop} {w : World} (hnd : ∀ (i : Nat) (o : Oper), ops[i]? = some o → ∀ c, o.op ≠ .defer c) (hC : C w) (h : ∀ a w', C w' → K a → K' a w') (hh : qOp P ops C i K a) :
    wpOpIn (Fence.wide.inRound l) n P ops Q' i K' a w := by
  unfold qOp at hh
  unfold wpOpIn
  split
  · rename_i ho; simp only [ho] at hh; exact h _ _ hC hh
  · rename_i o ho
    simp only [ho] at hh
    split
    · rename_i hw; simp only [hw, if_true] at hh; exact wpIn_of_quiet (hnd i o ho) hC h hh
    · rename_i hw; simp only [hw] at hh; exact ⟨fun _ _ => trivial, h _ _ hC hh⟩

theorem wpAnyIn_of_quiet {Q : Act → Prop} {Q' : Exit → Act → World → Prop} (hnd : ∀ (i : Nat) (o : Oper), ops[i]? = some o → ∀ c, o.op ≠ .defer c) (hQ : ∀ a w, C w → Q a → Q' .normal a w) : ∀ (fuel : Nat) (listed : Array Bool) (a : Act) (w : World), C w →
    wpAnyQ P md ops C Q fuel listed a → wpAnyIn (Fence.wide.inRound l) n P md ops Q' fuel listed a w
  | 0, _, _, _, hw, h => ⟨h.1, hQ _ _ hw h.2⟩
  | fuel + 1, _, _, _, hw, h => ⟨fun h0 => hQ _ _ hw (h.1 h0), fun i hi => wpOpIn_of_qOp hnd hw (fun a' w' hw' => wpAnyIn_of_quiet hnd hQ fuel _ a' w' hw') (h.2 i hi)⟩

/-- A region that draws its order and only reads and calls quietly (every value the same in every world of the class), inside a round. -/
theorem wpIn_region_quiet {id : Nat} {Q : Exit → Act → World → Prop} {a : Act} {w : World} (hm : P.follows .mixedOrders = true) (hB : Region.lexB .any ops = true) (hnd : ops.all (fun o => match o.op with | .defer _ => false | _ => true) = true) (hC : C { w with drawn := w.drawn + 1 })
    (h : wpQuiet P ops C (fun a' => ∀ w', C w' → Q .normal a' w') ops.toList a) : (Code.region id ops true).wpIn (Fence.wide.inRound l) n P Q a w := by
  simp only [Region.lexB, Bool.and_eq_true] at hB
  have hnd' : ∀ (i : Nat) (o : Oper), ops[i]? = some o → ∀ c, o.op ≠ .defer c := by
    intro i o ho c he
    obtain ⟨hi, rfl⟩ := Array.getElem?_eq_some_iff.1 ho
    have := Array.all_eq_true.1 hnd i hi
    rw [he] at this
    cases this
  refine wpIn_region_any hm (wpAnyIn_of_quiet (Q := fun a' => ∀ w', C w' → Q .normal a' w') hnd' (fun _ w' hw' h => h w' hw') _ _ _ _ hC ?_)
  have := wpAnyQ_lex (C := C) (md := .any) hB.1 ops.toList 0 (Array.replicate ops.size false) a (by simp) (by simpa using hB.2) h
  simpa using this
end quiet

section range
variable {F : Fence} {n : Nat} {P : Program}

/-- What an iterator does that hands on x with encs x where Px x holds, never told to stop: Kp is what a round keeps. -/
def SeqP {α : Type} (F : Fence) (n : Nat) (P : Program) (g : Nat) (lb : Array Value) (encs : α → Array Value) (Px : List α → α → World → Prop) (Kp : World → World → Prop) (S : List α → Prop) (w : World) : Prop :=
  ∀ (l : Nat) (J : List α → World → Prop) (W : World), Below w.heap.size w W → AbidesFrom W.heap.size J →
    (∀ pre x W1, J pre W1 → Px pre x W1 → YieldAt F (n - 1) P l (encs x) W1 fun e W' => e = .returned (.bool true) ∧ J (pre ++ [x]) W' ∧ Kp W1 W') →
    J [] W →
    CallsIn F n P g (#[.func (.yield l) #[] #[]] ++ lb) W fun e W' => (∃ v, e = .returned v) ∧ ∃ xs, S xs ∧ J xs W'

/-- How the body of a round is left: by its end alone. -/
def postP {α : Type} (B : Nat) (Kp : World → World → Prop) (I : List α → World → Prop) (xs : List α) (W : World) : Exit → Act → World → Prop
  | .normal, _, W' => KeepsFrom B W W' ∧ Kp W W' ∧ I xs W'
  | _, _, _ => False

theorem wpIn_rangeFunc_P {α : Type} {g : Operand} {ps : Array Tmp} {assign body : Code} {Q : Exit → Act → World → Prop} {a : Act} {w : World}
    (hro : F.round = none) (h1 : 1 ≤ n) {gf : Nat} {lb : Array Value} (hg : a.eval g = .func (.func gf) #[] lb) (hFg : F.fn gf) (eg : ∀ args w, (callFunc gf args).run P w = .ok (.enter gf args) w)
    {encs : α → Array Value} {Px : List α → α → World → Prop} {Kp : World → World → Prop} {S : List α → Prop} {w0 : World} (hseq : SeqP F (n - 1) P gf lb encs Px Kp S w0)
    (hKt : ∀ {A B C : World}, Kp A B → Kp B C → Kp A C) (hKb : ∀ (W : World) (l : Nat) (o o' : Obj), w.heap.size ≤ l → W.heap[l]? = some o → o.isCells = false → o.isWalk = false → Kp W (W.putObj l o')) (hb0 : Below w0.heap.size w0 w) (hps : ∀ x, (encs x).size = ps.size)
    (I : List α → World → Prop) (hI : OwnFrom w.heap.size I) (h0 : I [] w) (Ax : List α → α → Act → World → Prop) (hAx : ∀ pre x a', OwnFrom w.heap.size (fun (_ : Unit) W => Ax pre x a' W))
    (hassign : ∀ (l : Nat) (pre : List α) (x : α) (W : World) (K : Act → World → Prop), I pre W → Px pre x W → (∀ a' W', KeepsFrom w.heap.size W W' → Kp W W' → I pre W' → Ax pre x a' W' → K a' W') →
      assign.wpIn (F.inRound l) (n - 1 - 1) P (Exit.then K (fun _ _ _ => False)) { tmps := (ps.zip (encs x)).foldl (fun t (p, v) => t.setIfInBounds p v) a.tmps, defers := [] } W)
    (hbody : ∀ (l : Nat) (pre : List α) (x : α) (a' : Act) (W : World), w.heap.size ≤ l → I pre W → Ax pre x a' W → body.wpIn (F.inRound l) (n - 1 - 1) P (postP w.heap.size Kp I (pre ++ [x]) W) a' W)
    (hdone : ∀ (D : Nat) (xs : List α) (W : World), w.heap.size ≤ D → S xs → I xs W → W.heap[D]? = some (.deferred (some [])) → Q .normal { a with defers := { target := .collected D, args := #[] } :: a.defers } W) :
    (Code.rangeFunc g ps assign body).wpIn F n P Q a w := by
  refine wpIn_rangeFunc ?_
  intro fn hfn
  rw [hro]
  obtain ⟨rec, hrec⟩ : ∃ rec : LoopState → Option Code → Loop, rec = fun st pe => { state := st, pending := pe, fn, tmps := a.tmps, params := ps, assign, body, defers := w.heap.size } := ⟨_, rfl⟩
  obtain ⟨W1, hW1⟩ : ∃ W1, (w.alloc (.deferred (some []))).alloc (.loop (rec .ready none)) = W1 := ⟨_, rfl⟩
  have hL1 : W1.heap[w.heap.size + 1]? = some (.loop (rec .ready none)) := by
    rw [← hW1]; have := World.alloc_heap_new (w.alloc (.deferred (some []))) (.loop (rec .ready none)); rwa [World.size_alloc] at this
  have hK1 : W1.heap[w.heap.size]? = some (.deferred (some [])) := by
    rw [← hW1]; exact (Below.heap_alloc _ _ _ (by simp)).trans (World.alloc_heap_new w _)
  have hI1 : I [] W1 := by rw [← hW1]; exact hI.alloc _ (hI.alloc _ h0)
  have hb1 : Below w0.heap.size w0 W1 := by
    rw [← hW1]; exact hb0.trans ((((Below.refl _ w).alloc (Nat.le_refl _) _).alloc (by simp) _).mono hb0.size)
  refine ⟨w.heap.size + 1, [{ target := .collected w.heap.size, args := #[] }], W1, { target := .fn (.func gf) lb, args := #[.func (.yield (w.heap.size + 1)) #[] #[]] }, W1, gf,
    #[.func (.yield (w.heap.size + 1)) #[] #[]] ++ lb, W1, ?_, ?_, ?_, ?_, fun _ => h1, ?_⟩
  · rw [← hW1, hrec]; exact run_enterLoop_outer _ _ _ _ _
  · simp only [resolve, hg]
    simp [go_sem]
  · intro f' hf'; simp [Target.leads] at hf'; subst hf'; exact hFg
  · simp [invoke, go_sem, eg]
  · have hnw : ∀ {A B : World} {row : Option Nat}, (∀ r, row = some r → W1.heap.size ≤ r ∧ ∃ o : Obj, A.heap[r]? = some o ∧ o.isWalk = true) → (∀ r, row = some r → w.heap.size ≤ r ∧ ∃ o : Obj, A.heap[r]? = some o ∧ o.isCells = false) :=
      fun hr r e => by obtain ⟨hB, o, ho, hw⟩ := hr r e; exact ⟨by rw [← hW1] at hB; simp at hB; omega, o, ho, Obj.not_cells_of_walk hw⟩
    refine (hseq (w.heap.size + 1)
      (fun pre W => I pre W ∧ W.heap[w.heap.size + 1]? = some (.loop (rec .ready none)) ∧ W.heap[w.heap.size]? = some (.deferred (some [])))
      W1 hb1
      (fun s A B row hs hg' hr => ⟨hI s A B row hs.1 hg' (hnw (B := B) hr), (grownBy_keeps hg' (fun r e => (hr r e).2) hs.2.1 rfl).trans hs.2.1, (grownBy_keeps hg' (fun r e => (hr r e).2) hs.2.2 rfl).trans hs.2.2⟩)
      ?_ ⟨hI1, hL1, hK1⟩).mono ?_
    · rintro pre x W ⟨hi, hl, hk⟩ hpx
      have hlt : w.heap.size + 1 < W.heap.size := (Array.getElem?_eq_some_iff.1 hl).1
      have hy := run_yield (P := P) (args := encs x) hl (by rw [hrec]; exact hps x)
      rw [hrec] at hy
      refine ⟨fn, _, assign, body, hy, roundIn_of_wpIn hfn (hassign _ pre x W _ hi hpx ?_)⟩
      clear hy
      intro a' Wa hkfa hkpa hia hax
      replace hl := hkfa.same _ _ (by omega) hl rfl
      replace hk := hkfa.same _ _ (Nat.le_refl _) hk rfl
      replace hlt : w.heap.size + 1 < Wa.heap.size := (Array.getElem?_eq_some_iff.1 hl).1
      replace hi := hia
      clear hia
      revert hkpa hkfa
      clear hpx
      generalize W = Wb
      intro hkfa hkpa
      obtain ⟨W, rfl⟩ : ∃ W, W = Wa := ⟨_, rfl⟩
      refine ⟨_, run_beginRound hl (by rw [hrec]), ?_⟩
      have hl2 : (W.putObj (w.heap.size + 1) (.loop { rec .ready none with state := .busy })).heap[w.heap.size + 1]? = some (.loop { rec .ready none with state := .busy }) := World.putObj_heap_same hlt
      have hk2 : (W.putObj (w.heap.size + 1) (.loop { rec .ready none with state := .busy })).heap[w.heap.size]? = some (.deferred (some [])) := (World.putObj_heap_other (by omega)).trans hk
      have hw2 : Kp W (W.putObj (w.heap.size + 1) (.loop { rec .ready none with state := .busy })) := hKb _ _ _ _ (by omega) hl rfl rfl
      refine wpIn_mono (hbody _ pre x a' _ (by omega) (hI.putObj _ hi (by omega) hl rfl) ((hAx pre x a').putObj (s := ()) _ hax (by omega) hl rfl)) ?_
      have fin : ∀ (jump : Option Code) (W3 : World), KeepsFrom w.heap.size (W.putObj (w.heap.size + 1) (.loop { rec .ready none with state := .busy })) W3 →
          (Instr.endRound (w.heap.size + 1) jump).run P W3 = .ok (.bool jump.isNone) (W3.putObj (w.heap.size + 1) (.loop (rec (if jump.isNone then .ready else .done) jump))) ∧
          W3.heap[w.heap.size + 1]? = some (.loop { rec .ready none with state := .busy }) ∧
          (W3.putObj (w.heap.size + 1) (.loop (rec (if jump.isNone then .ready else .done) jump))).heap[w.heap.size + 1]? = some (.loop (rec (if jump.isNone then .ready else .done) jump)) ∧
          (W3.putObj (w.heap.size + 1) (.loop (rec (if jump.isNone then .ready else .done) jump))).heap[w.heap.size]? = some (.deferred (some [])) := fun jump W3 hk3 => by
        have hl3 := hk3.same _ _ (by omega) hl2 rfl
        have := run_endRound (P := P) jump hl3
        rw [hrec] at this ⊢
        exact ⟨this, by rw [hrec] at hl3; exact hl3, World.putObj_heap_same (Array.getElem?_eq_some_iff.1 hl3).1, (World.putObj_heap_other (by omega)).trans (hk3.same _ _ (Nat.le_refl _) hk2 rfl)⟩
      rintro e a3 W3 hp
      cases e with
      | normal =>
        obtain ⟨hk3, hkp3, hi3⟩ := hp
        obtain ⟨hr, hl3, hl4, hk4⟩ := fin none W3 hk3
        exact ⟨_, _, hr, ⟨rfl, ⟨hI.putObj _ hi3 (by omega) hl3 rfl, hl4, hk4⟩, hKt hkpa (hKt (hKt hw2 hkp3) (hKb _ _ _ _ (by omega) hl3 rfl rfl))⟩⟩
      | ret => exact hp.elim
      | exit id => exact hp.elim
      | goto t => exact hp.elim
      | panic ch => exact hp.elim
      | outgrown => exact hp.elim
    · rintro e W2 ⟨⟨v, rfl⟩, xs, hS, hi, hl, hk⟩
      exact ⟨none, _, by have := run_endLoop (P := P) hl (by rw [hrec]; simp); rw [hrec] at this; exact this, hdone _ xs _ (Nat.le_refl _) hS (hI.putObj _ hi (by omega) hl rfl) ((World.putObj_heap_other (by omega)).trans hk)⟩
end range
end Go.Proofs.YtenaegjiggodkaaRange
