/- Part 1 of the proof of VideoAgrees: contracts of the functions that the law reaches, and plain facts. -/
import Derived.Test.YtenaegjiggodkaaQAgrees0

-- Printed by vprint.py (a program of this claim over the translation's own print). Lean checks it.
namespace Go.Proofs.Ytenaegjiggodkaa.PV
open Go.RowKit Go.Proofs.YtenaegjiggodkaaW.PrintWords Go.Proofs.YtenaegjiggodkaaW.PrintLast Go.Proofs.YtenaegjiggodkaaW.PrintMore
attribute [local go_sem] max2_int min2_int max_two min_two max_three min_three max_four min_four   -- for this text's walks alone
set_option linter.unusedVariables false
set_option linter.unusedSimpArgs false

/-! ### continuoref25_Agree: function 19 -/
mutual
def continuoref25_Agree.j0 : Nat → List (S34) → List (S34) → Bool → Option (Int × List Int × Int)
  | 0, _, _, _ => none
  | k + 1, x0, x1, x17 => if x17 = true then (some (0, ([] : List Int), 7)) else ((continuoref25_Many.f k x0).bind fun t411 => (if t411 = true then (continuoref25_Agree.j1 k x0 x1 true) else ((continuoref25_Many.f k x1).bind fun t412 => (continuoref25_Agree.j1 k x0 x1 t412))))
def continuoref25_Agree.j1 : Nat → List (S34) → List (S34) → Bool → Option (Int × List Int × Int)
  | 0, _, _, _ => none
  | k + 1, x0, x1, x24 => if x24 = true then (some (0, ([] : List Int), 4)) else (continuoref25_Agree.l0 k x0 x1 0)
def continuoref25_Agree.l0 : Nat → List (S34) → List (S34) → Int → Option (Int × List Int × Int)
  | 0, _, _, _ => none
  | k + 1, x0, x1, x6 => if x6 < (x0.length : Int) then (continuoref25_Agree.l1 k x0 x1 x6 0) else (some (0, ([] : List Int), 13))
def continuoref25_Agree.l1 : Nat → List (S34) → List (S34) → Int → Int → Option (Int × List Int × Int)
  | 0, _, _, _, _ => none
  | k + 1, x0, x1, x6, x7 => if 0 ≤ x6 then (if x6 < (x0.length : Int) then (if x7 < (((rd_T34 x0 x6).f1).length : Int) then (continuoref25_Agree.l2 k x0 x1 x6 x7 0) else (continuoref25_Agree.l0 k x0 x1 (wrap64 (x6 + 1)))) else (none)) else (none)
def continuoref25_Agree.l2 : Nat → List (S34) → List (S34) → Int → Int → Int → Option (Int × List Int × Int)
  | 0, _, _, _, _, _ => none
  | k + 1, x0, x1, x6, x7, x8 => if x8 < (x1.length : Int) then (continuoref25_Agree.l3 k x0 x1 x6 x7 x8 0) else (continuoref25_Agree.l1 k x0 x1 x6 (wrap64 (x7 + 1)))
def continuoref25_Agree.l3 : Nat → List (S34) → List (S34) → Int → Int → Int → Int → Option (Int × List Int × Int)
  | 0, _, _, _, _, _, _ => none
  | k + 1, x0, x1, x6, x7, x8, x9 => if 0 ≤ x8 then (if x8 < (x1.length : Int) then (if x9 < (((rd_T34 x1 x8).f1).length : Int) then (if 0 ≤ x6 then (if x6 < (x0.length : Int) then (if ((rd_T34 x1 x8).f0) = ((rd_T34 x0 x6).f0) then (if 0 ≤ x9 then (if 0 ≤ x7 then (if x7 < (((rd_T34 x0 x6).f1).length : Int) then (if (rd ((rd_T34 x1 x8).f1) x9) = (rd ((rd_T34 x0 x6).f1) x7) then (some ((rd_T34 x0 x6).f0, (([rd ((rd_T34 x0 x6).f1) x7] : List Int)), 0)) else (continuoref25_Agree.l3 k x0 x1 x6 x7 x8 (wrap64 (x9 + 1)))) else (none)) else (none)) else (none)) else (continuoref25_Agree.l3 k x0 x1 x6 x7 x8 (wrap64 (x9 + 1)))) else (none)) else (none)) else (continuoref25_Agree.l2 k x0 x1 x6 x7 (wrap64 (x8 + 1)))) else (none)) else (none)
end
def continuoref25_Agree.f (k : Nat) (l0 : List (S34)) (l1 : List (S34)) : Option (Int × List Int × Int) := (continuoref25_pixels.f k l0).bind fun t409 => (if t409 = 0 then ((continuoref25_pixels.f k l1).bind fun t410 => (continuoref25_Agree.j0 k l0 l1 (t410 != 0))) else (continuoref25_Agree.j0 k l0 l1 true))
theorem continuoref25_Agree.mono_l : ∀ k, (∀ y0 y1 y2, LeO (continuoref25_Agree.j0 k y0 y1 y2) (continuoref25_Agree.j0 (k + 1) y0 y1 y2)) ∧ (∀ y0 y1 y2, LeO (continuoref25_Agree.j1 k y0 y1 y2) (continuoref25_Agree.j1 (k + 1) y0 y1 y2)) ∧ (∀ y0 y1 y2, LeO (continuoref25_Agree.l0 k y0 y1 y2) (continuoref25_Agree.l0 (k + 1) y0 y1 y2)) ∧ (∀ y0 y1 y2 y3, LeO (continuoref25_Agree.l1 k y0 y1 y2 y3) (continuoref25_Agree.l1 (k + 1) y0 y1 y2 y3)) ∧ (∀ y0 y1 y2 y3 y4, LeO (continuoref25_Agree.l2 k y0 y1 y2 y3 y4) (continuoref25_Agree.l2 (k + 1) y0 y1 y2 y3 y4)) ∧ (∀ y0 y1 y2 y3 y4 y5, LeO (continuoref25_Agree.l3 k y0 y1 y2 y3 y4 y5) (continuoref25_Agree.l3 (k + 1) y0 y1 y2 y3 y4 y5))
  | 0 => ⟨fun _ _ _ r h => by simp [continuoref25_Agree.j0] at h, fun _ _ _ r h => by simp [continuoref25_Agree.j1] at h, fun _ _ _ r h => by simp [continuoref25_Agree.l0] at h, fun _ _ _ _ r h => by simp [continuoref25_Agree.l1] at h, fun _ _ _ _ _ r h => by simp [continuoref25_Agree.l2] at h, fun _ _ _ _ _ _ r h => by simp [continuoref25_Agree.l3] at h⟩
  | k + 1 => by
    obtain ⟨ih0, ih1, ih2, ih3, ih4, ih5⟩ := continuoref25_Agree.mono_l k
    refine ⟨?_, ?_, ?_, ?_, ?_, ?_⟩
    · intro y0 y1 y2
      unfold continuoref25_Agree.j0
      repeat' first
      | (with_reducible exact ih0 _ _ _)
      | (with_reducible exact ih1 _ _ _)
      | (with_reducible exact ih2 _ _ _)
      | (with_reducible exact ih3 _ _ _ _)
      | (with_reducible exact ih4 _ _ _ _ _)
      | (with_reducible exact ih5 _ _ _ _ _ _)
      | (with_reducible exact continuoref25_Many.mono _ _)
      | (with_reducible exact continuoref25_pixels.mono _ _)
      | (with_reducible exact LeO.refl _)
      | (with_reducible exact LeO.none _)
      | (with_reducible refine LeO.ite ?_ ?_)
      | (with_reducible refine LeO.bind ?_ (fun _ => ?_))
      | exact ih0 _ _ _
      | exact ih1 _ _ _
      | exact ih2 _ _ _
      | exact ih3 _ _ _ _
      | exact ih4 _ _ _ _ _
      | exact ih5 _ _ _ _ _ _
      | exact continuoref25_Many.mono _ _
      | exact continuoref25_pixels.mono _ _
      | exact LeO.none _
      | refine LeO.ite ?_ ?_
      | refine LeO.bind ?_ (fun _ => ?_)
    · intro y0 y1 y2
      unfold continuoref25_Agree.j1
      repeat' first
      | (with_reducible exact ih0 _ _ _)
      | (with_reducible exact ih1 _ _ _)
      | (with_reducible exact ih2 _ _ _)
      | (with_reducible exact ih3 _ _ _ _)
      | (with_reducible exact ih4 _ _ _ _ _)
      | (with_reducible exact ih5 _ _ _ _ _ _)
      | (with_reducible exact continuoref25_Many.mono _ _)
      | (with_reducible exact continuoref25_pixels.mono _ _)
      | (with_reducible exact LeO.refl _)
      | (with_reducible exact LeO.none _)
      | (with_reducible refine LeO.ite ?_ ?_)
      | (with_reducible refine LeO.bind ?_ (fun _ => ?_))
      | exact ih0 _ _ _
      | exact ih1 _ _ _
      | exact ih2 _ _ _
      | exact ih3 _ _ _ _
      | exact ih4 _ _ _ _ _
      | exact ih5 _ _ _ _ _ _
      | exact continuoref25_Many.mono _ _
      | exact continuoref25_pixels.mono _ _
      | exact LeO.none _
      | refine LeO.ite ?_ ?_
      | refine LeO.bind ?_ (fun _ => ?_)
    · intro y0 y1 y2
      unfold continuoref25_Agree.l0
      repeat' first
      | (with_reducible exact ih0 _ _ _)
      | (with_reducible exact ih1 _ _ _)
      | (with_reducible exact ih2 _ _ _)
      | (with_reducible exact ih3 _ _ _ _)
      | (with_reducible exact ih4 _ _ _ _ _)
      | (with_reducible exact ih5 _ _ _ _ _ _)
      | (with_reducible exact continuoref25_Many.mono _ _)
      | (with_reducible exact continuoref25_pixels.mono _ _)
      | (with_reducible exact LeO.refl _)
      | (with_reducible exact LeO.none _)
      | (with_reducible refine LeO.ite ?_ ?_)
      | (with_reducible refine LeO.bind ?_ (fun _ => ?_))
      | exact ih0 _ _ _
      | exact ih1 _ _ _
      | exact ih2 _ _ _
      | exact ih3 _ _ _ _
      | exact ih4 _ _ _ _ _
      | exact ih5 _ _ _ _ _ _
      | exact continuoref25_Many.mono _ _
      | exact continuoref25_pixels.mono _ _
      | exact LeO.none _
      | refine LeO.ite ?_ ?_
      | refine LeO.bind ?_ (fun _ => ?_)
    · intro y0 y1 y2 y3
      unfold continuoref25_Agree.l1
      repeat' first
      | (with_reducible exact ih0 _ _ _)
      | (with_reducible exact ih1 _ _ _)
      | (with_reducible exact ih2 _ _ _)
      | (with_reducible exact ih3 _ _ _ _)
      | (with_reducible exact ih4 _ _ _ _ _)
      | (with_reducible exact ih5 _ _ _ _ _ _)
      | (with_reducible exact continuoref25_Many.mono _ _)
      | (with_reducible exact continuoref25_pixels.mono _ _)
      | (with_reducible exact LeO.refl _)
      | (with_reducible exact LeO.none _)
      | (with_reducible refine LeO.ite ?_ ?_)
      | (with_reducible refine LeO.bind ?_ (fun _ => ?_))
      | exact ih0 _ _ _
      | exact ih1 _ _ _
      | exact ih2 _ _ _
      | exact ih3 _ _ _ _
      | exact ih4 _ _ _ _ _
      | exact ih5 _ _ _ _ _ _
      | exact continuoref25_Many.mono _ _
      | exact continuoref25_pixels.mono _ _
      | exact LeO.none _
      | refine LeO.ite ?_ ?_
      | refine LeO.bind ?_ (fun _ => ?_)
    · intro y0 y1 y2 y3 y4
      unfold continuoref25_Agree.l2
      repeat' first
      | (with_reducible exact ih0 _ _ _)
      | (with_reducible exact ih1 _ _ _)
      | (with_reducible exact ih2 _ _ _)
      | (with_reducible exact ih3 _ _ _ _)
      | (with_reducible exact ih4 _ _ _ _ _)
      | (with_reducible exact ih5 _ _ _ _ _ _)
      | (with_reducible exact continuoref25_Many.mono _ _)
      | (with_reducible exact continuoref25_pixels.mono _ _)
      | (with_reducible exact LeO.refl _)
      | (with_reducible exact LeO.none _)
      | (with_reducible refine LeO.ite ?_ ?_)
      | (with_reducible refine LeO.bind ?_ (fun _ => ?_))
      | exact ih0 _ _ _
      | exact ih1 _ _ _
      | exact ih2 _ _ _
      | exact ih3 _ _ _ _
      | exact ih4 _ _ _ _ _
      | exact ih5 _ _ _ _ _ _
      | exact continuoref25_Many.mono _ _
      | exact continuoref25_pixels.mono _ _
      | exact LeO.none _
      | refine LeO.ite ?_ ?_
      | refine LeO.bind ?_ (fun _ => ?_)
    · intro y0 y1 y2 y3 y4 y5
      unfold continuoref25_Agree.l3
      repeat' first
      | (with_reducible exact ih0 _ _ _)
      | (with_reducible exact ih1 _ _ _)
      | (with_reducible exact ih2 _ _ _)
      | (with_reducible exact ih3 _ _ _ _)
      | (with_reducible exact ih4 _ _ _ _ _)
      | (with_reducible exact ih5 _ _ _ _ _ _)
      | (with_reducible exact continuoref25_Many.mono _ _)
      | (with_reducible exact continuoref25_pixels.mono _ _)
      | (with_reducible exact LeO.refl _)
      | (with_reducible exact LeO.none _)
      | (with_reducible refine LeO.ite ?_ ?_)
      | (with_reducible refine LeO.bind ?_ (fun _ => ?_))
      | exact ih0 _ _ _
      | exact ih1 _ _ _
      | exact ih2 _ _ _
      | exact ih3 _ _ _ _
      | exact ih4 _ _ _ _ _
      | exact ih5 _ _ _ _ _ _
      | exact continuoref25_Many.mono _ _
      | exact continuoref25_pixels.mono _ _
      | exact LeO.none _
      | refine LeO.ite ?_ ?_
      | refine LeO.bind ?_ (fun _ => ?_)
theorem continuoref25_Agree.mono : ∀ a0 a1 k, LeO (continuoref25_Agree.f k a0 a1) (continuoref25_Agree.f (k + 1) a0 a1) := by
  intro a0 a1 k
  obtain ⟨ih0, ih1, ih2, ih3, ih4, ih5⟩ := continuoref25_Agree.mono_l k
  unfold continuoref25_Agree.f
  repeat' first
      | (with_reducible exact ih0 _ _ _)
      | (with_reducible exact ih1 _ _ _)
      | (with_reducible exact ih2 _ _ _)
      | (with_reducible exact ih3 _ _ _ _)
      | (with_reducible exact ih4 _ _ _ _ _)
      | (with_reducible exact ih5 _ _ _ _ _ _)
      | (with_reducible exact continuoref25_Many.mono _ _)
      | (with_reducible exact continuoref25_pixels.mono _ _)
      | (with_reducible exact LeO.refl _)
      | (with_reducible exact LeO.none _)
      | (with_reducible refine LeO.ite ?_ ?_)
      | (with_reducible refine LeO.bind ?_ (fun _ => ?_))
      | exact ih0 _ _ _
      | exact ih1 _ _ _
      | exact ih2 _ _ _
      | exact ih3 _ _ _ _
      | exact ih4 _ _ _ _ _
      | exact ih5 _ _ _ _ _ _
      | exact continuoref25_Many.mono _ _
      | exact continuoref25_pixels.mono _ _
      | exact LeO.none _
      | refine LeO.ite ?_ ?_
      | refine LeO.bind ?_ (fun _ => ?_)
def continuoref25_Agree.T17 : Bool × List (List Nat × List Nat) := (true, [([], []), ([], []), ([0, 1], [0, 1]), ([2], [2]), ([3], [3]), ([], []), ([], []), ([5, 6], [5, 6]), ([7], [7]), ([8], [8]), ([4, 9], [4, 9]), ([10], [10]), ([11], [11]), ([11], [11]), ([12, 13, 11], [11, 12, 13]), ([14, 11], [11, 14]), ([15, 11], [11, 15]), ([11], [11]), ([16, 17, 11], [11, 16, 17]), ([18, 11], [11, 18]), ([11], [11]), ([11], [11]), ([20, 21, 11], [11, 20, 21]), ([22, 11], [11, 22]), ([23, 11], [11, 23]), ([11], [11]), ([24, 25, 11], [11, 24, 25]), ([26, 11], [11, 26]), ([19, 27, 11], [11, 19, 27]), ([11, 28], [11, 28])])
def continuoref25_Agree.B17 : List Nat := [0, 0, 3, 7, 15, 0, 0, 96, 224, 480, 1023, 2047, 4095, 4095, 16383, 32767, 65535, 4095, 262143, 524287, 4095, 4095, 3149823, 7344127, 15732735, 4095, 66064383, 133173247, 268435455, 536870911]
theorem continuoref25_Agree.tab17 : rtab .any (opsOf Try.f19 17) = continuoref25_Agree.T17 := by kernel_rfl
theorem continuoref25_Agree.bits17 : waitsOk continuoref25_Agree.T17.2 continuoref25_Agree.B17 = true := by kernel_rfl
def continuoref25_Agree.T18 : Bool × List (List Nat × List Nat) := (true, [([], []), ([], []), ([0, 1], [0, 1]), ([2], [2]), ([3], [3]), ([], []), ([], []), ([5, 6], [5, 6]), ([7], [7]), ([8], [8]), ([], []), ([9, 10], [9, 10]), ([11], [11]), ([12], [12]), ([4, 13], [4, 13]), ([14, 0, 1, 2, 3, 4, 5, 6, 7, 8, 9, 10, 11, 12, 13, 14], [14]), ([15, 0, 1, 2, 3, 4, 5, 6, 7, 8, 9, 10, 11, 12, 13, 14, 15], [])])
def continuoref25_Agree.B18 : List Nat := [0, 0, 3, 7, 15, 0, 0, 96, 224, 480, 0, 2016, 4064, 8160, 16383, 32767, 65535]
theorem continuoref25_Agree.tab18 : rtab .any (opsOf Try.f19 18) = continuoref25_Agree.T18 := by kernel_rfl
theorem continuoref25_Agree.bits18 : waitsOk continuoref25_Agree.T18.2 continuoref25_Agree.B18 = true := by kernel_rfl
set_option maxHeartbeats 8000000 in
set_option maxRecDepth 100000 in
theorem continuoref25_Agree.calls (k : Nat) (A0 : Option Addr) (c0 : Nat) (l0 : List (S34)) (A1 : Option Addr) (c1 : Nat) (l1 : List (S34)) (r1 : Int) (r2 : List Int) (r3 : Int) (w : World) (hr0 : Kd.C k34 w A0 l0.length l0) (hc0 : l0.length ≤ c0) (hr1 : Kd.C k34 w A1 l1.length l1) (hc1 : l1.length ≤ c1) (h : continuoref25_Agree.f k l0 l1 = some (r1, r2, r3)) :
    Calls Try.prog 19 #[.slice A0 l0.length c0, .slice A1 l1.length c1] w fun e w' => ∃ v1_ : Value, e = .returned (.tuple #[.agg #[.int .i64 r1, v1_], .int .i64 r3]) ∧ Kd.R (Kd.int .i64) 3 w' w.heap.size (fun _ => True) v1_ r2 ∧ Below w.heap.size w w' := by
  have hu34 := Try.underlying34
  have HR0 := Aside0.mk hr0
  have HC0 := Aside0.mk hc0
  clear hr0 hc0
  have HR1 := Aside0.mk hr1
  have HC1 := Aside0.mk hc1
  clear hr1 hc1
  have HB := Aside0.mk (Below.refl w.heap.size w)
  have H : ((continuoref25_pixels.f k l0).bind fun t409 => (if t409 = 0 then ((continuoref25_pixels.f k l1).bind fun t410 => (continuoref25_Agree.j0 k l0 l1 (t410 != 0))) else (continuoref25_Agree.j0 k l0 l1 true))) = some (r1, r2, r3) := h
  clear h
  have HC3 := Aside0.mk H
  clear H
  go_enter Try.func19, Try.ntmps19
  go_upto_region 1 with (first | ((with_reducible refine gate_dst (N := 4) rfl ?_); refine box_event ?hg (N := 4) ?hd (cs := #[.int .i64 0, .slice none 0 0]) (t := 34) ?hr ?_; (case hd => rfl); (case hg => rfl); (case hr => first | (go_simp; done) | (go_simp; rfl)); intro gb408 hg w4 hbox hb; have n0_ := Aside0.mk (below_step (by repeat (first | (with_reducible first | exact HB.out | apply below_alloc | apply pw_below_drewN | apply below_drew1) | exact HB.out)) hb); have n1_ := Aside0.mk (hbox); have n2_ := Aside0.mk ((by rw [hg]; exact (below_size (by repeat (first | (with_reducible first | exact HB.out | apply below_alloc | apply pw_below_drewN | apply below_drew1) | exact HB.out))) : w.heap.size ≤ gb408)); have n3_ := Aside0.mk ((by rw [hg]; exact (below_size (by repeat (first | (with_reducible first | exact HB.out | apply below_alloc | apply pw_below_drewN | apply below_drew1) | exact HB.out))) : w.heap.size ≤ gb408)); clear HB; have HB := n0_; have BK408 := n1_; have GW408 := n2_; have GE408 := n3_; clear n0_ n1_ n2_ n3_; clear hb hbox hg))
  (try simp only [Act.put, List.setIfInBounds_toArray, List.set_cons_zero, List.set_cons_succ])
  go_cut [17] (fun v17 wc => ∃ (kq : Nat) (x17_2 : Bool), v17 = .bool x17_2 ∧ Aside0 (continuoref25_Agree.j0 kq l0 l1 x17_2 = some (r1, r2, r3)) ∧ Aside0 (kq ≤ k) ∧ Aside0 (wc.heap[gb408]? = some (.cells #[.int .i64 0, (.slice none 0 0)] 34 (0, 0))) ∧ Aside0 (Below w.heap.size w wc))
  case first =>
    have H := HC3.out
    clear HC3
    replace H := Option.bind_eq_some_iff.mp H
    obtain ⟨t409, A50, H⟩ := H
    replace H : (if t409 = 0 then ((continuoref25_pixels.f k l1).bind fun t410 => (continuoref25_Agree.j0 k l0 l1 (t410 != 0))) else (continuoref25_Agree.j0 k l0 l1 true)) = some (r1, r2, r3) := H
    have A5 := Aside0.mk A50
    clear A50
    by_cases c6 : t409 = 0
    · rw [if_pos c6] at H
      have c6b0 : (t409 == 0) = true := beq_iff_eq.mpr c6
      have c6b1 : (t409 != 0) = false := bne_eq_false_iff_eq.mpr c6
      clear c6
      (first | rw [c6b0] | (simp only [i64_w, i32_w]; rw [c6b0]) | skip)
      replace H := Option.bind_eq_some_iff.mp H
      obtain ⟨t410, A70, H⟩ := H
      replace H : (continuoref25_Agree.j0 k l0 l1 (t410 != 0)) = some (r1, r2, r3) := H
      have A7 := Aside0.mk A70
      clear A70
      have H' := Aside0.mk H
      clear H
      go_wp2_with (first | ((with_reducible refine gate_callee (f := 68) rfl ?_); refine goesL_ (some 11) rfl rfl Try.func68 (by kernel_rfl) rfl #[.slice A0 l0.length c0] rfl (by (try simp only [List.map_toArray, List.map_cons, List.map_nil]); first | done | rfl | (simp only [List.length_drop, List.length_take]; rfl)) ?_; (with_reducible refine (continuoref25_pixels.calls k _ _ l0 t409 _ ?side1 ?side2 A5.out).mono ?_); (case side1 => repeat (first | exact (Kd.C_below HR0.out HB.out) | (with_reducible refine Kd.C_alloc ?_ _) | (with_reducible refine Kd.C_drewN ?_ _) | (with_reducible refine Kd.C_drew ?_))); (case side2 => exact HC0.out); rintro e w' ⟨rfl, ⟨nd, rfl⟩⟩; refine ⟨_, rfl, ?_⟩) | (go_at_call 68; (with_reducible refine (continuoref25_pixels.calls k _ _ l1 t410 _ ?side1 ?side2 A7.out).mono ?_); (case side1 => repeat (first | exact (Kd.C_below HR1.out (by repeat (first | (with_reducible first | exact HB.out | apply below_alloc | apply pw_below_drewN | apply below_drew1 | refine below_set ?_ GE408.out) | exact HB.out))) | (with_reducible refine Kd.C_alloc ?_ _) | (with_reducible refine Kd.C_drewN ?_ _) | (with_reducible refine Kd.C_drew ?_))); (case side2 => exact HC1.out); rintro e w' ⟨rfl, ⟨nd, rfl⟩⟩))
      go_meet
      case rel => exact ⟨_, ((t410 != 0)), (by first | rfl | (simp; done) | (simp [*]; done)), H', ⟨by first | omega | exact Nat.le_refl _⟩, ⟨by (with_reducible repeat (first | refine blk_drewN ?_ _ | refine blk_drew ?_ | refine blk_alloc ?_ _)); exact BK408.out⟩, ⟨by repeat (first | (with_reducible first | exact HB.out | apply below_alloc | apply pw_below_drewN | apply below_drew1 | refine below_set ?_ GE408.out) | exact HB.out)⟩⟩
    · rw [if_neg c6] at H
      have c6b0 : (t409 == 0) = false := beq_eq_false_iff_ne.mpr c6
      have c6b1 : (t409 != 0) = true := bne_iff_ne.mpr c6
      (first | rw [c6b0] | (simp only [i64_w, i32_w]; rw [c6b0]) | skip)
      have H' := Aside0.mk H
      clear H
      go_wp2_with (first | ((with_reducible refine gate_callee (f := 68) rfl ?_); refine goesL_ (some 11) rfl rfl Try.func68 (by kernel_rfl) rfl #[.slice A0 l0.length c0] rfl (by (try simp only [List.map_toArray, List.map_cons, List.map_nil]); first | done | rfl | (simp only [List.length_drop, List.length_take]; rfl)) ?_; (with_reducible refine (continuoref25_pixels.calls k _ _ l0 t409 _ ?side1 ?side2 A5.out).mono ?_); (case side1 => repeat (first | exact (Kd.C_below HR0.out HB.out) | (with_reducible refine Kd.C_alloc ?_ _) | (with_reducible refine Kd.C_drewN ?_ _) | (with_reducible refine Kd.C_drew ?_))); (case side2 => exact HC0.out); rintro e w' ⟨rfl, ⟨nd, rfl⟩⟩; refine ⟨_, rfl, ?_⟩))
      go_meet
      case rel => exact ⟨_, (true), (by first | rfl | (simp; done) | (simp [*]; done)), H', ⟨by first | omega | exact Nat.le_refl _⟩, ⟨by (with_reducible repeat (first | refine blk_drewN ?_ _ | refine blk_drew ?_ | refine blk_alloc ?_ _)); exact BK408.out⟩, ⟨by repeat (first | (with_reducible first | exact HB.out | apply below_alloc | apply pw_below_drewN | apply below_drew1 | refine below_set ?_ GE408.out) | exact HB.out)⟩⟩
  case rest =>
    clear HC3
    try clear c1
    try clear p2
    try clear c6
    try clear c6b0
    try clear c6b1
    obtain ⟨kq, x17_2, rfl, HA, HJ2, BK408, HB⟩ := hcut
    cases kq with
    | zero => exact absurd HA.out (by simp [continuoref25_Agree.j0])
    | succ kj2 =>
      have H := HA.out
      clear HA
      simp only [continuoref25_Agree.j0] at H
      by_cases c8 : x17_2 = true
      · subst c8
        have H1 : (some (0, ([] : List Int), 7)) = some (r1, r2, r3) := by rw [if_pos rfl] at H; exact H
        clear H
        have H := H1
        clear H1
        simp only [Option.some.injEq, Prod.mk.injEq] at H
        obtain ⟨rfl, rfl, rfl⟩ := H
        have hcz9_0 : wc.cell? ⟨gb408, 0, none⟩ = some (.int .i64 0) := (blk_cell BK408.out 0).trans rfl
        have hcz9_1 : wc.cell? ⟨gb408, 1, none⟩ = some (.slice none 0 0) := (blk_cell BK408.out 1).trans rfl
        have hfz9_0 := blk_frozen BK408.out 0
        have hfz9_1 := blk_frozen BK408.out 1
        go_wp2
        refine bodyPost_ret (results_ct rfl _ _ gb408 34 #[.int .i64 0, .slice none 0 0] (0, 0) _ rfl (by (with_reducible repeat (first | refine blk_drewN ?_ _ | refine blk_drew ?_ | refine blk_alloc ?_ _)); refine blk_put (cs := #[.int .i64 0, .slice none 0 0]) ?_ 1 _ rfl; (with_reducible repeat (first | refine blk_drewN ?_ _ | refine blk_drew ?_ | refine blk_alloc ?_ _)); refine blk_put (cs := #[.int .i64 0, .slice none 0 0]) ?_ 0 _ rfl; (with_reducible repeat (first | refine blk_drewN ?_ _ | refine blk_drew ?_ | refine blk_alloc ?_ _)); exact BK408.out) Try.underlying34 rfl (by kernel_rfl)) rfl ?_
        exact ⟨_, by first | rfl | (simp [errW_none, errW_some] <;> rfl) | (simp [*, errW_none, errW_some] <;> rfl), by first | exact Kd.R_nil _ _ _ _ _ | exact Kd.N_nil _ _ _ _ _ | exact Kd.V_nil _ _ _ _ _ | exact Kd.Q_nil _ _ _ _ _ | exact Kd.S_nil _ _ _ _ _, by repeat (first | (with_reducible first | exact HB.out | apply below_alloc | apply pw_below_drewN | apply below_drew1 | refine below_set ?_ GE408.out) | exact HB.out)⟩
      · replace c8 := Bool.eq_false_iff.mpr c8
        subst c8
        have H1 : ((continuoref25_Many.f kj2 l0).bind fun t411 => (if t411 = true then (continuoref25_Agree.j1 kj2 l0 l1 true) else ((continuoref25_Many.f kj2 l1).bind fun t412 => (continuoref25_Agree.j1 kj2 l0 l1 t412)))) = some (r1, r2, r3) := by rw [if_neg (show ¬ (false = true) by decide)] at H; exact H
        clear H
        have H := H1
        clear H1
        have HC10 := Aside0.mk H
        clear H
        go_upto_region 3 with (fail)
        go_cut [24] (fun v24 wc => ∃ (kq : Nat) (x24_9 : Bool), v24 = .bool x24_9 ∧ Aside0 (continuoref25_Agree.j1 kq l0 l1 x24_9 = some (r1, r2, r3)) ∧ Aside0 (kq ≤ kj2) ∧ Aside0 (wc.heap[gb408]? = some (.cells #[.int .i64 0, (.slice none 0 0)] 34 (0, 0))) ∧ Aside0 (Below w.heap.size w wc))
        case first =>
          have H := HC10.out
          clear HC10
          replace H := Option.bind_eq_some_iff.mp H
          obtain ⟨t411, A110, H⟩ := H
          replace H : (if t411 = true then (continuoref25_Agree.j1 kj2 l0 l1 true) else ((continuoref25_Many.f kj2 l1).bind fun t412 => (continuoref25_Agree.j1 kj2 l0 l1 t412))) = some (r1, r2, r3) := H
          have A11 := Aside0.mk A110
          clear A110
          by_cases c12 : t411 = true
          · subst c12
            have H1 : (continuoref25_Agree.j1 kj2 l0 l1 true) = some (r1, r2, r3) := by rw [if_pos rfl] at H; exact H
            clear H
            have H := H1
            clear H1
            have H' := Aside0.mk H
            clear H
            go_wp2_with (first | ((with_reducible refine gate_callee (f := 69) rfl ?_); refine goesL_ (some 20) rfl rfl Try.func69 (by kernel_rfl) rfl #[.slice A0 l0.length c0] rfl (by (try simp only [List.map_toArray, List.map_cons, List.map_nil]); first | done | rfl | (simp only [List.length_drop, List.length_take]; rfl)) ?_; (with_reducible refine (continuoref25_Many.calls kj2 _ _ l0 true _ ?side1 ?side2 A11.out).mono ?_); (case side1 => repeat (first | exact (Kd.C_below HR0.out HB.out) | (with_reducible refine Kd.C_alloc ?_ _) | (with_reducible refine Kd.C_drewN ?_ _) | (with_reducible refine Kd.C_drew ?_))); (case side2 => exact HC0.out); rintro e w' ⟨rfl, ⟨nd, rfl⟩⟩; refine ⟨_, rfl, ?_⟩))
            go_meet
            case rel => exact ⟨_, (true), (by first | rfl | (simp; done) | (simp [*]; done)), H', ⟨by have := HJ2.out; first | omega | exact Nat.le_refl _⟩, ⟨by (with_reducible repeat (first | refine blk_drewN ?_ _ | refine blk_drew ?_ | refine blk_alloc ?_ _)); exact BK408.out⟩, ⟨by repeat (first | (with_reducible first | exact HB.out | apply below_alloc | apply pw_below_drewN | apply below_drew1 | refine below_set ?_ GE408.out) | exact HB.out)⟩⟩
          · replace c12 := Bool.eq_false_iff.mpr c12
            subst c12
            have H1 : ((continuoref25_Many.f kj2 l1).bind fun t412 => (continuoref25_Agree.j1 kj2 l0 l1 t412)) = some (r1, r2, r3) := by rw [if_neg (show ¬ (false = true) by decide)] at H; exact H
            clear H
            have H := H1
            clear H1
            replace H := Option.bind_eq_some_iff.mp H
            obtain ⟨t412, A130, H⟩ := H
            replace H : (continuoref25_Agree.j1 kj2 l0 l1 t412) = some (r1, r2, r3) := H
            have A13 := Aside0.mk A130
            clear A130
            have H' := Aside0.mk H
            clear H
            go_wp2_with (first | ((with_reducible refine gate_callee (f := 69) rfl ?_); refine goesL_ (some 20) rfl rfl Try.func69 (by kernel_rfl) rfl #[.slice A0 l0.length c0] rfl (by (try simp only [List.map_toArray, List.map_cons, List.map_nil]); first | done | rfl | (simp only [List.length_drop, List.length_take]; rfl)) ?_; (with_reducible refine (continuoref25_Many.calls kj2 _ _ l0 false _ ?side1 ?side2 A11.out).mono ?_); (case side1 => repeat (first | exact (Kd.C_below HR0.out HB.out) | (with_reducible refine Kd.C_alloc ?_ _) | (with_reducible refine Kd.C_drewN ?_ _) | (with_reducible refine Kd.C_drew ?_))); (case side2 => exact HC0.out); rintro e w' ⟨rfl, ⟨nd, rfl⟩⟩; refine ⟨_, rfl, ?_⟩) | (go_at_call 69; (with_reducible refine (continuoref25_Many.calls kj2 _ _ l1 t412 _ ?side1 ?side2 A13.out).mono ?_); (case side1 => repeat (first | exact (Kd.C_below HR1.out (by repeat (first | (with_reducible first | exact HB.out | apply below_alloc | apply pw_below_drewN | apply below_drew1 | refine below_set ?_ GE408.out) | exact HB.out))) | (with_reducible refine Kd.C_alloc ?_ _) | (with_reducible refine Kd.C_drewN ?_ _) | (with_reducible refine Kd.C_drew ?_))); (case side2 => exact HC1.out); rintro e w' ⟨rfl, ⟨nd, rfl⟩⟩))
            go_meet
            case rel => exact ⟨_, (t412), (by first | rfl | (simp; done) | (simp [*]; done)), H', ⟨by have := HJ2.out; first | omega | exact Nat.le_refl _⟩, ⟨by (with_reducible repeat (first | refine blk_drewN ?_ _ | refine blk_drew ?_ | refine blk_alloc ?_ _)); exact BK408.out⟩, ⟨by repeat (first | (with_reducible first | exact HB.out | apply below_alloc | apply pw_below_drewN | apply below_drew1 | refine below_set ?_ GE408.out) | exact HB.out)⟩⟩
        case rest =>
          clear HC10
          try clear c1
          try clear p2
          try clear c6
          try clear c6b0
          try clear c6b1
          try clear c8
          try clear c12
          try clear hcz9_0
          try clear hcz9_1
          try clear hfz9_0
          try clear hfz9_1
          try clear p2
          obtain ⟨kq, x24_9, rfl, HA, HJ9, BK408, HB⟩ := hcut
          cases kq with
          | zero => exact absurd HA.out (by simp [continuoref25_Agree.j1])
          | succ kj9 =>
            have H := HA.out
            clear HA
            simp only [continuoref25_Agree.j1] at H
            by_cases c14 : x24_9 = true
            · subst c14
              have H1 : (some (0, ([] : List Int), 4)) = some (r1, r2, r3) := by rw [if_pos rfl] at H; exact H
              clear H
              have H := H1
              clear H1
              simp only [Option.some.injEq, Prod.mk.injEq] at H
              obtain ⟨rfl, rfl, rfl⟩ := H
              have hcz15_0 : wc.cell? ⟨gb408, 0, none⟩ = some (.int .i64 0) := (blk_cell BK408.out 0).trans rfl
              have hcz15_1 : wc.cell? ⟨gb408, 1, none⟩ = some (.slice none 0 0) := (blk_cell BK408.out 1).trans rfl
              have hfz15_0 := blk_frozen BK408.out 0
              have hfz15_1 := blk_frozen BK408.out 1
              go_wp2
              refine bodyPost_ret (results_ct rfl _ _ gb408 34 #[.int .i64 0, .slice none 0 0] (0, 0) _ rfl (by (with_reducible repeat (first | refine blk_drewN ?_ _ | refine blk_drew ?_ | refine blk_alloc ?_ _)); refine blk_put (cs := #[.int .i64 0, .slice none 0 0]) ?_ 1 _ rfl; (with_reducible repeat (first | refine blk_drewN ?_ _ | refine blk_drew ?_ | refine blk_alloc ?_ _)); refine blk_put (cs := #[.int .i64 0, .slice none 0 0]) ?_ 0 _ rfl; (with_reducible repeat (first | refine blk_drewN ?_ _ | refine blk_drew ?_ | refine blk_alloc ?_ _)); exact BK408.out) Try.underlying34 rfl (by kernel_rfl)) rfl ?_
              exact ⟨_, by first | rfl | (simp [errW_none, errW_some] <;> rfl) | (simp [*, errW_none, errW_some] <;> rfl), by first | exact Kd.R_nil _ _ _ _ _ | exact Kd.N_nil _ _ _ _ _ | exact Kd.V_nil _ _ _ _ _ | exact Kd.Q_nil _ _ _ _ _ | exact Kd.S_nil _ _ _ _ _, by repeat (first | (with_reducible first | exact HB.out | apply below_alloc | apply pw_below_drewN | apply below_drew1 | refine below_set ?_ GE408.out) | exact HB.out)⟩
            · replace c14 := Bool.eq_false_iff.mpr c14
              subst c14
              have H1 : (continuoref25_Agree.l0 kj9 l0 l1 0) = some (r1, r2, r3) := by rw [if_neg (show ¬ (false = true) by decide)] at H; exact H
              clear H
              have H := H1
              clear H1
              have H' := Aside0.mk H
              clear H
              go_wp2
              go_loopg [6] kj9 (fun kq v6 w' => ∃ (x6_3 : Int) (x409000_3 : Int), v6 = .int .i64 x6_3 ∧ Aside0 (continuoref25_Agree.l0 kq l0 l1 x6_3 = some (r1, r2, r3)) ∧ Aside0 (kq ≤ kj9) ∧ Aside0 (w'.heap[gb408]? = some (.cells #[.int .i64 x409000_3, (.slice none 0 0)] 34 (0, 0))) ∧ Aside0 (Below w.heap.size w w'))
              case atStart => exact ⟨(0), (0), (by first | rfl | (simp; done) | (simp [*]; done)), H', ⟨Nat.le_refl _⟩, ⟨by (with_reducible repeat (first | refine blk_drewN ?_ _ | refine blk_drew ?_ | refine blk_alloc ?_ _)); exact BK408.out⟩, ⟨by repeat (first | (with_reducible first | exact HB.out | apply below_alloc | apply pw_below_drewN | apply below_drew1 | refine below_set ?_ GE408.out) | exact HB.out)⟩⟩
              case round =>
                clear H'
                try clear c1
                try clear p2
                try clear c6
                try clear c6b0
                try clear c6b1
                try clear c8
                try clear c12
                try clear c14
                try clear hcz15_0
                try clear hcz15_1
                try clear hcz9_0
                try clear hcz9_1
                try clear hfz15_0
                try clear hfz15_1
                try clear hfz9_0
                try clear hfz9_1
                try clear p2
                obtain ⟨x6_3, x409000_3, rfl, HA, HK3, BK408, HB⟩ := hrel
                cases gk with
                | zero => exact absurd HA.out (by simp [continuoref25_Agree.l0])
                | succ k3 =>
                  have H := HA.out
                  clear HA
                  simp only [continuoref25_Agree.l0] at H
                  by_cases c16 : x6_3 < (l0.length : Int)
                  · rw [if_pos c16] at H
                    have c16b0 : decide (x6_3 < (l0.length : Int)) = true := decide_eq_true c16
                    clear c16
                    have H' := Aside0.mk H
                    clear H
                    go_wp2
                    go_loopg [7] k3 (fun kq v7 w' => ∃ (x7_4 : Int) (x409000_4 : Int), v7 = .int .i64 x7_4 ∧ Aside0 (continuoref25_Agree.l1 kq l0 l1 x6_3 x7_4 = some (r1, r2, r3)) ∧ Aside0 (kq ≤ k3) ∧ Aside0 (w'.heap[gb408]? = some (.cells #[.int .i64 x409000_4, (.slice none 0 0)] 34 (0, 0))) ∧ Aside0 (Below w.heap.size w w'))
                    case atStart => exact ⟨(0), (x409000_3), (by first | rfl | (simp; done) | (simp [*]; done)), H', ⟨Nat.le_refl _⟩, ⟨by (with_reducible repeat (first | refine blk_drewN ?_ _ | refine blk_drew ?_ | refine blk_alloc ?_ _)); exact BK408.out⟩, ⟨by repeat (first | (with_reducible first | exact HB.out | apply below_alloc | apply pw_below_drewN | apply below_drew1 | refine below_set ?_ GE408.out) | exact HB.out)⟩⟩
                    case round =>
                      clear H'
                      try clear c1
                      try clear p2
                      try clear c6
                      try clear c6b0
                      try clear c6b1
                      try clear c8
                      try clear c12
                      try clear c14
                      try clear c16
                      try clear c16b0
                      try clear hcz15_0
                      try clear hcz15_1
                      try clear hcz9_0
                      try clear hcz9_1
                      try clear hfz15_0
                      try clear hfz15_1
                      try clear hfz9_0
                      try clear hfz9_1
                      try clear p2
                      obtain ⟨x7_4, x409000_4, rfl, HA, HK4, BK408, HB⟩ := hrel
                      cases gk with
                      | zero => exact absurd HA.out (by simp [continuoref25_Agree.l1])
                      | succ k4 =>
                        have H := HA.out
                        clear HA
                        simp only [continuoref25_Agree.l1] at H
                        by_cases c17 : 0 ≤ x6_3
                        · rw [if_pos c17] at H
                          have c17b0 : decide (0 ≤ x6_3) = true := decide_eq_true c17
                          clear c17
                          by_cases c18 : x6_3 < (l0.length : Int)
                          · rw [if_pos c18] at H
                            have c18b0 : decide (x6_3 < (l0.length : Int)) = true := decide_eq_true c18
                            clear c18
                            by_cases c19 : x7_4 < (((rd_T34 l0 x6_3).f1).length : Int)
                            · rw [if_pos c19] at H
                              have c19b0 : decide (x7_4 < (((rd_T34 l0 x6_3).f1).length : Int)) = true := decide_eq_true c19
                              clear c19
                              have H' := Aside0.mk H
                              clear H
                              have p413 : 0 ≤ (x6_3 : Int) := of_decide_eq_true (by first | (with_reducible assumption) | assumption)
                              have q413 : x6_3 < (l0.length : Int) := of_decide_eq_true (by first | (with_reducible assumption) | assumption)
                              obtain ⟨ad413, A413_1, c413_1, e413, hx413_0, hx413_1, hl413_1, hi413_1⟩ := at_T34 HR0.out x6_3 p413 q413
                              cases e413
                              replace hx413_0 := (HB.out.cell (World.block_lt_of_cell? w _ hx413_0)).trans hx413_0
                              replace hx413_1 := (HB.out.cell (World.block_lt_of_cell? w _ hx413_1)).trans hx413_1
                              have HR413_1 := Aside0.mk hi413_1
                              have HC413_1 := Aside0.mk hl413_1
                              clear hi413_1 hl413_1
                              replace p413 := eq_true p413
                              replace q413 := eq_true q413
                              go_wp2
                              go_loopg [8] k4 (fun kq v8 w' => ∃ (x8_5 : Int) (x409000_5 : Int), v8 = .int .i64 x8_5 ∧ Aside0 (continuoref25_Agree.l2 kq l0 l1 x6_3 x7_4 x8_5 = some (r1, r2, r3)) ∧ Aside0 (kq ≤ k4) ∧ Aside0 (w'.heap[gb408]? = some (.cells #[.int .i64 x409000_5, (.slice none 0 0)] 34 (0, 0))) ∧ Aside0 (Below w.heap.size w w'))
                              case atStart => exact ⟨(0), (x409000_4), (by first | rfl | (simp; done) | (simp [*]; done)), H', ⟨Nat.le_refl _⟩, ⟨by (with_reducible repeat (first | refine blk_drewN ?_ _ | refine blk_drew ?_ | refine blk_alloc ?_ _)); exact BK408.out⟩, ⟨by repeat (first | (with_reducible first | exact HB.out | apply below_alloc | apply pw_below_drewN | apply below_drew1 | refine below_set ?_ GE408.out) | exact HB.out)⟩⟩
                              case round =>
                                clear H'
                                try clear c1
                                try clear p2
                                try clear c4
                                try clear p4
                                try clear q4
                                try clear hx4
                                try clear c6
                                try clear c6b0
                                try clear c6b1
                                try clear c8
                                try clear c12
                                try clear c14
                                try clear c16
                                try clear c16b0
                                try clear c17
                                try clear c17b0
                                try clear c18
                                try clear c18b0
                                try clear c19
                                try clear c19b0
                                try clear hcz15_0
                                try clear hcz15_1
                                try clear hcz9_0
                                try clear hcz9_1
                                try clear hfz15_0
                                try clear hfz15_1
                                try clear hfz9_0
                                try clear hfz9_1
                                try clear hx413_0
                                try clear hx413_1
                                try clear p2
                                try clear p413
                                try clear q413
                                obtain ⟨x8_5, x409000_5, rfl, HA, HK5, BK408, HB⟩ := hrel
                                cases gk with
                                | zero => exact absurd HA.out (by simp [continuoref25_Agree.l2])
                                | succ k5 =>
                                  have H := HA.out
                                  clear HA
                                  simp only [continuoref25_Agree.l2] at H
                                  by_cases c20 : x8_5 < (l1.length : Int)
                                  · rw [if_pos c20] at H
                                    have c20b0 : decide (x8_5 < (l1.length : Int)) = true := decide_eq_true c20
                                    clear c20
                                    have H' := Aside0.mk H
                                    clear H
                                    go_wp2
                                    go_loopg [9] k5 (fun kq v9 w' => ∃ (x9_6 : Int) (x409000_6 : Int), v9 = .int .i64 x9_6 ∧ Aside0 (continuoref25_Agree.l3 kq l0 l1 x6_3 x7_4 x8_5 x9_6 = some (r1, r2, r3)) ∧ Aside0 (kq ≤ k5) ∧ Aside0 (w'.heap[gb408]? = some (.cells #[.int .i64 x409000_6, (.slice none 0 0)] 34 (0, 0))) ∧ Aside0 (Below w.heap.size w w'))
                                    case atStart => exact ⟨(0), (x409000_5), (by first | rfl | (simp; done) | (simp [*]; done)), H', ⟨Nat.le_refl _⟩, ⟨by (with_reducible repeat (first | refine blk_drewN ?_ _ | refine blk_drew ?_ | refine blk_alloc ?_ _)); exact BK408.out⟩, ⟨by repeat (first | (with_reducible first | exact HB.out | apply below_alloc | apply pw_below_drewN | apply below_drew1 | refine below_set ?_ GE408.out) | exact HB.out)⟩⟩
                                    case round =>
                                      clear H'
                                      try clear c1
                                      try clear c2
                                      try clear p2
                                      try clear c4
                                      try clear p4
                                      try clear q4
                                      try clear hx4
                                      try clear c6
                                      try clear c6b0
                                      try clear c6b1
                                      try clear c8
                                      try clear c12
                                      try clear c14
                                      try clear c16
                                      try clear c16b0
                                      try clear c17
                                      try clear c17b0
                                      try clear c18
                                      try clear c18b0
                                      try clear c19
                                      try clear c19b0
                                      try clear c20
                                      try clear c20b0
                                      try clear hcz15_0
                                      try clear hcz15_1
                                      try clear hcz9_0
                                      try clear hcz9_1
                                      try clear hfz15_0
                                      try clear hfz15_1
                                      try clear hfz9_0
                                      try clear hfz9_1
                                      try clear hx413_0
                                      try clear hx413_1
                                      try clear p2
                                      try clear p4
                                      try clear p413
                                      try clear q4
                                      try clear q413
                                      obtain ⟨x9_6, x409000_6, rfl, HA, HK6, BK408, HB⟩ := hrel
                                      cases gk with
                                      | zero => exact absurd HA.out (by simp [continuoref25_Agree.l3])
                                      | succ k6 =>
                                        have H := HA.out
                                        clear HA
                                        simp only [continuoref25_Agree.l3] at H
                                        by_cases c21 : 0 ≤ x8_5
                                        · rw [if_pos c21] at H
                                          have c21b0 : decide (0 ≤ x8_5) = true := decide_eq_true c21
                                          clear c21
                                          by_cases c22 : x8_5 < (l1.length : Int)
                                          · rw [if_pos c22] at H
                                            have c22b0 : decide (x8_5 < (l1.length : Int)) = true := decide_eq_true c22
                                            clear c22
                                            by_cases c23 : x9_6 < (((rd_T34 l1 x8_5).f1).length : Int)
                                            · rw [if_pos c23] at H
                                              have c23b0 : decide (x9_6 < (((rd_T34 l1 x8_5).f1).length : Int)) = true := decide_eq_true c23
                                              clear c23
                                              by_cases c24 : 0 ≤ x6_3
                                              · rw [if_pos c24] at H
                                                have c24b0 : decide (0 ≤ x6_3) = true := decide_eq_true c24
                                                clear c24
                                                by_cases c25 : x6_3 < (l0.length : Int)
                                                · rw [if_pos c25] at H
                                                  have c25b0 : decide (x6_3 < (l0.length : Int)) = true := decide_eq_true c25
                                                  clear c25
                                                  by_cases c26 : ((rd_T34 l1 x8_5).f0) = ((rd_T34 l0 x6_3).f0)
                                                  · rw [if_pos c26] at H
                                                    have c26b0 : (((rd_T34 l1 x8_5).f0) == ((rd_T34 l0 x6_3).f0)) = true := beq_iff_eq.mpr c26
                                                    have c26b1 : (((rd_T34 l1 x8_5).f0) != ((rd_T34 l0 x6_3).f0)) = false := bne_eq_false_iff_eq.mpr c26
                                                    clear c26
                                                    by_cases c27 : 0 ≤ x9_6
                                                    · rw [if_pos c27] at H
                                                      have c27b0 : decide (0 ≤ x9_6) = true := decide_eq_true c27
                                                      clear c27
                                                      by_cases c28 : 0 ≤ x7_4
                                                      · rw [if_pos c28] at H
                                                        have c28b0 : decide (0 ≤ x7_4) = true := decide_eq_true c28
                                                        clear c28
                                                        by_cases c29 : x7_4 < (((rd_T34 l0 x6_3).f1).length : Int)
                                                        · rw [if_pos c29] at H
                                                          have c29b0 : decide (x7_4 < (((rd_T34 l0 x6_3).f1).length : Int)) = true := decide_eq_true c29
                                                          clear c29
                                                          by_cases c30 : (rd ((rd_T34 l1 x8_5).f1) x9_6) = (rd ((rd_T34 l0 x6_3).f1) x7_4)
                                                          · rw [if_pos c30] at H
                                                            have c30b0 : ((rd ((rd_T34 l1 x8_5).f1) x9_6) == (rd ((rd_T34 l0 x6_3).f1) x7_4)) = true := beq_iff_eq.mpr c30
                                                            have c30b1 : ((rd ((rd_T34 l1 x8_5).f1) x9_6) != (rd ((rd_T34 l0 x6_3).f1) x7_4)) = false := bne_eq_false_iff_eq.mpr c30
                                                            clear c30
                                                            obtain ⟨y424, hy424⟩ : ∃ y_ : List Int, y_ = (([rd ((rd_T34 l0 x6_3).f1) x7_4] : List Int)) := ⟨_, rfl⟩
                                                            replace H : (some ((rd_T34 l0 x6_3).f0, y424, 0)) = some (r1, r2, r3) := by first | (rw [hy424]; with_reducible exact H) | (have H2_ := (Option.bind_some _ _).symm.trans H; rw [hy424]; with_reducible exact H2_) | (have H2_ := (Option.bind_some _ _).symm.trans H; with_reducible exact H2_) | with_reducible exact H | (rw [hy424]; exact H) | exact H
                                                            have Ny424 := Aside0.mk hy424
                                                            clear hy424
                                                            simp only [Option.some.injEq, Prod.mk.injEq] at H
                                                            obtain ⟨rfl, rfl, rfl⟩ := H
                                                            have p414 : 0 ≤ (x8_5 : Int) := of_decide_eq_true (by first | (with_reducible assumption) | assumption)
                                                            have q414 : x8_5 < (l1.length : Int) := of_decide_eq_true (by first | (with_reducible assumption) | assumption)
                                                            obtain ⟨ad414, A414_1, c414_1, e414, hx414_0, hx414_1, hl414_1, hi414_1⟩ := at_T34 HR1.out x8_5 p414 q414
                                                            cases e414
                                                            replace hx414_0 := (HB.out.cell (World.block_lt_of_cell? w _ hx414_0)).trans hx414_0
                                                            replace hx414_1 := (HB.out.cell (World.block_lt_of_cell? w _ hx414_1)).trans hx414_1
                                                            have HR414_1 := Aside0.mk hi414_1
                                                            have HC414_1 := Aside0.mk hl414_1
                                                            clear hi414_1 hl414_1
                                                            replace p414 := eq_true p414
                                                            replace q414 := eq_true q414
                                                            try go_wp2
                                                            have n0_ := Aside0.mk (blk_drew BK408.out)
                                                            have n1_ := Aside0.mk (below_drew1 HB.out)
                                                            clear BK408
                                                            clear HB
                                                            have BK408 := n0_
                                                            have HB := n1_
                                                            clear n0_ n1_
                                                            have p415 : 0 ≤ (x8_5 : Int) := of_decide_eq_true (by first | (with_reducible assumption) | assumption)
                                                            have q415 : x8_5 < (l1.length : Int) := of_decide_eq_true (by first | (with_reducible assumption) | assumption)
                                                            obtain ⟨ad415, A415_1, c415_1, e415, hx415_0, hx415_1, hl415_1, hi415_1⟩ := at_T34 HR1.out x8_5 p415 q415
                                                            have hw415_1 := hx415_1
                                                            have hw415_0 := hx415_0
                                                            obtain rfl : ad414 = ad415 := (by injection e415)
                                                            replace hx415_0 := (HB.out.cell (World.block_lt_of_cell? w _ hx415_0)).trans hx415_0
                                                            replace hx415_1 := (HB.out.cell (World.block_lt_of_cell? w _ hx415_1)).trans hx415_1
                                                            have HR415_1 := Aside0.mk hi415_1
                                                            have HC415_1 := Aside0.mk hl415_1
                                                            clear hi415_1 hl415_1
                                                            replace p415 := eq_true p415
                                                            replace q415 := eq_true q415
                                                            have p416 : 0 ≤ (x6_3 : Int) := of_decide_eq_true (by first | (with_reducible assumption) | assumption)
                                                            have q416 : x6_3 < (l0.length : Int) := of_decide_eq_true (by first | (with_reducible assumption) | assumption)
                                                            obtain ⟨ad416, A416_1, c416_1, e416, hx416_0, hx416_1, hl416_1, hi416_1⟩ := at_T34 HR0.out x6_3 p416 q416
                                                            have hw416_1 := hx416_1
                                                            have hw416_0 := hx416_0
                                                            obtain rfl : ad413 = ad416 := (by injection e416)
                                                            replace hx416_0 := (HB.out.cell (World.block_lt_of_cell? w _ hx416_0)).trans hx416_0
                                                            replace hx416_1 := (HB.out.cell (World.block_lt_of_cell? w _ hx416_1)).trans hx416_1
                                                            have HR416_1 := Aside0.mk hi416_1
                                                            have HC416_1 := Aside0.mk hl416_1
                                                            clear hi416_1 hl416_1
                                                            replace p416 := eq_true p416
                                                            replace q416 := eq_true q416
                                                            have p417 : 0 ≤ (x8_5 : Int) := of_decide_eq_true (by first | (with_reducible assumption) | assumption)
                                                            have q417 : x8_5 < (l1.length : Int) := of_decide_eq_true (by first | (with_reducible assumption) | assumption)
                                                            obtain ⟨ad417, A417_1, c417_1, e417, hx417_0, hx417_1, hl417_1, hi417_1⟩ := at_T34 HR1.out x8_5 p417 q417
                                                            have hw417_1 := hx417_1
                                                            have hw417_0 := hx417_0
                                                            obtain rfl : ad414 = ad417 := (by injection e417)
                                                            replace hx417_0 := (HB.out.cell (World.block_lt_of_cell? w _ hx417_0)).trans hx417_0
                                                            replace hx417_1 := (HB.out.cell (World.block_lt_of_cell? w _ hx417_1)).trans hx417_1
                                                            have HR417_1 := Aside0.mk hi417_1
                                                            have HC417_1 := Aside0.mk hl417_1
                                                            clear hi417_1 hl417_1
                                                            replace p417 := eq_true p417
                                                            replace q417 := eq_true q417
                                                            have ea_ := Option.some.inj (hx415_1.symm.trans hx417_1)
                                                            injection ea_ with ea_ en_ ec_
                                                            subst ea_
                                                            subst ec_
                                                            clear en_
                                                            have p418 : 0 ≤ (x9_6 : Int) := of_decide_eq_true (by first | (with_reducible assumption) | assumption)
                                                            have q418 : x9_6 < (((rd_T34 l1 x8_5).f1).length : Int) := of_decide_eq_true (by first | (with_reducible assumption) | assumption)
                                                            obtain ⟨ad418, e418, hx418_0⟩ := Kd.at_int HR417_1.out x9_6 p418 q418
                                                            have hw418_0 := hx418_0
                                                            cases e418
                                                            replace hx418_0 := (HB.out.cell (World.block_lt_of_cell? w _ hx418_0)).trans hx418_0
                                                            replace p418 := eq_true p418
                                                            replace q418 := eq_true q418
                                                            have p419 : 0 ≤ (x6_3 : Int) := of_decide_eq_true (by first | (with_reducible assumption) | assumption)
                                                            have q419 : x6_3 < (l0.length : Int) := of_decide_eq_true (by first | (with_reducible assumption) | assumption)
                                                            obtain ⟨ad419, A419_1, c419_1, e419, hx419_0, hx419_1, hl419_1, hi419_1⟩ := at_T34 HR0.out x6_3 p419 q419
                                                            have hw419_1 := hx419_1
                                                            have hw419_0 := hx419_0
                                                            obtain rfl : ad413 = ad419 := (by injection e419)
                                                            replace hx419_0 := (HB.out.cell (World.block_lt_of_cell? w _ hx419_0)).trans hx419_0
                                                            replace hx419_1 := (HB.out.cell (World.block_lt_of_cell? w _ hx419_1)).trans hx419_1
                                                            have HR419_1 := Aside0.mk hi419_1
                                                            have HC419_1 := Aside0.mk hl419_1
                                                            clear hi419_1 hl419_1
                                                            replace p419 := eq_true p419
                                                            replace q419 := eq_true q419
                                                            have ea_ := Option.some.inj (hx416_1.symm.trans hx419_1)
                                                            injection ea_ with ea_ en_ ec_
                                                            subst ea_
                                                            subst ec_
                                                            clear en_
                                                            have p420 : 0 ≤ (x7_4 : Int) := of_decide_eq_true (by first | (with_reducible assumption) | assumption)
                                                            have q420 : x7_4 < (((rd_T34 l0 x6_3).f1).length : Int) := of_decide_eq_true (by first | (with_reducible assumption) | assumption)
                                                            obtain ⟨ad420, e420, hx420_0⟩ := Kd.at_int HR419_1.out x7_4 p420 q420
                                                            have hw420_0 := hx420_0
                                                            cases e420
                                                            replace hx420_0 := (HB.out.cell (World.block_lt_of_cell? w _ hx420_0)).trans hx420_0
                                                            replace p420 := eq_true p420
                                                            replace q420 := eq_true q420
                                                            refine start_ (n := 30) (S := fun w' => w'.cell? (ad414.add ((x8_5).toNat * 2)) = some (.int .i64 ((rd_T34 l1 x8_5).f0)) ∧ w'.cell? ⟨(ad414.add ((x8_5).toNat * 2)).block, (ad414.add ((x8_5).toNat * 2)).off + 1, none⟩ = some (.slice (some ad418) ((rd_T34 l1 x8_5).f1).length c415_1) ∧ w'.cell? (ad413.add ((x6_3).toNat * 2)) = some (.int .i64 ((rd_T34 l0 x6_3).f0)) ∧ w'.cell? ⟨(ad413.add ((x6_3).toNat * 2)).block, (ad413.add ((x6_3).toNat * 2)).off + 1, none⟩ = some (.slice (some ad420) ((rd_T34 l0 x6_3).f1).length c416_1) ∧ w'.cell? (ad414.add ((x8_5).toNat * 2)) = some (.int .i64 ((rd_T34 l1 x8_5).f0)) ∧ w'.cell? ⟨(ad414.add ((x8_5).toNat * 2)).block, (ad414.add ((x8_5).toNat * 2)).off + 1, none⟩ = some (.slice (some ad418) ((rd_T34 l1 x8_5).f1).length c415_1) ∧ w'.cell? (ad418.add (x9_6).toNat) = some (.int .i64 (rd ((rd_T34 l1 x8_5).f1) x9_6)) ∧ w'.cell? (ad413.add ((x6_3).toNat * 2)) = some (.int .i64 ((rd_T34 l0 x6_3).f0)) ∧ w'.cell? ⟨(ad413.add ((x6_3).toNat * 2)).block, (ad413.add ((x6_3).toNat * 2)).off + 1, none⟩ = some (.slice (some ad420) ((rd_T34 l0 x6_3).f1).length c416_1) ∧ w'.cell? (ad420.add (x7_4).toNat) = some (.int .i64 (rd ((rd_T34 l0 x6_3).f1) x7_4))) (ds := []) #[false, false, false, false, false, false, false, false, false, false, false, false, false, false, false, false, false, false, false, false, false, false, false, false, false, false, false, false, false, false] (by kernel_rfl) rfl rfl ⟨((HB.out.cell (World.block_lt_of_cell? w _ hw415_0)).trans hw415_0), ((HB.out.cell (World.block_lt_of_cell? w _ hw415_1)).trans hw415_1), ((HB.out.cell (World.block_lt_of_cell? w _ hw416_0)).trans hw416_0), ((HB.out.cell (World.block_lt_of_cell? w _ hw416_1)).trans hw416_1), ((HB.out.cell (World.block_lt_of_cell? w _ hw417_0)).trans hw417_0), ((HB.out.cell (World.block_lt_of_cell? w _ hw417_1)).trans hw417_1), ((HB.out.cell (World.block_lt_of_cell? w _ hw418_0)).trans hw418_0), ((HB.out.cell (World.block_lt_of_cell? w _ hw419_0)).trans hw419_0), ((HB.out.cell (World.block_lt_of_cell? w _ hw419_1)).trans hw419_1), ((HB.out.cell (World.block_lt_of_cell? w _ hw420_0)).trans hw420_0)⟩ (fun hHeld => ?_); refine with_tabW continuoref25_Agree.tab17 continuoref25_Agree.bits17 (fun HT_ HW_ => ?_)
                                                            generalize wr.drew = w31 at BK408 HB HR415_1 HR416_1 HR417_1 HR419_1 hx415_0 hx415_1 hx416_0 hx416_1 hx417_0 hx417_1 hx418_0 hx419_0 hx419_1 hx420_0 hHeld ⊢
                                                            refine pure_ (i := 0) (N := some 58) (v := ?_) (a' := ?_) #[true, false, false, false, false, false, false, false, false, false, false, false, false, false, false, false, false, false, false, false, false, false, false, false, false, false, false, false, false, false] rfl rfl (any_of HT_.out (by kernel_rfl)) (fun _ _ _ h => h) (Or.inl ⟨by rfl, ?_⟩) ?_ ?_
                                                            rotate_left
                                                            · intro w'
                                                              go_simp
                                                              with_reducible rfl
                                                            rotate_left
                                                            · simp only [Act.put, List.setIfInBounds_toArray, List.set_cons_zero, List.set_cons_succ, i64_w, i32_w]
                                                              rfl
                                                            refine pure_ (i := 1) (N := some 59) (v := ?_) (a' := ?_) #[true, true, false, false, false, false, false, false, false, false, false, false, false, false, false, false, false, false, false, false, false, false, false, false, false, false, false, false, false, false] rfl rfl (any_of HT_.out (by kernel_rfl)) (fun _ _ _ h => h) (Or.inl ⟨by rfl, ?_⟩) ?_ ?_
                                                            rotate_left
                                                            · intro w'
                                                              go_simp
                                                              with_reducible rfl
                                                            rotate_left
                                                            · simp only [Act.put, List.setIfInBounds_toArray, List.set_cons_zero, List.set_cons_succ, i64_w, i32_w]
                                                              rfl
                                                            refine pure_ (i := 2) (N := some 60) (v := ?_) (a' := ?_) #[true, true, true, false, false, false, false, false, false, false, false, false, false, false, false, false, false, false, false, false, false, false, false, false, false, false, false, false, false, false] rfl rfl (any_of HT_.out (by kernel_rfl)) (fun _ _ _ h => h) (Or.inl ⟨by rfl, ?_⟩) ?_ ?_
                                                            rotate_left
                                                            · intro w'
                                                              go_simp
                                                              with_reducible rfl
                                                            rotate_left
                                                            · simp only [Act.put, List.setIfInBounds_toArray, List.set_cons_zero, List.set_cons_succ, i64_w, i32_w]
                                                              rfl
                                                            refine pure_ (i := 3) (N := some 61) (v := ?_) (a' := ?_) #[true, true, true, true, false, false, false, false, false, false, false, false, false, false, false, false, false, false, false, false, false, false, false, false, false, false, false, false, false, false] rfl rfl (any_of HT_.out (by kernel_rfl)) (fun _ _ _ h => h) (Or.inl ⟨by rfl, ?_⟩) ?_ ?_
                                                            rotate_left
                                                            · intro w'
                                                              go_simp
                                                              with_reducible rfl
                                                            rotate_left
                                                            · simp only [Act.put, List.setIfInBounds_toArray, List.set_cons_zero, List.set_cons_succ, i64_w, i32_w]
                                                              rfl
                                                            refine pure_ (i := 5) (N := some 63) (v := ?_) (a' := ?_) #[true, true, true, true, false, true, false, false, false, false, false, false, false, false, false, false, false, false, false, false, false, false, false, false, false, false, false, false, false, false] rfl rfl (any_of HT_.out (by kernel_rfl)) (fun _ _ _ h => h) (Or.inl ⟨by rfl, ?_⟩) ?_ ?_
                                                            rotate_left
                                                            · intro w'
                                                              go_simp
                                                              with_reducible rfl
                                                            rotate_left
                                                            · simp only [Act.put, List.setIfInBounds_toArray, List.set_cons_zero, List.set_cons_succ, i64_w, i32_w]
                                                              rfl
                                                            refine pure_ (i := 6) (N := some 64) (v := ?_) (a' := ?_) #[true, true, true, true, false, true, true, false, false, false, false, false, false, false, false, false, false, false, false, false, false, false, false, false, false, false, false, false, false, false] rfl rfl (any_of HT_.out (by kernel_rfl)) (fun _ _ _ h => h) (Or.inl ⟨by rfl, ?_⟩) ?_ ?_
                                                            rotate_left
                                                            · intro w'
                                                              go_simp
                                                              with_reducible rfl
                                                            rotate_left
                                                            · simp only [Act.put, List.setIfInBounds_toArray, List.set_cons_zero, List.set_cons_succ, i64_w, i32_w]
                                                              rfl
                                                            refine pure_ (i := 7) (N := some 65) (v := ?_) (a' := ?_) #[true, true, true, true, false, true, true, true, false, false, false, false, false, false, false, false, false, false, false, false, false, false, false, false, false, false, false, false, false, false] rfl rfl (any_of HT_.out (by kernel_rfl)) (fun _ _ _ h => h) (Or.inl ⟨by rfl, ?_⟩) ?_ ?_
                                                            rotate_left
                                                            · intro w'
                                                              go_simp
                                                              with_reducible rfl
                                                            rotate_left
                                                            · simp only [Act.put, List.setIfInBounds_toArray, List.set_cons_zero, List.set_cons_succ, i64_w, i32_w]
                                                              rfl
                                                            refine pure_ (i := 8) (N := some 66) (v := ?_) (a' := ?_) #[true, true, true, true, false, true, true, true, true, false, false, false, false, false, false, false, false, false, false, false, false, false, false, false, false, false, false, false, false, false] rfl rfl (any_of HT_.out (by kernel_rfl)) (fun _ _ _ h => h) (Or.inl ⟨by rfl, ?_⟩) ?_ ?_
                                                            rotate_left
                                                            · intro w'
                                                              go_simp
                                                              with_reducible rfl
                                                            rotate_left
                                                            · simp only [Act.put, List.setIfInBounds_toArray, List.set_cons_zero, List.set_cons_succ, i64_w, i32_w]
                                                              rfl
                                                            refine take_ (i := 4) (N := some 62) (v := ?_) (a' := ?_) #[true, true, true, true, true, true, true, true, true, false, false, false, false, false, false, false, false, false, false, false, false, false, false, false, false, false, false, false, false, false] rfl rfl (take_ofW HT_.out HW_.out (by kernel_rfl)) (fun _ _ _ h => h) (Or.inl ⟨by rfl, ?_⟩) hHeld ?_ ?_
                                                            rotate_left
                                                            · rintro w' ⟨s0, s1, s2, s3, s4, s5, s6, s7, s8, s9⟩
                                                              go_simp
                                                              with_reducible rfl
                                                            rotate_left
                                                            · simp only [Act.put, List.setIfInBounds_toArray, List.set_cons_zero, List.set_cons_succ, i64_w, i32_w]
                                                              rfl
                                                            refine take_ (i := 9) (N := some 67) (v := ?_) (a' := ?_) #[true, true, true, true, true, true, true, true, true, true, false, false, false, false, false, false, false, false, false, false, false, false, false, false, false, false, false, false, false, false] rfl rfl (take_ofW HT_.out HW_.out (by kernel_rfl)) (fun _ _ _ h => h) (Or.inl ⟨by rfl, ?_⟩) hHeld ?_ ?_
                                                            rotate_left
                                                            · rintro w' ⟨s0, s1, s2, s3, s4, s5, s6, s7, s8, s9⟩
                                                              go_simp
                                                              with_reducible rfl
                                                            rotate_left
                                                            · simp only [Act.put, List.setIfInBounds_toArray, List.set_cons_zero, List.set_cons_succ, i64_w, i32_w]
                                                              rfl
                                                            refine pure_ (i := 10) (N := some 68) (v := ?_) (a' := ?_) #[true, true, true, true, true, true, true, true, true, true, true, false, false, false, false, false, false, false, false, false, false, false, false, false, false, false, false, false, false, false] rfl rfl (any_of HT_.out (by kernel_rfl)) (fun _ _ _ h => h) (Or.inl ⟨by rfl, ?_⟩) ?_ ?_
                                                            rotate_left
                                                            · intro w'
                                                              go_simp
                                                              with_reducible rfl
                                                            rotate_left
                                                            · simp only [Act.put, List.setIfInBounds_toArray, List.set_cons_zero, List.set_cons_succ, i64_w, i32_w]
                                                              rfl
                                                            refine pure_ (i := 11) (N := some 69) (v := ?_) (a' := ?_) #[true, true, true, true, true, true, true, true, true, true, true, true, false, false, false, false, false, false, false, false, false, false, false, false, false, false, false, false, false, false] rfl rfl (any_of HT_.out (by kernel_rfl)) (fun _ _ _ h => h) (Or.inl ⟨by rfl, ?_⟩) ?_ ?_
                                                            rotate_left
                                                            · intro w'
                                                              go_simp
                                                              with_reducible rfl
                                                            rotate_left
                                                            · simp only [Act.put, List.setIfInBounds_toArray, List.set_cons_zero, List.set_cons_succ, i64_w, i32_w]
                                                              rfl
                                                            refine pure_ (i := 12) (N := some 70) (v := ?_) (a' := ?_) #[true, true, true, true, true, true, true, true, true, true, true, true, true, false, false, false, false, false, false, false, false, false, false, false, false, false, false, false, false, false] rfl rfl (any_of HT_.out (by kernel_rfl)) (fun _ _ _ h => h) (Or.inl ⟨by rfl, ?_⟩) ?_ ?_
                                                            rotate_left
                                                            · intro w'
                                                              go_simp
                                                              with_reducible rfl
                                                            rotate_left
                                                            · simp only [Act.put, List.setIfInBounds_toArray, List.set_cons_zero, List.set_cons_succ, i64_w, i32_w]
                                                              rfl
                                                            refine pure_ (i := 13) (N := some 71) (v := ?_) (a' := ?_) #[true, true, true, true, true, true, true, true, true, true, true, true, true, true, false, false, false, false, false, false, false, false, false, false, false, false, false, false, false, false] rfl rfl (any_of HT_.out (by kernel_rfl)) (fun _ _ _ h => h) (Or.inl ⟨by rfl, ?_⟩) ?_ ?_
                                                            rotate_left
                                                            · intro w'
                                                              go_simp
                                                              with_reducible rfl
                                                            rotate_left
                                                            · simp only [Act.put, List.setIfInBounds_toArray, List.set_cons_zero, List.set_cons_succ, i64_w, i32_w]
                                                              rfl
                                                            refine pure_ (i := 14) (N := some 72) (v := ?_) (a' := ?_) #[true, true, true, true, true, true, true, true, true, true, true, true, true, true, true, false, false, false, false, false, false, false, false, false, false, false, false, false, false, false] rfl rfl (any_of HT_.out (by kernel_rfl)) (fun _ _ _ h => h) (Or.inl ⟨by rfl, ?_⟩) ?_ ?_
                                                            rotate_left
                                                            · intro w'
                                                              go_simp
                                                              with_reducible rfl
                                                            rotate_left
                                                            · simp only [Act.put, List.setIfInBounds_toArray, List.set_cons_zero, List.set_cons_succ, i64_w, i32_w]
                                                              rfl
                                                            refine pure_ (i := 15) (N := some 73) (v := ?_) (a' := ?_) #[true, true, true, true, true, true, true, true, true, true, true, true, true, true, true, true, false, false, false, false, false, false, false, false, false, false, false, false, false, false] rfl rfl (any_of HT_.out (by kernel_rfl)) (fun _ _ _ h => h) (Or.inl ⟨by rfl, ?_⟩) ?_ ?_
                                                            rotate_left
                                                            · intro w'
                                                              go_simp
                                                              with_reducible rfl
                                                            rotate_left
                                                            · simp only [Act.put, List.setIfInBounds_toArray, List.set_cons_zero, List.set_cons_succ, i64_w, i32_w]
                                                              rfl
                                                            refine pure_ (i := 17) (N := some 75) (v := ?_) (a' := ?_) #[true, true, true, true, true, true, true, true, true, true, true, true, true, true, true, true, false, true, false, false, false, false, false, false, false, false, false, false, false, false] rfl rfl (any_of HT_.out (by kernel_rfl)) (fun _ _ _ h => h) (Or.inl ⟨by rfl, ?_⟩) ?_ ?_
                                                            rotate_left
                                                            · intro w'
                                                              go_simp
                                                              with_reducible rfl
                                                            rotate_left
                                                            · simp only [Act.put, List.setIfInBounds_toArray, List.set_cons_zero, List.set_cons_succ, i64_w, i32_w]
                                                              rfl
                                                            refine pure_ (i := 20) (N := some 78) (v := ?_) (a' := ?_) #[true, true, true, true, true, true, true, true, true, true, true, true, true, true, true, true, false, true, false, false, true, false, false, false, false, false, false, false, false, false] rfl rfl (any_of HT_.out (by kernel_rfl)) (fun _ _ _ h => h) (Or.inl ⟨by rfl, ?_⟩) ?_ ?_
                                                            rotate_left
                                                            · intro w'
                                                              go_simp
                                                              with_reducible rfl
                                                            rotate_left
                                                            · simp only [Act.put, List.setIfInBounds_toArray, List.set_cons_zero, List.set_cons_succ, i64_w, i32_w]
                                                              rfl
                                                            refine pure_ (i := 21) (N := some 79) (v := ?_) (a' := ?_) #[true, true, true, true, true, true, true, true, true, true, true, true, true, true, true, true, false, true, false, false, true, true, false, false, false, false, false, false, false, false] rfl rfl (any_of HT_.out (by kernel_rfl)) (fun _ _ _ h => h) (Or.inl ⟨by rfl, ?_⟩) ?_ ?_
                                                            rotate_left
                                                            · intro w'
                                                              go_simp
                                                              with_reducible rfl
                                                            rotate_left
                                                            · simp only [Act.put, List.setIfInBounds_toArray, List.set_cons_zero, List.set_cons_succ, i64_w, i32_w]
                                                              rfl
                                                            refine pure_ (i := 22) (N := some 80) (v := ?_) (a' := ?_) #[true, true, true, true, true, true, true, true, true, true, true, true, true, true, true, true, false, true, false, false, true, true, true, false, false, false, false, false, false, false] rfl rfl (any_of HT_.out (by kernel_rfl)) (fun _ _ _ h => h) (Or.inl ⟨by rfl, ?_⟩) ?_ ?_
                                                            rotate_left
                                                            · intro w'
                                                              go_simp
                                                              with_reducible rfl
                                                            rotate_left
                                                            · simp only [Act.put, List.setIfInBounds_toArray, List.set_cons_zero, List.set_cons_succ, i64_w, i32_w]
                                                              rfl
                                                            refine pure_ (i := 23) (N := some 81) (v := ?_) (a' := ?_) #[true, true, true, true, true, true, true, true, true, true, true, true, true, true, true, true, false, true, false, false, true, true, true, true, false, false, false, false, false, false] rfl rfl (any_of HT_.out (by kernel_rfl)) (fun _ _ _ h => h) (Or.inl ⟨by rfl, ?_⟩) ?_ ?_
                                                            rotate_left
                                                            · intro w'
                                                              go_simp
                                                              with_reducible rfl
                                                            rotate_left
                                                            · simp only [Act.put, List.setIfInBounds_toArray, List.set_cons_zero, List.set_cons_succ, i64_w, i32_w]
                                                              rfl
                                                            refine pure_ (i := 25) (N := some 83) (v := ?_) (a' := ?_) #[true, true, true, true, true, true, true, true, true, true, true, true, true, true, true, true, false, true, false, false, true, true, true, true, false, true, false, false, false, false] rfl rfl (any_of HT_.out (by kernel_rfl)) (fun _ _ _ h => h) (Or.inl ⟨by rfl, ?_⟩) ?_ ?_
                                                            rotate_left
                                                            · intro w'
                                                              go_simp
                                                              with_reducible rfl
                                                            rotate_left
                                                            · simp only [Act.put, List.setIfInBounds_toArray, List.set_cons_zero, List.set_cons_succ, i64_w, i32_w]
                                                              rfl
                                                            refine take_ (i := 16) (N := some 74) (v := ?_) (a' := ?_) #[true, true, true, true, true, true, true, true, true, true, true, true, true, true, true, true, true, true, false, false, true, true, true, true, false, true, false, false, false, false] rfl rfl (take_ofW HT_.out HW_.out (by kernel_rfl)) (fun _ _ _ h => h) (Or.inl ⟨by rfl, ?_⟩) hHeld ?_ ?_
                                                            rotate_left
                                                            · rintro w' ⟨s0, s1, s2, s3, s4, s5, s6, s7, s8, s9⟩
                                                              go_simp
                                                              with_reducible rfl
                                                            rotate_left
                                                            · simp only [Act.put, List.setIfInBounds_toArray, List.set_cons_zero, List.set_cons_succ, i64_w, i32_w]
                                                              rfl
                                                            refine pure_ (i := 18) (N := some 76) (v := ?_) (a' := ?_) #[true, true, true, true, true, true, true, true, true, true, true, true, true, true, true, true, true, true, true, false, true, true, true, true, false, true, false, false, false, false] rfl rfl (any_of HT_.out (by kernel_rfl)) (fun _ _ _ h => h) (Or.inl ⟨by rfl, ?_⟩) ?_ ?_
                                                            rotate_left
                                                            · intro w'
                                                              go_simp
                                                              with_reducible rfl
                                                            rotate_left
                                                            · simp only [Act.put, List.setIfInBounds_toArray, List.set_cons_zero, List.set_cons_succ, i64_w, i32_w]
                                                              rfl
                                                            refine take_ (i := 19) (N := some 77) (v := ?_) (a' := ?_) #[true, true, true, true, true, true, true, true, true, true, true, true, true, true, true, true, true, true, true, true, true, true, true, true, false, true, false, false, false, false] rfl rfl (take_ofW HT_.out HW_.out (by kernel_rfl)) (fun _ _ _ h => h) (Or.inl ⟨by rfl, ?_⟩) hHeld ?_ ?_
                                                            rotate_left
                                                            · rintro w' ⟨s0, s1, s2, s3, s4, s5, s6, s7, s8, s9⟩
                                                              go_simp
                                                              with_reducible rfl
                                                            rotate_left
                                                            · simp only [Act.put, List.setIfInBounds_toArray, List.set_cons_zero, List.set_cons_succ, i64_w, i32_w]
                                                              rfl
                                                            refine take_ (i := 24) (N := some 82) (v := ?_) (a' := ?_) #[true, true, true, true, true, true, true, true, true, true, true, true, true, true, true, true, true, true, true, true, true, true, true, true, true, true, false, false, false, false] rfl rfl (take_ofW HT_.out HW_.out (by kernel_rfl)) (fun _ _ _ h => h) (Or.inl ⟨by rfl, ?_⟩) hHeld ?_ ?_
                                                            rotate_left
                                                            · rintro w' ⟨s0, s1, s2, s3, s4, s5, s6, s7, s8, s9⟩
                                                              go_simp
                                                              with_reducible rfl
                                                            rotate_left
                                                            · simp only [Act.put, List.setIfInBounds_toArray, List.set_cons_zero, List.set_cons_succ, i64_w, i32_w]
                                                              rfl
                                                            refine pure_ (i := 26) (N := some 84) (v := ?_) (a' := ?_) #[true, true, true, true, true, true, true, true, true, true, true, true, true, true, true, true, true, true, true, true, true, true, true, true, true, true, true, false, false, false] rfl rfl (any_of HT_.out (by kernel_rfl)) (fun _ _ _ h => h) (Or.inl ⟨by rfl, ?_⟩) ?_ ?_
                                                            rotate_left
                                                            · intro w'
                                                              go_simp
                                                              with_reducible rfl
                                                            rotate_left
                                                            · simp only [Act.put, List.setIfInBounds_toArray, List.set_cons_zero, List.set_cons_succ, i64_w, i32_w]
                                                              rfl
                                                            refine take_ (i := 27) (N := some 85) (v := ?_) (a' := ?_) #[true, true, true, true, true, true, true, true, true, true, true, true, true, true, true, true, true, true, true, true, true, true, true, true, true, true, true, true, false, false] rfl rfl (take_ofW HT_.out HW_.out (by kernel_rfl)) (fun _ _ _ h => h) (Or.inl ⟨by rfl, ?_⟩) hHeld ?_ ?_
                                                            rotate_left
                                                            · rintro w' ⟨s0, s1, s2, s3, s4, s5, s6, s7, s8, s9⟩
                                                              go_simp
                                                              with_reducible rfl
                                                            rotate_left
                                                            · simp only [Act.put, List.setIfInBounds_toArray, List.set_cons_zero, List.set_cons_succ, i64_w, i32_w]
                                                              rfl
                                                            refine pure_ (i := 28) (N := some 86) (v := ?_) (a' := ?_) #[true, true, true, true, true, true, true, true, true, true, true, true, true, true, true, true, true, true, true, true, true, true, true, true, true, true, true, true, true, false] rfl rfl (any_of HT_.out (by kernel_rfl)) (fun _ _ _ h => h) (Or.inl ⟨by rfl, ?_⟩) ?_ ?_
                                                            rotate_left
                                                            · intro w'
                                                              go_simp
                                                              with_reducible rfl
                                                            rotate_left
                                                            · simp only [Act.put, List.setIfInBounds_toArray, List.set_cons_zero, List.set_cons_succ, i64_w, i32_w]
                                                              rfl
                                                            refine pure_ (i := 29) (N := some 87) (v := ?_) (a' := ?_) #[true, true, true, true, true, true, true, true, true, true, true, true, true, true, true, true, true, true, true, true, true, true, true, true, true, true, true, true, true, true] rfl rfl (any_of HT_.out (by kernel_rfl)) (fun _ _ _ h => h) (Or.inl ⟨by rfl, ?_⟩) ?_ ?_
                                                            rotate_left
                                                            · intro w'
                                                              go_simp
                                                              with_reducible rfl
                                                            rotate_left
                                                            · simp only [Act.put, List.setIfInBounds_toArray, List.set_cons_zero, List.set_cons_succ, i64_w, i32_w]
                                                              rfl
                                                            refine done_ (done_of HT_.out (by kernel_rfl)) ?_
                                                            try go_wp2
                                                            have n0_ := Aside0.mk (blk_drew BK408.out)
                                                            have n1_ := Aside0.mk (below_drew1 HB.out)
                                                            clear BK408
                                                            clear HB
                                                            have BK408 := n0_
                                                            have HB := n1_
                                                            clear n0_ n1_
                                                            have p421 : 0 ≤ (x6_3 : Int) := of_decide_eq_true (by first | (with_reducible assumption) | assumption)
                                                            have q421 : x6_3 < (l0.length : Int) := of_decide_eq_true (by first | (with_reducible assumption) | assumption)
                                                            obtain ⟨ad421, A421_1, c421_1, e421, hx421_0, hx421_1, hl421_1, hi421_1⟩ := at_T34 HR0.out x6_3 p421 q421
                                                            have hw421_1 := hx421_1
                                                            have hw421_0 := hx421_0
                                                            obtain rfl : ad413 = ad421 := (by injection e421)
                                                            replace hx421_0 := (HB.out.cell (World.block_lt_of_cell? w _ hx421_0)).trans hx421_0
                                                            replace hx421_1 := (HB.out.cell (World.block_lt_of_cell? w _ hx421_1)).trans hx421_1
                                                            have HR421_1 := Aside0.mk hi421_1
                                                            have HC421_1 := Aside0.mk hl421_1
                                                            clear hi421_1 hl421_1
                                                            replace p421 := eq_true p421
                                                            replace q421 := eq_true q421
                                                            have p422 : 0 ≤ (x6_3 : Int) := of_decide_eq_true (by first | (with_reducible assumption) | assumption)
                                                            have q422 : x6_3 < (l0.length : Int) := of_decide_eq_true (by first | (with_reducible assumption) | assumption)
                                                            obtain ⟨ad422, A422_1, c422_1, e422, hx422_0, hx422_1, hl422_1, hi422_1⟩ := at_T34 HR0.out x6_3 p422 q422
                                                            have hw422_1 := hx422_1
                                                            have hw422_0 := hx422_0
                                                            obtain rfl : ad413 = ad422 := (by injection e422)
                                                            replace hx422_0 := (HB.out.cell (World.block_lt_of_cell? w _ hx422_0)).trans hx422_0
                                                            replace hx422_1 := (HB.out.cell (World.block_lt_of_cell? w _ hx422_1)).trans hx422_1
                                                            have HR422_1 := Aside0.mk hi422_1
                                                            have HC422_1 := Aside0.mk hl422_1
                                                            clear hi422_1 hl422_1
                                                            replace p422 := eq_true p422
                                                            replace q422 := eq_true q422
                                                            have ea_ := Option.some.inj (hx421_1.symm.trans hx422_1)
                                                            injection ea_ with ea_ en_ ec_
                                                            subst ea_
                                                            subst ec_
                                                            clear en_
                                                            have p423 : 0 ≤ (x7_4 : Int) := of_decide_eq_true (by first | (with_reducible assumption) | assumption)
                                                            have q423 : x7_4 < (((rd_T34 l0 x6_3).f1).length : Int) := of_decide_eq_true (by first | (with_reducible assumption) | assumption)
                                                            obtain ⟨ad423, e423, hx423_0⟩ := Kd.at_int HR422_1.out x7_4 p423 q423
                                                            have hw423_0 := hx423_0
                                                            cases e423
                                                            replace hx423_0 := (HB.out.cell (World.block_lt_of_cell? w _ hx423_0)).trans hx423_0
                                                            replace p423 := eq_true p423
                                                            replace q423 := eq_true q423
                                                            refine start_ (n := 17) (S := fun w' => w'.cell? (ad413.add ((x6_3).toNat * 2)) = some (.int .i64 ((rd_T34 l0 x6_3).f0)) ∧ w'.cell? ⟨(ad413.add ((x6_3).toNat * 2)).block, (ad413.add ((x6_3).toNat * 2)).off + 1, none⟩ = some (.slice (some ad423) ((rd_T34 l0 x6_3).f1).length c421_1) ∧ w'.cell? (ad413.add ((x6_3).toNat * 2)) = some (.int .i64 ((rd_T34 l0 x6_3).f0)) ∧ w'.cell? ⟨(ad413.add ((x6_3).toNat * 2)).block, (ad413.add ((x6_3).toNat * 2)).off + 1, none⟩ = some (.slice (some ad423) ((rd_T34 l0 x6_3).f1).length c421_1) ∧ w'.cell? (ad423.add (x7_4).toNat) = some (.int .i64 (rd ((rd_T34 l0 x6_3).f1) x7_4))) (ds := []) #[false, false, false, false, false, false, false, false, false, false, false, false, false, false, false, false, false] (by kernel_rfl) rfl rfl ⟨((HB.out.cell (World.block_lt_of_cell? w _ hw421_0)).trans hw421_0), ((HB.out.cell (World.block_lt_of_cell? w _ hw421_1)).trans hw421_1), ((HB.out.cell (World.block_lt_of_cell? w _ hw422_0)).trans hw422_0), ((HB.out.cell (World.block_lt_of_cell? w _ hw422_1)).trans hw422_1), ((HB.out.cell (World.block_lt_of_cell? w _ hw423_0)).trans hw423_0)⟩ (fun hHeld => ?_); refine with_tabW continuoref25_Agree.tab18 continuoref25_Agree.bits18 (fun HT_ HW_ => ?_)
                                                            generalize w31.drew = w32 at BK408 HB HR421_1 HR422_1 hx421_0 hx421_1 hx422_0 hx422_1 hx423_0 hHeld ⊢
                                                            refine pure_ (i := 0) (N := some 88) (v := ?_) (a' := ?_) #[true, false, false, false, false, false, false, false, false, false, false, false, false, false, false, false, false] rfl rfl (any_of HT_.out (by kernel_rfl)) (fun _ _ _ h => h) (Or.inl ⟨by rfl, ?_⟩) ?_ ?_
                                                            rotate_left
                                                            · intro w'
                                                              go_simp
                                                              with_reducible rfl
                                                            rotate_left
                                                            · simp only [Act.put, List.setIfInBounds_toArray, List.set_cons_zero, List.set_cons_succ, i64_w, i32_w]
                                                              rfl
                                                            refine pure_ (i := 1) (N := some 89) (v := ?_) (a' := ?_) #[true, true, false, false, false, false, false, false, false, false, false, false, false, false, false, false, false] rfl rfl (any_of HT_.out (by kernel_rfl)) (fun _ _ _ h => h) (Or.inl ⟨by rfl, ?_⟩) ?_ ?_
                                                            rotate_left
                                                            · intro w'
                                                              go_simp
                                                              with_reducible rfl
                                                            rotate_left
                                                            · simp only [Act.put, List.setIfInBounds_toArray, List.set_cons_zero, List.set_cons_succ, i64_w, i32_w]
                                                              rfl
                                                            refine pure_ (i := 2) (N := some 90) (v := ?_) (a' := ?_) #[true, true, true, false, false, false, false, false, false, false, false, false, false, false, false, false, false] rfl rfl (any_of HT_.out (by kernel_rfl)) (fun _ _ _ h => h) (Or.inl ⟨by rfl, ?_⟩) ?_ ?_
                                                            rotate_left
                                                            · intro w'
                                                              go_simp
                                                              with_reducible rfl
                                                            rotate_left
                                                            · simp only [Act.put, List.setIfInBounds_toArray, List.set_cons_zero, List.set_cons_succ, i64_w, i32_w]
                                                              rfl
                                                            refine pure_ (i := 3) (N := some 91) (v := ?_) (a' := ?_) #[true, true, true, true, false, false, false, false, false, false, false, false, false, false, false, false, false] rfl rfl (any_of HT_.out (by kernel_rfl)) (fun _ _ _ h => h) (Or.inl ⟨by rfl, ?_⟩) ?_ ?_
                                                            rotate_left
                                                            · intro w'
                                                              go_simp
                                                              with_reducible rfl
                                                            rotate_left
                                                            · simp only [Act.put, List.setIfInBounds_toArray, List.set_cons_zero, List.set_cons_succ, i64_w, i32_w]
                                                              rfl
                                                            refine pure_ (i := 5) (N := some 93) (v := ?_) (a' := ?_) #[true, true, true, true, false, true, false, false, false, false, false, false, false, false, false, false, false] rfl rfl (any_of HT_.out (by kernel_rfl)) (fun _ _ _ h => h) (Or.inl ⟨by rfl, ?_⟩) ?_ ?_
                                                            rotate_left
                                                            · intro w'
                                                              go_simp
                                                              with_reducible rfl
                                                            rotate_left
                                                            · simp only [Act.put, List.setIfInBounds_toArray, List.set_cons_zero, List.set_cons_succ, i64_w, i32_w]
                                                              rfl
                                                            refine pure_ (i := 6) (N := some 94) (v := ?_) (a' := ?_) #[true, true, true, true, false, true, true, false, false, false, false, false, false, false, false, false, false] rfl rfl (any_of HT_.out (by kernel_rfl)) (fun _ _ _ h => h) (Or.inl ⟨by rfl, ?_⟩) ?_ ?_
                                                            rotate_left
                                                            · intro w'
                                                              go_simp
                                                              with_reducible rfl
                                                            rotate_left
                                                            · simp only [Act.put, List.setIfInBounds_toArray, List.set_cons_zero, List.set_cons_succ, i64_w, i32_w]
                                                              rfl
                                                            refine pure_ (i := 7) (N := some 95) (v := ?_) (a' := ?_) #[true, true, true, true, false, true, true, true, false, false, false, false, false, false, false, false, false] rfl rfl (any_of HT_.out (by kernel_rfl)) (fun _ _ _ h => h) (Or.inl ⟨by rfl, ?_⟩) ?_ ?_
                                                            rotate_left
                                                            · intro w'
                                                              go_simp
                                                              with_reducible rfl
                                                            rotate_left
                                                            · simp only [Act.put, List.setIfInBounds_toArray, List.set_cons_zero, List.set_cons_succ, i64_w, i32_w]
                                                              rfl
                                                            refine pure_ (i := 8) (N := some 96) (v := ?_) (a' := ?_) #[true, true, true, true, false, true, true, true, true, false, false, false, false, false, false, false, false] rfl rfl (any_of HT_.out (by kernel_rfl)) (fun _ _ _ h => h) (Or.inl ⟨by rfl, ?_⟩) ?_ ?_
                                                            rotate_left
                                                            · intro w'
                                                              go_simp
                                                              with_reducible rfl
                                                            rotate_left
                                                            · simp only [Act.put, List.setIfInBounds_toArray, List.set_cons_zero, List.set_cons_succ, i64_w, i32_w]
                                                              rfl
                                                            refine pure_ (i := 10) (N := some 98) (v := ?_) (a' := ?_) #[true, true, true, true, false, true, true, true, true, false, true, false, false, false, false, false, false] rfl rfl (any_of HT_.out (by kernel_rfl)) (fun _ _ _ h => h) (Or.inl ⟨by rfl, ?_⟩) ?_ ?_
                                                            rotate_left
                                                            · intro w'
                                                              go_simp
                                                              with_reducible rfl
                                                            rotate_left
                                                            · simp only [Act.put, List.setIfInBounds_toArray, List.set_cons_zero, List.set_cons_succ, i64_w, i32_w]
                                                              rfl
                                                            refine take_ (i := 4) (N := some 92) (v := ?_) (a' := ?_) #[true, true, true, true, true, true, true, true, true, false, true, false, false, false, false, false, false] rfl rfl (take_ofW HT_.out HW_.out (by kernel_rfl)) (fun _ _ _ h => h) (Or.inl ⟨by rfl, ?_⟩) hHeld ?_ ?_
                                                            rotate_left
                                                            · rintro w' ⟨s0, s1, s2, s3, s4⟩
                                                              go_simp
                                                              with_reducible rfl
                                                            rotate_left
                                                            · simp only [Act.put, List.setIfInBounds_toArray, List.set_cons_zero, List.set_cons_succ, i64_w, i32_w]
                                                              rfl
                                                            refine take_ (i := 9) (N := some 97) (v := ?_) (a' := ?_) #[true, true, true, true, true, true, true, true, true, true, true, false, false, false, false, false, false] rfl rfl (take_ofW HT_.out HW_.out (by kernel_rfl)) (fun _ _ _ h => h) (Or.inl ⟨by rfl, ?_⟩) hHeld ?_ ?_
                                                            rotate_left
                                                            · rintro w' ⟨s0, s1, s2, s3, s4⟩
                                                              go_simp
                                                              with_reducible rfl
                                                            rotate_left
                                                            · simp only [Act.put, List.setIfInBounds_toArray, List.set_cons_zero, List.set_cons_succ, i64_w, i32_w]
                                                              rfl
                                                            refine pure_ (i := 11) (N := some 99) (v := ?_) (a' := ?_) #[true, true, true, true, true, true, true, true, true, true, true, true, false, false, false, false, false] rfl rfl (any_of HT_.out (by kernel_rfl)) (fun _ _ _ h => h) (Or.inl ⟨by rfl, ?_⟩) ?_ ?_
                                                            rotate_left
                                                            · intro w'
                                                              go_simp
                                                              with_reducible rfl
                                                            rotate_left
                                                            · simp only [Act.put, List.setIfInBounds_toArray, List.set_cons_zero, List.set_cons_succ, i64_w, i32_w]
                                                              rfl
                                                            refine take_ (i := 12) (N := some 100) (v := ?_) (a' := ?_) #[true, true, true, true, true, true, true, true, true, true, true, true, true, false, false, false, false] rfl rfl (take_ofW HT_.out HW_.out (by kernel_rfl)) (fun _ _ _ h => h) (Or.inl ⟨by rfl, ?_⟩) hHeld ?_ ?_
                                                            rotate_left
                                                            · rintro w' ⟨s0, s1, s2, s3, s4⟩
                                                              go_simp
                                                              with_reducible rfl
                                                            rotate_left
                                                            · simp only [Act.put, List.setIfInBounds_toArray, List.set_cons_zero, List.set_cons_succ, i64_w, i32_w]
                                                              rfl
                                                            refine one_ (i := 13) (N := some 101) #[true, true, true, true, true, true, true, true, true, true, true, true, true, true, false, false, false] rfl rfl (one_of HT_.out (by kernel_rfl)) (by decide) (fun K hK => ?_)
                                                            refine Kd.R_lit_step (Kd.int .i64) _ 3 ?hg (N := 101) ?hd (xs := ([rd ((rd_T34 l0 x6_3).f1) x7_4] : List Int)) (inner := [.int .i64 (rd ((rd_T34 l0 x6_3).f1) x7_4)]) (ok := fun _ => True) (okp := fun _ => True) ?hr ?hp (fun _ hk => hk) trivial (Below.refl _ _) (Nat.le_refl _) (by simp) ?_; (case hd => rfl); (case hg => rfl); (case hr => first | (go_simp; done) | (go_simp; rfl)); (case hp => exact (Reps.one (show Kd.M (Kd.int .i64) _ _ _ (rd ((rd_T34 l0 x6_3).f1) x7_4) [.int .i64 (rd ((rd_T34 l0 x6_3).f1) x7_4)] from rfl) (Reps.none _ _)))
                                                            intro v425 w33 ho34 hb hg_ hnew_
                                                            clear hg_ hnew_
                                                            (first | rw [← Ny424.out] at ho34 | (simp only [Int.reduceToNat] at ho34; rw [← Ny424.out] at ho34))
                                                            have n0_ := Aside0.mk (Kd.R_lower ho34 (below_size (by repeat (first | (with_reducible first | exact HB.out | apply below_alloc | apply pw_below_drewN | apply below_drew1 | refine below_set ?_ GE408.out) | exact HB.out))))
                                                            have n1_ := Aside0.mk (blk_below (g := gb408) (o := .cells #[.int .i64 x409000_6, .slice none 0 0] 34 (0, 0)) (by (with_reducible repeat (first | refine blk_drewN ?_ _ | refine blk_drew ?_ | refine blk_alloc ?_ _)); exact BK408.out) hb)
                                                            have n2_ := Aside0.mk (below_step (by repeat (first | (with_reducible first | exact HB.out | apply below_alloc | apply pw_below_drewN | apply below_drew1 | refine below_set ?_ GE408.out) | exact HB.out)) hb)
                                                            clear BK408
                                                            clear HB
                                                            have HO426 := n0_
                                                            have BK408 := n1_
                                                            have HB := n2_
                                                            clear n0_ n1_ n2_
                                                            clear hb ho34
                                                            obtain ⟨Ao35, co35, eo35⟩ := Kd.R_slice HO426.out
                                                            (first | subst eo35 | (injection eo35 with f1_ f2_ f3_; have f4_ := f1_.symm; have f5_ := f3_.symm; clear f1_ f2_ f3_; subst f4_; subst f5_))
                                                            refine hK.out _ _ ⟨((HB.out.cell (World.block_lt_of_cell? w _ hw421_0)).trans hw421_0), ((HB.out.cell (World.block_lt_of_cell? w _ hw421_1)).trans hw421_1), ((HB.out.cell (World.block_lt_of_cell? w _ hw422_0)).trans hw422_0), ((HB.out.cell (World.block_lt_of_cell? w _ hw422_1)).trans hw422_1), ((HB.out.cell (World.block_lt_of_cell? w _ hw423_0)).trans hw423_0)⟩ (fun hHeld => ?_)
                                                            clear hK K
                                                            refine norm_ (a' := ?_) ?_ ?_
                                                            rotate_left
                                                            · show Act.put _ (some 101) _ = _
                                                              simp only [Act.put, List.setIfInBounds_toArray, List.set_cons_zero, List.set_cons_succ, i64_w, i32_w]
                                                              rfl
                                                            refine pure_ (i := 14) (N := some 102) (v := ?_) (a' := ?_) #[true, true, true, true, true, true, true, true, true, true, true, true, true, true, true, false, false] rfl rfl (any_of HT_.out (by kernel_rfl)) (fun _ _ _ h => h) (Or.inl ⟨by rfl, ?_⟩) ?_ ?_
                                                            rotate_left
                                                            · intro w'
                                                              go_simp
                                                              with_reducible rfl
                                                            rotate_left
                                                            · simp only [Act.put, List.setIfInBounds_toArray, List.set_cons_zero, List.set_cons_succ, i64_w, i32_w]
                                                              rfl
                                                            refine one_ (i := 15) (N := none) #[true, true, true, true, true, true, true, true, true, true, true, true, true, true, true, true, false] rfl rfl (one_of HT_.out (by kernel_rfl)) (by decide) (fun K hK => ?_)
                                                            have hs36 : w33.cell? ⟨gb408, 0, none⟩ = some (.int .i64 x409000_6) := (blk_cell BK408.out 0).trans rfl
                                                            have hfs36 := blk_frozen BK408.out 0
                                                            have hs37 : w33.cell? ⟨gb408, 1, none⟩ = some (.slice none 0 0) := (blk_cell BK408.out 1).trans rfl
                                                            have hfs37 := blk_frozen BK408.out 1
                                                            refine skip_ (w1 := ?_) (by rfl) rfl ?_ ?_
                                                            rotate_left
                                                            · go_simp
                                                              rfl
                                                            refine hK.out _ _ ⟨((cell_far (p := ⟨gb408, _, none⟩) (by first | exact Nat.ne_of_lt (Nat.lt_of_lt_of_le (by have := World.block_lt_of_cell? _ _ hw421_0; first | rwa [add_block] at this | exact this) GW408.out) | (rw [add_block]; exact Nat.ne_of_lt (Nat.lt_of_lt_of_le (by have := World.block_lt_of_cell? _ _ hw421_0; first | rwa [add_block] at this | exact this) GW408.out)) | (show (Addr.add _ _).block ≠ _; rw [add_block]; exact Nat.ne_of_lt (Nat.lt_of_lt_of_le (by have := World.block_lt_of_cell? _ _ hw421_0; first | rwa [add_block] at this | exact this) GW408.out)) | (dsimp only; exact Nat.ne_of_lt (Nat.lt_of_lt_of_le (by have := World.block_lt_of_cell? _ _ hw421_0; first | rwa [add_block] at this | exact this) GW408.out))) _).trans (((cell_far (p := ⟨gb408, _, none⟩) (by first | exact Nat.ne_of_lt (Nat.lt_of_lt_of_le (by have := World.block_lt_of_cell? _ _ hw421_0; first | rwa [add_block] at this | exact this) GW408.out) | (rw [add_block]; exact Nat.ne_of_lt (Nat.lt_of_lt_of_le (by have := World.block_lt_of_cell? _ _ hw421_0; first | rwa [add_block] at this | exact this) GW408.out)) | (show (Addr.add _ _).block ≠ _; rw [add_block]; exact Nat.ne_of_lt (Nat.lt_of_lt_of_le (by have := World.block_lt_of_cell? _ _ hw421_0; first | rwa [add_block] at this | exact this) GW408.out)) | (dsimp only; exact Nat.ne_of_lt (Nat.lt_of_lt_of_le (by have := World.block_lt_of_cell? _ _ hw421_0; first | rwa [add_block] at this | exact this) GW408.out))) _).trans (hHeld.1)))), ((cell_far (p := ⟨gb408, _, none⟩) (by first | exact Nat.ne_of_lt (Nat.lt_of_lt_of_le (by have := World.block_lt_of_cell? _ _ hw421_1; first | rwa [add_block] at this | exact this) GW408.out) | (rw [add_block]; exact Nat.ne_of_lt (Nat.lt_of_lt_of_le (by have := World.block_lt_of_cell? _ _ hw421_1; first | rwa [add_block] at this | exact this) GW408.out)) | (show (Addr.add _ _).block ≠ _; rw [add_block]; exact Nat.ne_of_lt (Nat.lt_of_lt_of_le (by have := World.block_lt_of_cell? _ _ hw421_1; first | rwa [add_block] at this | exact this) GW408.out)) | (dsimp only; exact Nat.ne_of_lt (Nat.lt_of_lt_of_le (by have := World.block_lt_of_cell? _ _ hw421_1; first | rwa [add_block] at this | exact this) GW408.out))) _).trans (((cell_far (p := ⟨gb408, _, none⟩) (by first | exact Nat.ne_of_lt (Nat.lt_of_lt_of_le (by have := World.block_lt_of_cell? _ _ hw421_1; first | rwa [add_block] at this | exact this) GW408.out) | (rw [add_block]; exact Nat.ne_of_lt (Nat.lt_of_lt_of_le (by have := World.block_lt_of_cell? _ _ hw421_1; first | rwa [add_block] at this | exact this) GW408.out)) | (show (Addr.add _ _).block ≠ _; rw [add_block]; exact Nat.ne_of_lt (Nat.lt_of_lt_of_le (by have := World.block_lt_of_cell? _ _ hw421_1; first | rwa [add_block] at this | exact this) GW408.out)) | (dsimp only; exact Nat.ne_of_lt (Nat.lt_of_lt_of_le (by have := World.block_lt_of_cell? _ _ hw421_1; first | rwa [add_block] at this | exact this) GW408.out))) _).trans (hHeld.2.1)))), ((cell_far (p := ⟨gb408, _, none⟩) (by first | exact Nat.ne_of_lt (Nat.lt_of_lt_of_le (by have := World.block_lt_of_cell? _ _ hw422_0; first | rwa [add_block] at this | exact this) GW408.out) | (rw [add_block]; exact Nat.ne_of_lt (Nat.lt_of_lt_of_le (by have := World.block_lt_of_cell? _ _ hw422_0; first | rwa [add_block] at this | exact this) GW408.out)) | (show (Addr.add _ _).block ≠ _; rw [add_block]; exact Nat.ne_of_lt (Nat.lt_of_lt_of_le (by have := World.block_lt_of_cell? _ _ hw422_0; first | rwa [add_block] at this | exact this) GW408.out)) | (dsimp only; exact Nat.ne_of_lt (Nat.lt_of_lt_of_le (by have := World.block_lt_of_cell? _ _ hw422_0; first | rwa [add_block] at this | exact this) GW408.out))) _).trans (((cell_far (p := ⟨gb408, _, none⟩) (by first | exact Nat.ne_of_lt (Nat.lt_of_lt_of_le (by have := World.block_lt_of_cell? _ _ hw422_0; first | rwa [add_block] at this | exact this) GW408.out) | (rw [add_block]; exact Nat.ne_of_lt (Nat.lt_of_lt_of_le (by have := World.block_lt_of_cell? _ _ hw422_0; first | rwa [add_block] at this | exact this) GW408.out)) | (show (Addr.add _ _).block ≠ _; rw [add_block]; exact Nat.ne_of_lt (Nat.lt_of_lt_of_le (by have := World.block_lt_of_cell? _ _ hw422_0; first | rwa [add_block] at this | exact this) GW408.out)) | (dsimp only; exact Nat.ne_of_lt (Nat.lt_of_lt_of_le (by have := World.block_lt_of_cell? _ _ hw422_0; first | rwa [add_block] at this | exact this) GW408.out))) _).trans (hHeld.2.2.1)))), ((cell_far (p := ⟨gb408, _, none⟩) (by first | exact Nat.ne_of_lt (Nat.lt_of_lt_of_le (by have := World.block_lt_of_cell? _ _ hw422_1; first | rwa [add_block] at this | exact this) GW408.out) | (rw [add_block]; exact Nat.ne_of_lt (Nat.lt_of_lt_of_le (by have := World.block_lt_of_cell? _ _ hw422_1; first | rwa [add_block] at this | exact this) GW408.out)) | (show (Addr.add _ _).block ≠ _; rw [add_block]; exact Nat.ne_of_lt (Nat.lt_of_lt_of_le (by have := World.block_lt_of_cell? _ _ hw422_1; first | rwa [add_block] at this | exact this) GW408.out)) | (dsimp only; exact Nat.ne_of_lt (Nat.lt_of_lt_of_le (by have := World.block_lt_of_cell? _ _ hw422_1; first | rwa [add_block] at this | exact this) GW408.out))) _).trans (((cell_far (p := ⟨gb408, _, none⟩) (by first | exact Nat.ne_of_lt (Nat.lt_of_lt_of_le (by have := World.block_lt_of_cell? _ _ hw422_1; first | rwa [add_block] at this | exact this) GW408.out) | (rw [add_block]; exact Nat.ne_of_lt (Nat.lt_of_lt_of_le (by have := World.block_lt_of_cell? _ _ hw422_1; first | rwa [add_block] at this | exact this) GW408.out)) | (show (Addr.add _ _).block ≠ _; rw [add_block]; exact Nat.ne_of_lt (Nat.lt_of_lt_of_le (by have := World.block_lt_of_cell? _ _ hw422_1; first | rwa [add_block] at this | exact this) GW408.out)) | (dsimp only; exact Nat.ne_of_lt (Nat.lt_of_lt_of_le (by have := World.block_lt_of_cell? _ _ hw422_1; first | rwa [add_block] at this | exact this) GW408.out))) _).trans (hHeld.2.2.2.1)))), ((cell_far (p := ⟨gb408, _, none⟩) (by first | exact Nat.ne_of_lt (Nat.lt_of_lt_of_le (by have := World.block_lt_of_cell? _ _ hw423_0; first | rwa [add_block] at this | exact this) GW408.out) | (rw [add_block]; exact Nat.ne_of_lt (Nat.lt_of_lt_of_le (by have := World.block_lt_of_cell? _ _ hw423_0; first | rwa [add_block] at this | exact this) GW408.out)) | (show (Addr.add _ _).block ≠ _; rw [add_block]; exact Nat.ne_of_lt (Nat.lt_of_lt_of_le (by have := World.block_lt_of_cell? _ _ hw423_0; first | rwa [add_block] at this | exact this) GW408.out)) | (dsimp only; exact Nat.ne_of_lt (Nat.lt_of_lt_of_le (by have := World.block_lt_of_cell? _ _ hw423_0; first | rwa [add_block] at this | exact this) GW408.out))) _).trans (((cell_far (p := ⟨gb408, _, none⟩) (by first | exact Nat.ne_of_lt (Nat.lt_of_lt_of_le (by have := World.block_lt_of_cell? _ _ hw423_0; first | rwa [add_block] at this | exact this) GW408.out) | (rw [add_block]; exact Nat.ne_of_lt (Nat.lt_of_lt_of_le (by have := World.block_lt_of_cell? _ _ hw423_0; first | rwa [add_block] at this | exact this) GW408.out)) | (show (Addr.add _ _).block ≠ _; rw [add_block]; exact Nat.ne_of_lt (Nat.lt_of_lt_of_le (by have := World.block_lt_of_cell? _ _ hw423_0; first | rwa [add_block] at this | exact this) GW408.out)) | (dsimp only; exact Nat.ne_of_lt (Nat.lt_of_lt_of_le (by have := World.block_lt_of_cell? _ _ hw423_0; first | rwa [add_block] at this | exact this) GW408.out))) _).trans (hHeld.2.2.2.2))))⟩ (fun hHeld => ?_)
                                                            clear hK K
                                                            refine pure_ (i := 16) (N := some 5) (v := ?_) (a' := ?_) #[true, true, true, true, true, true, true, true, true, true, true, true, true, true, true, true, true] rfl rfl (any_of HT_.out (by kernel_rfl)) (fun _ _ _ h => h) (Or.inl ⟨by rfl, ?_⟩) ?_ ?_
                                                            rotate_left
                                                            · intro w'
                                                              go_simp
                                                              with_reducible rfl
                                                            rotate_left
                                                            · simp only [Act.put, List.setIfInBounds_toArray, List.set_cons_zero, List.set_cons_succ, i64_w, i32_w]
                                                              rfl
                                                            refine done_ (done_of HT_.out (by kernel_rfl)) ?_
                                                            try go_wp2
                                                            refine bodyPost_ret (results_ct rfl _ _ gb408 34 #[.int .i64 ((rd_T34 l0 x6_3).f0), .slice Ao35 y424.length co35] (0, 0) _ rfl (by (with_reducible repeat (first | refine blk_drewN ?_ _ | refine blk_drew ?_ | refine blk_alloc ?_ _)); refine blk_put (cs := #[.int .i64 ((rd_T34 l0 x6_3).f0), .slice none 0 0]) ?_ 1 _ rfl; (with_reducible repeat (first | refine blk_drewN ?_ _ | refine blk_drew ?_ | refine blk_alloc ?_ _)); refine blk_put (cs := #[.int .i64 x409000_6, .slice none 0 0]) ?_ 0 _ rfl; (with_reducible repeat (first | refine blk_drewN ?_ _ | refine blk_drew ?_ | refine blk_alloc ?_ _)); exact BK408.out) Try.underlying34 rfl (by kernel_rfl)) rfl ?_
                                                            exact ⟨_, by first | rfl | (simp [errW_none, errW_some] <;> rfl) | (simp [*, errW_none, errW_some] <;> rfl), by (with_reducible repeat (first | apply Kd.R_alloc | apply Kd.R_drewN | apply Kd.R_drew)); exact Kd.R_mono (Kd.R_far (p := ⟨gb408, 1, none⟩) (Kd.R_far (p := ⟨gb408, 0, none⟩) (Kd.R_types HO426.out BK408.out (by decide)) (fun _ hk => hk.2) (.int .i64 ((rd_T34 l0 x6_3).f0))) (fun _ hk => hk.2) (.slice Ao35 y424.length co35)) (fun _ hk => trivial), by repeat (first | (with_reducible first | exact HB.out | apply below_alloc | apply pw_below_drewN | apply below_drew1 | refine below_set ?_ GE408.out) | exact HB.out)⟩
                                                          · rw [if_neg c30] at H
                                                            have c30b0 : ((rd ((rd_T34 l1 x8_5).f1) x9_6) == (rd ((rd_T34 l0 x6_3).f1) x7_4)) = false := beq_eq_false_iff_ne.mpr c30
                                                            have c30b1 : ((rd ((rd_T34 l1 x8_5).f1) x9_6) != (rd ((rd_T34 l0 x6_3).f1) x7_4)) = true := bne_iff_ne.mpr c30
                                                            have H' := Aside0.mk H
                                                            clear H
                                                            have p414 : 0 ≤ (x8_5 : Int) := of_decide_eq_true (by first | (with_reducible assumption) | assumption)
                                                            have q414 : x8_5 < (l1.length : Int) := of_decide_eq_true (by first | (with_reducible assumption) | assumption)
                                                            obtain ⟨ad414, A414_1, c414_1, e414, hx414_0, hx414_1, hl414_1, hi414_1⟩ := at_T34 HR1.out x8_5 p414 q414
                                                            cases e414
                                                            replace hx414_0 := (HB.out.cell (World.block_lt_of_cell? w _ hx414_0)).trans hx414_0
                                                            replace hx414_1 := (HB.out.cell (World.block_lt_of_cell? w _ hx414_1)).trans hx414_1
                                                            have HR414_1 := Aside0.mk hi414_1
                                                            have HC414_1 := Aside0.mk hl414_1
                                                            clear hi414_1 hl414_1
                                                            replace p414 := eq_true p414
                                                            replace q414 := eq_true q414
                                                            try go_wp2
                                                            have n0_ := Aside0.mk (blk_drew BK408.out)
                                                            have n1_ := Aside0.mk (below_drew1 HB.out)
                                                            clear BK408
                                                            clear HB
                                                            have BK408 := n0_
                                                            have HB := n1_
                                                            clear n0_ n1_
                                                            have p415 : 0 ≤ (x8_5 : Int) := of_decide_eq_true (by first | (with_reducible assumption) | assumption)
                                                            have q415 : x8_5 < (l1.length : Int) := of_decide_eq_true (by first | (with_reducible assumption) | assumption)
                                                            obtain ⟨ad415, A415_1, c415_1, e415, hx415_0, hx415_1, hl415_1, hi415_1⟩ := at_T34 HR1.out x8_5 p415 q415
                                                            have hw415_1 := hx415_1
                                                            have hw415_0 := hx415_0
                                                            obtain rfl : ad414 = ad415 := (by injection e415)
                                                            replace hx415_0 := (HB.out.cell (World.block_lt_of_cell? w _ hx415_0)).trans hx415_0
                                                            replace hx415_1 := (HB.out.cell (World.block_lt_of_cell? w _ hx415_1)).trans hx415_1
                                                            have HR415_1 := Aside0.mk hi415_1
                                                            have HC415_1 := Aside0.mk hl415_1
                                                            clear hi415_1 hl415_1
                                                            replace p415 := eq_true p415
                                                            replace q415 := eq_true q415
                                                            have p416 : 0 ≤ (x6_3 : Int) := of_decide_eq_true (by first | (with_reducible assumption) | assumption)
                                                            have q416 : x6_3 < (l0.length : Int) := of_decide_eq_true (by first | (with_reducible assumption) | assumption)
                                                            obtain ⟨ad416, A416_1, c416_1, e416, hx416_0, hx416_1, hl416_1, hi416_1⟩ := at_T34 HR0.out x6_3 p416 q416
                                                            have hw416_1 := hx416_1
                                                            have hw416_0 := hx416_0
                                                            obtain rfl : ad413 = ad416 := (by injection e416)
                                                            replace hx416_0 := (HB.out.cell (World.block_lt_of_cell? w _ hx416_0)).trans hx416_0
                                                            replace hx416_1 := (HB.out.cell (World.block_lt_of_cell? w _ hx416_1)).trans hx416_1
                                                            have HR416_1 := Aside0.mk hi416_1
                                                            have HC416_1 := Aside0.mk hl416_1
                                                            clear hi416_1 hl416_1
                                                            replace p416 := eq_true p416
                                                            replace q416 := eq_true q416
                                                            have p417 : 0 ≤ (x8_5 : Int) := of_decide_eq_true (by first | (with_reducible assumption) | assumption)
                                                            have q417 : x8_5 < (l1.length : Int) := of_decide_eq_true (by first | (with_reducible assumption) | assumption)
                                                            obtain ⟨ad417, A417_1, c417_1, e417, hx417_0, hx417_1, hl417_1, hi417_1⟩ := at_T34 HR1.out x8_5 p417 q417
                                                            have hw417_1 := hx417_1
                                                            have hw417_0 := hx417_0
                                                            obtain rfl : ad414 = ad417 := (by injection e417)
                                                            replace hx417_0 := (HB.out.cell (World.block_lt_of_cell? w _ hx417_0)).trans hx417_0
                                                            replace hx417_1 := (HB.out.cell (World.block_lt_of_cell? w _ hx417_1)).trans hx417_1
                                                            have HR417_1 := Aside0.mk hi417_1
                                                            have HC417_1 := Aside0.mk hl417_1
                                                            clear hi417_1 hl417_1
                                                            replace p417 := eq_true p417
                                                            replace q417 := eq_true q417
                                                            have ea_ := Option.some.inj (hx415_1.symm.trans hx417_1)
                                                            injection ea_ with ea_ en_ ec_
                                                            subst ea_
                                                            subst ec_
                                                            clear en_
                                                            have p418 : 0 ≤ (x9_6 : Int) := of_decide_eq_true (by first | (with_reducible assumption) | assumption)
                                                            have q418 : x9_6 < (((rd_T34 l1 x8_5).f1).length : Int) := of_decide_eq_true (by first | (with_reducible assumption) | assumption)
                                                            obtain ⟨ad418, e418, hx418_0⟩ := Kd.at_int HR417_1.out x9_6 p418 q418
                                                            have hw418_0 := hx418_0
                                                            cases e418
                                                            replace hx418_0 := (HB.out.cell (World.block_lt_of_cell? w _ hx418_0)).trans hx418_0
                                                            replace p418 := eq_true p418
                                                            replace q418 := eq_true q418
                                                            have p419 : 0 ≤ (x6_3 : Int) := of_decide_eq_true (by first | (with_reducible assumption) | assumption)
                                                            have q419 : x6_3 < (l0.length : Int) := of_decide_eq_true (by first | (with_reducible assumption) | assumption)
                                                            obtain ⟨ad419, A419_1, c419_1, e419, hx419_0, hx419_1, hl419_1, hi419_1⟩ := at_T34 HR0.out x6_3 p419 q419
                                                            have hw419_1 := hx419_1
                                                            have hw419_0 := hx419_0
                                                            obtain rfl : ad413 = ad419 := (by injection e419)
                                                            replace hx419_0 := (HB.out.cell (World.block_lt_of_cell? w _ hx419_0)).trans hx419_0
                                                            replace hx419_1 := (HB.out.cell (World.block_lt_of_cell? w _ hx419_1)).trans hx419_1
                                                            have HR419_1 := Aside0.mk hi419_1
                                                            have HC419_1 := Aside0.mk hl419_1
                                                            clear hi419_1 hl419_1
                                                            replace p419 := eq_true p419
                                                            replace q419 := eq_true q419
                                                            have ea_ := Option.some.inj (hx416_1.symm.trans hx419_1)
                                                            injection ea_ with ea_ en_ ec_
                                                            subst ea_
                                                            subst ec_
                                                            clear en_
                                                            have p420 : 0 ≤ (x7_4 : Int) := of_decide_eq_true (by first | (with_reducible assumption) | assumption)
                                                            have q420 : x7_4 < (((rd_T34 l0 x6_3).f1).length : Int) := of_decide_eq_true (by first | (with_reducible assumption) | assumption)
                                                            obtain ⟨ad420, e420, hx420_0⟩ := Kd.at_int HR419_1.out x7_4 p420 q420
                                                            have hw420_0 := hx420_0
                                                            cases e420
                                                            replace hx420_0 := (HB.out.cell (World.block_lt_of_cell? w _ hx420_0)).trans hx420_0
                                                            replace p420 := eq_true p420
                                                            replace q420 := eq_true q420
                                                            refine start_ (n := 30) (S := fun w' => w'.cell? (ad414.add ((x8_5).toNat * 2)) = some (.int .i64 ((rd_T34 l1 x8_5).f0)) ∧ w'.cell? ⟨(ad414.add ((x8_5).toNat * 2)).block, (ad414.add ((x8_5).toNat * 2)).off + 1, none⟩ = some (.slice (some ad418) ((rd_T34 l1 x8_5).f1).length c415_1) ∧ w'.cell? (ad413.add ((x6_3).toNat * 2)) = some (.int .i64 ((rd_T34 l0 x6_3).f0)) ∧ w'.cell? ⟨(ad413.add ((x6_3).toNat * 2)).block, (ad413.add ((x6_3).toNat * 2)).off + 1, none⟩ = some (.slice (some ad420) ((rd_T34 l0 x6_3).f1).length c416_1) ∧ w'.cell? (ad414.add ((x8_5).toNat * 2)) = some (.int .i64 ((rd_T34 l1 x8_5).f0)) ∧ w'.cell? ⟨(ad414.add ((x8_5).toNat * 2)).block, (ad414.add ((x8_5).toNat * 2)).off + 1, none⟩ = some (.slice (some ad418) ((rd_T34 l1 x8_5).f1).length c415_1) ∧ w'.cell? (ad418.add (x9_6).toNat) = some (.int .i64 (rd ((rd_T34 l1 x8_5).f1) x9_6)) ∧ w'.cell? (ad413.add ((x6_3).toNat * 2)) = some (.int .i64 ((rd_T34 l0 x6_3).f0)) ∧ w'.cell? ⟨(ad413.add ((x6_3).toNat * 2)).block, (ad413.add ((x6_3).toNat * 2)).off + 1, none⟩ = some (.slice (some ad420) ((rd_T34 l0 x6_3).f1).length c416_1) ∧ w'.cell? (ad420.add (x7_4).toNat) = some (.int .i64 (rd ((rd_T34 l0 x6_3).f1) x7_4))) (ds := []) #[false, false, false, false, false, false, false, false, false, false, false, false, false, false, false, false, false, false, false, false, false, false, false, false, false, false, false, false, false, false] (by kernel_rfl) rfl rfl ⟨((HB.out.cell (World.block_lt_of_cell? w _ hw415_0)).trans hw415_0), ((HB.out.cell (World.block_lt_of_cell? w _ hw415_1)).trans hw415_1), ((HB.out.cell (World.block_lt_of_cell? w _ hw416_0)).trans hw416_0), ((HB.out.cell (World.block_lt_of_cell? w _ hw416_1)).trans hw416_1), ((HB.out.cell (World.block_lt_of_cell? w _ hw417_0)).trans hw417_0), ((HB.out.cell (World.block_lt_of_cell? w _ hw417_1)).trans hw417_1), ((HB.out.cell (World.block_lt_of_cell? w _ hw418_0)).trans hw418_0), ((HB.out.cell (World.block_lt_of_cell? w _ hw419_0)).trans hw419_0), ((HB.out.cell (World.block_lt_of_cell? w _ hw419_1)).trans hw419_1), ((HB.out.cell (World.block_lt_of_cell? w _ hw420_0)).trans hw420_0)⟩ (fun hHeld => ?_); refine with_tabW continuoref25_Agree.tab17 continuoref25_Agree.bits17 (fun HT_ HW_ => ?_)
                                                            generalize wr.drew = w38 at BK408 HB HR415_1 HR416_1 HR417_1 HR419_1 hx415_0 hx415_1 hx416_0 hx416_1 hx417_0 hx417_1 hx418_0 hx419_0 hx419_1 hx420_0 hHeld ⊢
                                                            refine pure_ (i := 0) (N := some 58) (v := ?_) (a' := ?_) #[true, false, false, false, false, false, false, false, false, false, false, false, false, false, false, false, false, false, false, false, false, false, false, false, false, false, false, false, false, false] rfl rfl (any_of HT_.out (by kernel_rfl)) (fun _ _ _ h => h) (Or.inl ⟨by rfl, ?_⟩) ?_ ?_
                                                            rotate_left
                                                            · intro w'
                                                              go_simp
                                                              with_reducible rfl
                                                            rotate_left
                                                            · simp only [Act.put, List.setIfInBounds_toArray, List.set_cons_zero, List.set_cons_succ, i64_w, i32_w]
                                                              rfl
                                                            refine pure_ (i := 1) (N := some 59) (v := ?_) (a' := ?_) #[true, true, false, false, false, false, false, false, false, false, false, false, false, false, false, false, false, false, false, false, false, false, false, false, false, false, false, false, false, false] rfl rfl (any_of HT_.out (by kernel_rfl)) (fun _ _ _ h => h) (Or.inl ⟨by rfl, ?_⟩) ?_ ?_
                                                            rotate_left
                                                            · intro w'
                                                              go_simp
                                                              with_reducible rfl
                                                            rotate_left
                                                            · simp only [Act.put, List.setIfInBounds_toArray, List.set_cons_zero, List.set_cons_succ, i64_w, i32_w]
                                                              rfl
                                                            refine pure_ (i := 2) (N := some 60) (v := ?_) (a' := ?_) #[true, true, true, false, false, false, false, false, false, false, false, false, false, false, false, false, false, false, false, false, false, false, false, false, false, false, false, false, false, false] rfl rfl (any_of HT_.out (by kernel_rfl)) (fun _ _ _ h => h) (Or.inl ⟨by rfl, ?_⟩) ?_ ?_
                                                            rotate_left
                                                            · intro w'
                                                              go_simp
                                                              with_reducible rfl
                                                            rotate_left
                                                            · simp only [Act.put, List.setIfInBounds_toArray, List.set_cons_zero, List.set_cons_succ, i64_w, i32_w]
                                                              rfl
                                                            refine pure_ (i := 3) (N := some 61) (v := ?_) (a' := ?_) #[true, true, true, true, false, false, false, false, false, false, false, false, false, false, false, false, false, false, false, false, false, false, false, false, false, false, false, false, false, false] rfl rfl (any_of HT_.out (by kernel_rfl)) (fun _ _ _ h => h) (Or.inl ⟨by rfl, ?_⟩) ?_ ?_
                                                            rotate_left
                                                            · intro w'
                                                              go_simp
                                                              with_reducible rfl
                                                            rotate_left
                                                            · simp only [Act.put, List.setIfInBounds_toArray, List.set_cons_zero, List.set_cons_succ, i64_w, i32_w]
                                                              rfl
                                                            refine pure_ (i := 5) (N := some 63) (v := ?_) (a' := ?_) #[true, true, true, true, false, true, false, false, false, false, false, false, false, false, false, false, false, false, false, false, false, false, false, false, false, false, false, false, false, false] rfl rfl (any_of HT_.out (by kernel_rfl)) (fun _ _ _ h => h) (Or.inl ⟨by rfl, ?_⟩) ?_ ?_
                                                            rotate_left
                                                            · intro w'
                                                              go_simp
                                                              with_reducible rfl
                                                            rotate_left
                                                            · simp only [Act.put, List.setIfInBounds_toArray, List.set_cons_zero, List.set_cons_succ, i64_w, i32_w]
                                                              rfl
                                                            refine pure_ (i := 6) (N := some 64) (v := ?_) (a' := ?_) #[true, true, true, true, false, true, true, false, false, false, false, false, false, false, false, false, false, false, false, false, false, false, false, false, false, false, false, false, false, false] rfl rfl (any_of HT_.out (by kernel_rfl)) (fun _ _ _ h => h) (Or.inl ⟨by rfl, ?_⟩) ?_ ?_
                                                            rotate_left
                                                            · intro w'
                                                              go_simp
                                                              with_reducible rfl
                                                            rotate_left
                                                            · simp only [Act.put, List.setIfInBounds_toArray, List.set_cons_zero, List.set_cons_succ, i64_w, i32_w]
                                                              rfl
                                                            refine pure_ (i := 7) (N := some 65) (v := ?_) (a' := ?_) #[true, true, true, true, false, true, true, true, false, false, false, false, false, false, false, false, false, false, false, false, false, false, false, false, false, false, false, false, false, false] rfl rfl (any_of HT_.out (by kernel_rfl)) (fun _ _ _ h => h) (Or.inl ⟨by rfl, ?_⟩) ?_ ?_
                                                            rotate_left
                                                            · intro w'
                                                              go_simp
                                                              with_reducible rfl
                                                            rotate_left
                                                            · simp only [Act.put, List.setIfInBounds_toArray, List.set_cons_zero, List.set_cons_succ, i64_w, i32_w]
                                                              rfl
                                                            refine pure_ (i := 8) (N := some 66) (v := ?_) (a' := ?_) #[true, true, true, true, false, true, true, true, true, false, false, false, false, false, false, false, false, false, false, false, false, false, false, false, false, false, false, false, false, false] rfl rfl (any_of HT_.out (by kernel_rfl)) (fun _ _ _ h => h) (Or.inl ⟨by rfl, ?_⟩) ?_ ?_
                                                            rotate_left
                                                            · intro w'
                                                              go_simp
                                                              with_reducible rfl
                                                            rotate_left
                                                            · simp only [Act.put, List.setIfInBounds_toArray, List.set_cons_zero, List.set_cons_succ, i64_w, i32_w]
                                                              rfl
                                                            refine take_ (i := 4) (N := some 62) (v := ?_) (a' := ?_) #[true, true, true, true, true, true, true, true, true, false, false, false, false, false, false, false, false, false, false, false, false, false, false, false, false, false, false, false, false, false] rfl rfl (take_ofW HT_.out HW_.out (by kernel_rfl)) (fun _ _ _ h => h) (Or.inl ⟨by rfl, ?_⟩) hHeld ?_ ?_
                                                            rotate_left
                                                            · rintro w' ⟨s0, s1, s2, s3, s4, s5, s6, s7, s8, s9⟩
                                                              go_simp
                                                              with_reducible rfl
                                                            rotate_left
                                                            · simp only [Act.put, List.setIfInBounds_toArray, List.set_cons_zero, List.set_cons_succ, i64_w, i32_w]
                                                              rfl
                                                            refine take_ (i := 9) (N := some 67) (v := ?_) (a' := ?_) #[true, true, true, true, true, true, true, true, true, true, false, false, false, false, false, false, false, false, false, false, false, false, false, false, false, false, false, false, false, false] rfl rfl (take_ofW HT_.out HW_.out (by kernel_rfl)) (fun _ _ _ h => h) (Or.inl ⟨by rfl, ?_⟩) hHeld ?_ ?_
                                                            rotate_left
                                                            · rintro w' ⟨s0, s1, s2, s3, s4, s5, s6, s7, s8, s9⟩
                                                              go_simp
                                                              with_reducible rfl
                                                            rotate_left
                                                            · simp only [Act.put, List.setIfInBounds_toArray, List.set_cons_zero, List.set_cons_succ, i64_w, i32_w]
                                                              rfl
                                                            refine pure_ (i := 10) (N := some 68) (v := ?_) (a' := ?_) #[true, true, true, true, true, true, true, true, true, true, true, false, false, false, false, false, false, false, false, false, false, false, false, false, false, false, false, false, false, false] rfl rfl (any_of HT_.out (by kernel_rfl)) (fun _ _ _ h => h) (Or.inl ⟨by rfl, ?_⟩) ?_ ?_
                                                            rotate_left
                                                            · intro w'
                                                              go_simp
                                                              with_reducible rfl
                                                            rotate_left
                                                            · simp only [Act.put, List.setIfInBounds_toArray, List.set_cons_zero, List.set_cons_succ, i64_w, i32_w]
                                                              rfl
                                                            refine pure_ (i := 11) (N := some 69) (v := ?_) (a' := ?_) #[true, true, true, true, true, true, true, true, true, true, true, true, false, false, false, false, false, false, false, false, false, false, false, false, false, false, false, false, false, false] rfl rfl (any_of HT_.out (by kernel_rfl)) (fun _ _ _ h => h) (Or.inl ⟨by rfl, ?_⟩) ?_ ?_
                                                            rotate_left
                                                            · intro w'
                                                              go_simp
                                                              with_reducible rfl
                                                            rotate_left
                                                            · simp only [Act.put, List.setIfInBounds_toArray, List.set_cons_zero, List.set_cons_succ, i64_w, i32_w]
                                                              rfl
                                                            refine pure_ (i := 12) (N := some 70) (v := ?_) (a' := ?_) #[true, true, true, true, true, true, true, true, true, true, true, true, true, false, false, false, false, false, false, false, false, false, false, false, false, false, false, false, false, false] rfl rfl (any_of HT_.out (by kernel_rfl)) (fun _ _ _ h => h) (Or.inl ⟨by rfl, ?_⟩) ?_ ?_
                                                            rotate_left
                                                            · intro w'
                                                              go_simp
                                                              with_reducible rfl
                                                            rotate_left
                                                            · simp only [Act.put, List.setIfInBounds_toArray, List.set_cons_zero, List.set_cons_succ, i64_w, i32_w]
                                                              rfl
                                                            refine pure_ (i := 13) (N := some 71) (v := ?_) (a' := ?_) #[true, true, true, true, true, true, true, true, true, true, true, true, true, true, false, false, false, false, false, false, false, false, false, false, false, false, false, false, false, false] rfl rfl (any_of HT_.out (by kernel_rfl)) (fun _ _ _ h => h) (Or.inl ⟨by rfl, ?_⟩) ?_ ?_
                                                            rotate_left
                                                            · intro w'
                                                              go_simp
                                                              with_reducible rfl
                                                            rotate_left
                                                            · simp only [Act.put, List.setIfInBounds_toArray, List.set_cons_zero, List.set_cons_succ, i64_w, i32_w]
                                                              rfl
                                                            refine pure_ (i := 14) (N := some 72) (v := ?_) (a' := ?_) #[true, true, true, true, true, true, true, true, true, true, true, true, true, true, true, false, false, false, false, false, false, false, false, false, false, false, false, false, false, false] rfl rfl (any_of HT_.out (by kernel_rfl)) (fun _ _ _ h => h) (Or.inl ⟨by rfl, ?_⟩) ?_ ?_
                                                            rotate_left
                                                            · intro w'
                                                              go_simp
                                                              with_reducible rfl
                                                            rotate_left
                                                            · simp only [Act.put, List.setIfInBounds_toArray, List.set_cons_zero, List.set_cons_succ, i64_w, i32_w]
                                                              rfl
                                                            refine pure_ (i := 15) (N := some 73) (v := ?_) (a' := ?_) #[true, true, true, true, true, true, true, true, true, true, true, true, true, true, true, true, false, false, false, false, false, false, false, false, false, false, false, false, false, false] rfl rfl (any_of HT_.out (by kernel_rfl)) (fun _ _ _ h => h) (Or.inl ⟨by rfl, ?_⟩) ?_ ?_
                                                            rotate_left
                                                            · intro w'
                                                              go_simp
                                                              with_reducible rfl
                                                            rotate_left
                                                            · simp only [Act.put, List.setIfInBounds_toArray, List.set_cons_zero, List.set_cons_succ, i64_w, i32_w]
                                                              rfl
                                                            refine pure_ (i := 17) (N := some 75) (v := ?_) (a' := ?_) #[true, true, true, true, true, true, true, true, true, true, true, true, true, true, true, true, false, true, false, false, false, false, false, false, false, false, false, false, false, false] rfl rfl (any_of HT_.out (by kernel_rfl)) (fun _ _ _ h => h) (Or.inl ⟨by rfl, ?_⟩) ?_ ?_
                                                            rotate_left
                                                            · intro w'
                                                              go_simp
                                                              with_reducible rfl
                                                            rotate_left
                                                            · simp only [Act.put, List.setIfInBounds_toArray, List.set_cons_zero, List.set_cons_succ, i64_w, i32_w]
                                                              rfl
                                                            refine pure_ (i := 20) (N := some 78) (v := ?_) (a' := ?_) #[true, true, true, true, true, true, true, true, true, true, true, true, true, true, true, true, false, true, false, false, true, false, false, false, false, false, false, false, false, false] rfl rfl (any_of HT_.out (by kernel_rfl)) (fun _ _ _ h => h) (Or.inl ⟨by rfl, ?_⟩) ?_ ?_
                                                            rotate_left
                                                            · intro w'
                                                              go_simp
                                                              with_reducible rfl
                                                            rotate_left
                                                            · simp only [Act.put, List.setIfInBounds_toArray, List.set_cons_zero, List.set_cons_succ, i64_w, i32_w]
                                                              rfl
                                                            refine pure_ (i := 21) (N := some 79) (v := ?_) (a' := ?_) #[true, true, true, true, true, true, true, true, true, true, true, true, true, true, true, true, false, true, false, false, true, true, false, false, false, false, false, false, false, false] rfl rfl (any_of HT_.out (by kernel_rfl)) (fun _ _ _ h => h) (Or.inl ⟨by rfl, ?_⟩) ?_ ?_
                                                            rotate_left
                                                            · intro w'
                                                              go_simp
                                                              with_reducible rfl
                                                            rotate_left
                                                            · simp only [Act.put, List.setIfInBounds_toArray, List.set_cons_zero, List.set_cons_succ, i64_w, i32_w]
                                                              rfl
                                                            refine pure_ (i := 22) (N := some 80) (v := ?_) (a' := ?_) #[true, true, true, true, true, true, true, true, true, true, true, true, true, true, true, true, false, true, false, false, true, true, true, false, false, false, false, false, false, false] rfl rfl (any_of HT_.out (by kernel_rfl)) (fun _ _ _ h => h) (Or.inl ⟨by rfl, ?_⟩) ?_ ?_
                                                            rotate_left
                                                            · intro w'
                                                              go_simp
                                                              with_reducible rfl
                                                            rotate_left
                                                            · simp only [Act.put, List.setIfInBounds_toArray, List.set_cons_zero, List.set_cons_succ, i64_w, i32_w]
                                                              rfl
                                                            refine pure_ (i := 23) (N := some 81) (v := ?_) (a' := ?_) #[true, true, true, true, true, true, true, true, true, true, true, true, true, true, true, true, false, true, false, false, true, true, true, true, false, false, false, false, false, false] rfl rfl (any_of HT_.out (by kernel_rfl)) (fun _ _ _ h => h) (Or.inl ⟨by rfl, ?_⟩) ?_ ?_
                                                            rotate_left
                                                            · intro w'
                                                              go_simp
                                                              with_reducible rfl
                                                            rotate_left
                                                            · simp only [Act.put, List.setIfInBounds_toArray, List.set_cons_zero, List.set_cons_succ, i64_w, i32_w]
                                                              rfl
                                                            refine pure_ (i := 25) (N := some 83) (v := ?_) (a' := ?_) #[true, true, true, true, true, true, true, true, true, true, true, true, true, true, true, true, false, true, false, false, true, true, true, true, false, true, false, false, false, false] rfl rfl (any_of HT_.out (by kernel_rfl)) (fun _ _ _ h => h) (Or.inl ⟨by rfl, ?_⟩) ?_ ?_
                                                            rotate_left
                                                            · intro w'
                                                              go_simp
                                                              with_reducible rfl
                                                            rotate_left
                                                            · simp only [Act.put, List.setIfInBounds_toArray, List.set_cons_zero, List.set_cons_succ, i64_w, i32_w]
                                                              rfl
                                                            refine take_ (i := 16) (N := some 74) (v := ?_) (a' := ?_) #[true, true, true, true, true, true, true, true, true, true, true, true, true, true, true, true, true, true, false, false, true, true, true, true, false, true, false, false, false, false] rfl rfl (take_ofW HT_.out HW_.out (by kernel_rfl)) (fun _ _ _ h => h) (Or.inl ⟨by rfl, ?_⟩) hHeld ?_ ?_
                                                            rotate_left
                                                            · rintro w' ⟨s0, s1, s2, s3, s4, s5, s6, s7, s8, s9⟩
                                                              go_simp
                                                              with_reducible rfl
                                                            rotate_left
                                                            · simp only [Act.put, List.setIfInBounds_toArray, List.set_cons_zero, List.set_cons_succ, i64_w, i32_w]
                                                              rfl
                                                            refine pure_ (i := 18) (N := some 76) (v := ?_) (a' := ?_) #[true, true, true, true, true, true, true, true, true, true, true, true, true, true, true, true, true, true, true, false, true, true, true, true, false, true, false, false, false, false] rfl rfl (any_of HT_.out (by kernel_rfl)) (fun _ _ _ h => h) (Or.inl ⟨by rfl, ?_⟩) ?_ ?_
                                                            rotate_left
                                                            · intro w'
                                                              go_simp
                                                              with_reducible rfl
                                                            rotate_left
                                                            · simp only [Act.put, List.setIfInBounds_toArray, List.set_cons_zero, List.set_cons_succ, i64_w, i32_w]
                                                              rfl
                                                            refine take_ (i := 19) (N := some 77) (v := ?_) (a' := ?_) #[true, true, true, true, true, true, true, true, true, true, true, true, true, true, true, true, true, true, true, true, true, true, true, true, false, true, false, false, false, false] rfl rfl (take_ofW HT_.out HW_.out (by kernel_rfl)) (fun _ _ _ h => h) (Or.inl ⟨by rfl, ?_⟩) hHeld ?_ ?_
                                                            rotate_left
                                                            · rintro w' ⟨s0, s1, s2, s3, s4, s5, s6, s7, s8, s9⟩
                                                              go_simp
                                                              with_reducible rfl
                                                            rotate_left
                                                            · simp only [Act.put, List.setIfInBounds_toArray, List.set_cons_zero, List.set_cons_succ, i64_w, i32_w]
                                                              rfl
                                                            refine take_ (i := 24) (N := some 82) (v := ?_) (a' := ?_) #[true, true, true, true, true, true, true, true, true, true, true, true, true, true, true, true, true, true, true, true, true, true, true, true, true, true, false, false, false, false] rfl rfl (take_ofW HT_.out HW_.out (by kernel_rfl)) (fun _ _ _ h => h) (Or.inl ⟨by rfl, ?_⟩) hHeld ?_ ?_
                                                            rotate_left
                                                            · rintro w' ⟨s0, s1, s2, s3, s4, s5, s6, s7, s8, s9⟩
                                                              go_simp
                                                              with_reducible rfl
                                                            rotate_left
                                                            · simp only [Act.put, List.setIfInBounds_toArray, List.set_cons_zero, List.set_cons_succ, i64_w, i32_w]
                                                              rfl
                                                            refine pure_ (i := 26) (N := some 84) (v := ?_) (a' := ?_) #[true, true, true, true, true, true, true, true, true, true, true, true, true, true, true, true, true, true, true, true, true, true, true, true, true, true, true, false, false, false] rfl rfl (any_of HT_.out (by kernel_rfl)) (fun _ _ _ h => h) (Or.inl ⟨by rfl, ?_⟩) ?_ ?_
                                                            rotate_left
                                                            · intro w'
                                                              go_simp
                                                              with_reducible rfl
                                                            rotate_left
                                                            · simp only [Act.put, List.setIfInBounds_toArray, List.set_cons_zero, List.set_cons_succ, i64_w, i32_w]
                                                              rfl
                                                            refine take_ (i := 27) (N := some 85) (v := ?_) (a' := ?_) #[true, true, true, true, true, true, true, true, true, true, true, true, true, true, true, true, true, true, true, true, true, true, true, true, true, true, true, true, false, false] rfl rfl (take_ofW HT_.out HW_.out (by kernel_rfl)) (fun _ _ _ h => h) (Or.inl ⟨by rfl, ?_⟩) hHeld ?_ ?_
                                                            rotate_left
                                                            · rintro w' ⟨s0, s1, s2, s3, s4, s5, s6, s7, s8, s9⟩
                                                              go_simp
                                                              with_reducible rfl
                                                            rotate_left
                                                            · simp only [Act.put, List.setIfInBounds_toArray, List.set_cons_zero, List.set_cons_succ, i64_w, i32_w]
                                                              rfl
                                                            refine pure_ (i := 28) (N := some 86) (v := ?_) (a' := ?_) #[true, true, true, true, true, true, true, true, true, true, true, true, true, true, true, true, true, true, true, true, true, true, true, true, true, true, true, true, true, false] rfl rfl (any_of HT_.out (by kernel_rfl)) (fun _ _ _ h => h) (Or.inl ⟨by rfl, ?_⟩) ?_ ?_
                                                            rotate_left
                                                            · intro w'
                                                              go_simp
                                                              with_reducible rfl
                                                            rotate_left
                                                            · simp only [Act.put, List.setIfInBounds_toArray, List.set_cons_zero, List.set_cons_succ, i64_w, i32_w]
                                                              rfl
                                                            refine pure_ (i := 29) (N := some 87) (v := ?_) (a' := ?_) #[true, true, true, true, true, true, true, true, true, true, true, true, true, true, true, true, true, true, true, true, true, true, true, true, true, true, true, true, true, true] rfl rfl (any_of HT_.out (by kernel_rfl)) (fun _ _ _ h => h) (Or.inl ⟨by rfl, ?_⟩) ?_ ?_
                                                            rotate_left
                                                            · intro w'
                                                              go_simp
                                                              with_reducible rfl
                                                            rotate_left
                                                            · simp only [Act.put, List.setIfInBounds_toArray, List.set_cons_zero, List.set_cons_succ, i64_w, i32_w]
                                                              rfl
                                                            refine done_ (done_of HT_.out (by kernel_rfl)) ?_
                                                            try go_wp2
                                                            go_roundg k6
                                                            case measure => have := HJ2.out; have := HJ9.out; have := HK3.out; have := HK4.out; have := HK5.out; have := HK6.out; omega
                                                            case rel => exact ⟨(wrap64 (x9_6 + 1)), (x409000_6), (by first | rfl | (simp; done) | (simp [*]; done)), H', ⟨by have := HJ2.out; have := HJ9.out; have := HK3.out; have := HK4.out; have := HK5.out; have := HK6.out; omega⟩, ⟨by (with_reducible repeat (first | refine blk_drewN ?_ _ | refine blk_drew ?_ | refine blk_alloc ?_ _)); exact BK408.out⟩, ⟨by repeat (first | (with_reducible first | exact HB.out | apply below_alloc | apply pw_below_drewN | apply below_drew1 | refine below_set ?_ GE408.out) | exact HB.out)⟩⟩
                                                        · rw [if_neg c29] at H
                                                          exact absurd H (by simp)
                                                      · rw [if_neg c28] at H
                                                        exact absurd H (by simp)
                                                    · rw [if_neg c27] at H
                                                      exact absurd H (by simp)
                                                  · rw [if_neg c26] at H
                                                    have c26b0 : (((rd_T34 l1 x8_5).f0) == ((rd_T34 l0 x6_3).f0)) = false := beq_eq_false_iff_ne.mpr c26
                                                    have c26b1 : (((rd_T34 l1 x8_5).f0) != ((rd_T34 l0 x6_3).f0)) = true := bne_iff_ne.mpr c26
                                                    have H' := Aside0.mk H
                                                    clear H
                                                    have p414 : 0 ≤ (x8_5 : Int) := of_decide_eq_true (by first | (with_reducible assumption) | assumption)
                                                    have q414 : x8_5 < (l1.length : Int) := of_decide_eq_true (by first | (with_reducible assumption) | assumption)
                                                    obtain ⟨ad414, A414_1, c414_1, e414, hx414_0, hx414_1, hl414_1, hi414_1⟩ := at_T34 HR1.out x8_5 p414 q414
                                                    cases e414
                                                    replace hx414_0 := (HB.out.cell (World.block_lt_of_cell? w _ hx414_0)).trans hx414_0
                                                    replace hx414_1 := (HB.out.cell (World.block_lt_of_cell? w _ hx414_1)).trans hx414_1
                                                    have HR414_1 := Aside0.mk hi414_1
                                                    have HC414_1 := Aside0.mk hl414_1
                                                    clear hi414_1 hl414_1
                                                    replace p414 := eq_true p414
                                                    replace q414 := eq_true q414
                                                    try go_wp2
                                                    have n0_ := Aside0.mk (blk_drew BK408.out)
                                                    have n1_ := Aside0.mk (below_drew1 HB.out)
                                                    clear BK408
                                                    clear HB
                                                    have BK408 := n0_
                                                    have HB := n1_
                                                    clear n0_ n1_
                                                    have p415 : 0 ≤ (x8_5 : Int) := of_decide_eq_true (by first | (with_reducible assumption) | assumption)
                                                    have q415 : x8_5 < (l1.length : Int) := of_decide_eq_true (by first | (with_reducible assumption) | assumption)
                                                    obtain ⟨ad415, A415_1, c415_1, e415, hx415_0, hx415_1, hl415_1, hi415_1⟩ := at_T34 HR1.out x8_5 p415 q415
                                                    have hw415_1 := hx415_1
                                                    have hw415_0 := hx415_0
                                                    obtain rfl : ad414 = ad415 := (by injection e415)
                                                    replace hx415_0 := (HB.out.cell (World.block_lt_of_cell? w _ hx415_0)).trans hx415_0
                                                    replace hx415_1 := (HB.out.cell (World.block_lt_of_cell? w _ hx415_1)).trans hx415_1
                                                    have HR415_1 := Aside0.mk hi415_1
                                                    have HC415_1 := Aside0.mk hl415_1
                                                    clear hi415_1 hl415_1
                                                    replace p415 := eq_true p415
                                                    replace q415 := eq_true q415
                                                    have p416 : 0 ≤ (x6_3 : Int) := of_decide_eq_true (by first | (with_reducible assumption) | assumption)
                                                    have q416 : x6_3 < (l0.length : Int) := of_decide_eq_true (by first | (with_reducible assumption) | assumption)
                                                    obtain ⟨ad416, A416_1, c416_1, e416, hx416_0, hx416_1, hl416_1, hi416_1⟩ := at_T34 HR0.out x6_3 p416 q416
                                                    have hw416_1 := hx416_1
                                                    have hw416_0 := hx416_0
                                                    obtain rfl : ad413 = ad416 := (by injection e416)
                                                    replace hx416_0 := (HB.out.cell (World.block_lt_of_cell? w _ hx416_0)).trans hx416_0
                                                    replace hx416_1 := (HB.out.cell (World.block_lt_of_cell? w _ hx416_1)).trans hx416_1
                                                    have HR416_1 := Aside0.mk hi416_1
                                                    have HC416_1 := Aside0.mk hl416_1
                                                    clear hi416_1 hl416_1
                                                    replace p416 := eq_true p416
                                                    replace q416 := eq_true q416
                                                    refine start_ (n := 30) (S := fun w' => w'.cell? (ad414.add ((x8_5).toNat * 2)) = some (.int .i64 ((rd_T34 l1 x8_5).f0)) ∧ w'.cell? ⟨(ad414.add ((x8_5).toNat * 2)).block, (ad414.add ((x8_5).toNat * 2)).off + 1, none⟩ = some (.slice A415_1 ((rd_T34 l1 x8_5).f1).length c415_1) ∧ w'.cell? (ad413.add ((x6_3).toNat * 2)) = some (.int .i64 ((rd_T34 l0 x6_3).f0)) ∧ w'.cell? ⟨(ad413.add ((x6_3).toNat * 2)).block, (ad413.add ((x6_3).toNat * 2)).off + 1, none⟩ = some (.slice A416_1 ((rd_T34 l0 x6_3).f1).length c416_1)) (ds := []) #[false, false, false, false, false, false, false, false, false, false, false, false, false, false, false, false, false, false, false, false, false, false, false, false, false, false, false, false, false, false] (by kernel_rfl) rfl rfl ⟨((HB.out.cell (World.block_lt_of_cell? w _ hw415_0)).trans hw415_0), ((HB.out.cell (World.block_lt_of_cell? w _ hw415_1)).trans hw415_1), ((HB.out.cell (World.block_lt_of_cell? w _ hw416_0)).trans hw416_0), ((HB.out.cell (World.block_lt_of_cell? w _ hw416_1)).trans hw416_1)⟩ (fun hHeld => ?_); refine with_tabW continuoref25_Agree.tab17 continuoref25_Agree.bits17 (fun HT_ HW_ => ?_)
                                                    generalize wr.drew = w39 at BK408 HB HR415_1 HR416_1 hx415_0 hx415_1 hx416_0 hx416_1 hHeld ⊢
                                                    refine pure_ (i := 0) (N := some 58) (v := ?_) (a' := ?_) #[true, false, false, false, false, false, false, false, false, false, false, false, false, false, false, false, false, false, false, false, false, false, false, false, false, false, false, false, false, false] rfl rfl (any_of HT_.out (by kernel_rfl)) (fun _ _ _ h => h) (Or.inl ⟨by rfl, ?_⟩) ?_ ?_
                                                    rotate_left
                                                    · intro w'
                                                      go_simp
                                                      with_reducible rfl
                                                    rotate_left
                                                    · simp only [Act.put, List.setIfInBounds_toArray, List.set_cons_zero, List.set_cons_succ, i64_w, i32_w]
                                                      rfl
                                                    refine pure_ (i := 1) (N := some 59) (v := ?_) (a' := ?_) #[true, true, false, false, false, false, false, false, false, false, false, false, false, false, false, false, false, false, false, false, false, false, false, false, false, false, false, false, false, false] rfl rfl (any_of HT_.out (by kernel_rfl)) (fun _ _ _ h => h) (Or.inl ⟨by rfl, ?_⟩) ?_ ?_
                                                    rotate_left
                                                    · intro w'
                                                      go_simp
                                                      with_reducible rfl
                                                    rotate_left
                                                    · simp only [Act.put, List.setIfInBounds_toArray, List.set_cons_zero, List.set_cons_succ, i64_w, i32_w]
                                                      rfl
                                                    refine pure_ (i := 2) (N := some 60) (v := ?_) (a' := ?_) #[true, true, true, false, false, false, false, false, false, false, false, false, false, false, false, false, false, false, false, false, false, false, false, false, false, false, false, false, false, false] rfl rfl (any_of HT_.out (by kernel_rfl)) (fun _ _ _ h => h) (Or.inl ⟨by rfl, ?_⟩) ?_ ?_
                                                    rotate_left
                                                    · intro w'
                                                      go_simp
                                                      with_reducible rfl
                                                    rotate_left
                                                    · simp only [Act.put, List.setIfInBounds_toArray, List.set_cons_zero, List.set_cons_succ, i64_w, i32_w]
                                                      rfl
                                                    refine pure_ (i := 3) (N := some 61) (v := ?_) (a' := ?_) #[true, true, true, true, false, false, false, false, false, false, false, false, false, false, false, false, false, false, false, false, false, false, false, false, false, false, false, false, false, false] rfl rfl (any_of HT_.out (by kernel_rfl)) (fun _ _ _ h => h) (Or.inl ⟨by rfl, ?_⟩) ?_ ?_
                                                    rotate_left
                                                    · intro w'
                                                      go_simp
                                                      with_reducible rfl
                                                    rotate_left
                                                    · simp only [Act.put, List.setIfInBounds_toArray, List.set_cons_zero, List.set_cons_succ, i64_w, i32_w]
                                                      rfl
                                                    refine pure_ (i := 5) (N := some 63) (v := ?_) (a' := ?_) #[true, true, true, true, false, true, false, false, false, false, false, false, false, false, false, false, false, false, false, false, false, false, false, false, false, false, false, false, false, false] rfl rfl (any_of HT_.out (by kernel_rfl)) (fun _ _ _ h => h) (Or.inl ⟨by rfl, ?_⟩) ?_ ?_
                                                    rotate_left
                                                    · intro w'
                                                      go_simp
                                                      with_reducible rfl
                                                    rotate_left
                                                    · simp only [Act.put, List.setIfInBounds_toArray, List.set_cons_zero, List.set_cons_succ, i64_w, i32_w]
                                                      rfl
                                                    refine pure_ (i := 6) (N := some 64) (v := ?_) (a' := ?_) #[true, true, true, true, false, true, true, false, false, false, false, false, false, false, false, false, false, false, false, false, false, false, false, false, false, false, false, false, false, false] rfl rfl (any_of HT_.out (by kernel_rfl)) (fun _ _ _ h => h) (Or.inl ⟨by rfl, ?_⟩) ?_ ?_
                                                    rotate_left
                                                    · intro w'
                                                      go_simp
                                                      with_reducible rfl
                                                    rotate_left
                                                    · simp only [Act.put, List.setIfInBounds_toArray, List.set_cons_zero, List.set_cons_succ, i64_w, i32_w]
                                                      rfl
                                                    refine pure_ (i := 7) (N := some 65) (v := ?_) (a' := ?_) #[true, true, true, true, false, true, true, true, false, false, false, false, false, false, false, false, false, false, false, false, false, false, false, false, false, false, false, false, false, false] rfl rfl (any_of HT_.out (by kernel_rfl)) (fun _ _ _ h => h) (Or.inl ⟨by rfl, ?_⟩) ?_ ?_
                                                    rotate_left
                                                    · intro w'
                                                      go_simp
                                                      with_reducible rfl
                                                    rotate_left
                                                    · simp only [Act.put, List.setIfInBounds_toArray, List.set_cons_zero, List.set_cons_succ, i64_w, i32_w]
                                                      rfl
                                                    refine pure_ (i := 8) (N := some 66) (v := ?_) (a' := ?_) #[true, true, true, true, false, true, true, true, true, false, false, false, false, false, false, false, false, false, false, false, false, false, false, false, false, false, false, false, false, false] rfl rfl (any_of HT_.out (by kernel_rfl)) (fun _ _ _ h => h) (Or.inl ⟨by rfl, ?_⟩) ?_ ?_
                                                    rotate_left
                                                    · intro w'
                                                      go_simp
                                                      with_reducible rfl
                                                    rotate_left
                                                    · simp only [Act.put, List.setIfInBounds_toArray, List.set_cons_zero, List.set_cons_succ, i64_w, i32_w]
                                                      rfl
                                                    refine take_ (i := 4) (N := some 62) (v := ?_) (a' := ?_) #[true, true, true, true, true, true, true, true, true, false, false, false, false, false, false, false, false, false, false, false, false, false, false, false, false, false, false, false, false, false] rfl rfl (take_ofW HT_.out HW_.out (by kernel_rfl)) (fun _ _ _ h => h) (Or.inl ⟨by rfl, ?_⟩) hHeld ?_ ?_
                                                    rotate_left
                                                    · rintro w' ⟨s0, s1, s2, s3⟩
                                                      go_simp
                                                      with_reducible rfl
                                                    rotate_left
                                                    · simp only [Act.put, List.setIfInBounds_toArray, List.set_cons_zero, List.set_cons_succ, i64_w, i32_w]
                                                      rfl
                                                    refine take_ (i := 9) (N := some 67) (v := ?_) (a' := ?_) #[true, true, true, true, true, true, true, true, true, true, false, false, false, false, false, false, false, false, false, false, false, false, false, false, false, false, false, false, false, false] rfl rfl (take_ofW HT_.out HW_.out (by kernel_rfl)) (fun _ _ _ h => h) (Or.inl ⟨by rfl, ?_⟩) hHeld ?_ ?_
                                                    rotate_left
                                                    · rintro w' ⟨s0, s1, s2, s3⟩
                                                      go_simp
                                                      with_reducible rfl
                                                    rotate_left
                                                    · simp only [Act.put, List.setIfInBounds_toArray, List.set_cons_zero, List.set_cons_succ, i64_w, i32_w]
                                                      rfl
                                                    refine pure_ (i := 10) (N := some 68) (v := ?_) (a' := ?_) #[true, true, true, true, true, true, true, true, true, true, true, false, false, false, false, false, false, false, false, false, false, false, false, false, false, false, false, false, false, false] rfl rfl (any_of HT_.out (by kernel_rfl)) (fun _ _ _ h => h) (Or.inl ⟨by rfl, ?_⟩) ?_ ?_
                                                    rotate_left
                                                    · intro w'
                                                      go_simp
                                                      with_reducible rfl
                                                    rotate_left
                                                    · simp only [Act.put, List.setIfInBounds_toArray, List.set_cons_zero, List.set_cons_succ, i64_w, i32_w]
                                                      rfl
                                                    refine pure_ (i := 11) (N := some 69) (v := ?_) (a' := ?_) #[true, true, true, true, true, true, true, true, true, true, true, true, false, false, false, false, false, false, false, false, false, false, false, false, false, false, false, false, false, false] rfl rfl (any_of HT_.out (by kernel_rfl)) (fun _ _ _ h => h) (Or.inl ⟨by rfl, ?_⟩) ?_ ?_
                                                    rotate_left
                                                    · intro w'
                                                      go_simp
                                                      with_reducible rfl
                                                    rotate_left
                                                    · simp only [Act.put, List.setIfInBounds_toArray, List.set_cons_zero, List.set_cons_succ, i64_w, i32_w]
                                                      rfl
                                                    refine pure_ (i := 12) (N := some 70) (v := undef) (a' := ?_) #[true, true, true, true, true, true, true, true, true, true, true, true, true, false, false, false, false, false, false, false, false, false, false, false, false, false, false, false, false, false] rfl rfl (any_of HT_.out (by kernel_rfl)) (fun _ _ _ h => h) (Or.inr ⟨by rfl, rfl⟩) ?_ ?_
                                                    rotate_left
                                                    · simp only [Act.put, List.setIfInBounds_toArray, List.set_cons_zero, List.set_cons_succ, i64_w, i32_w]
                                                      rfl
                                                    refine pure_ (i := 13) (N := some 71) (v := undef) (a' := ?_) #[true, true, true, true, true, true, true, true, true, true, true, true, true, true, false, false, false, false, false, false, false, false, false, false, false, false, false, false, false, false] rfl rfl (any_of HT_.out (by kernel_rfl)) (fun _ _ _ h => h) (Or.inr ⟨by rfl, rfl⟩) ?_ ?_
                                                    rotate_left
                                                    · simp only [Act.put, List.setIfInBounds_toArray, List.set_cons_zero, List.set_cons_succ, i64_w, i32_w]
                                                      rfl
                                                    refine pure_ (i := 14) (N := some 72) (v := undef) (a' := ?_) #[true, true, true, true, true, true, true, true, true, true, true, true, true, true, true, false, false, false, false, false, false, false, false, false, false, false, false, false, false, false] rfl rfl (any_of HT_.out (by kernel_rfl)) (fun _ _ _ h => h) (Or.inr ⟨by rfl, rfl⟩) ?_ ?_
                                                    rotate_left
                                                    · simp only [Act.put, List.setIfInBounds_toArray, List.set_cons_zero, List.set_cons_succ, i64_w, i32_w]
                                                      rfl
                                                    refine pure_ (i := 15) (N := some 73) (v := undef) (a' := ?_) #[true, true, true, true, true, true, true, true, true, true, true, true, true, true, true, true, false, false, false, false, false, false, false, false, false, false, false, false, false, false] rfl rfl (any_of HT_.out (by kernel_rfl)) (fun _ _ _ h => h) (Or.inr ⟨by rfl, rfl⟩) ?_ ?_
                                                    rotate_left
                                                    · simp only [Act.put, List.setIfInBounds_toArray, List.set_cons_zero, List.set_cons_succ, i64_w, i32_w]
                                                      rfl
                                                    refine pure_ (i := 16) (N := some 74) (v := undef) (a' := ?_) #[true, true, true, true, true, true, true, true, true, true, true, true, true, true, true, true, true, false, false, false, false, false, false, false, false, false, false, false, false, false] rfl rfl (any_of HT_.out (by kernel_rfl)) (fun _ _ _ h => h) (Or.inr ⟨by rfl, rfl⟩) ?_ ?_
                                                    rotate_left
                                                    · simp only [Act.put, List.setIfInBounds_toArray, List.set_cons_zero, List.set_cons_succ, i64_w, i32_w]
                                                      rfl
                                                    refine pure_ (i := 17) (N := some 75) (v := undef) (a' := ?_) #[true, true, true, true, true, true, true, true, true, true, true, true, true, true, true, true, true, true, false, false, false, false, false, false, false, false, false, false, false, false] rfl rfl (any_of HT_.out (by kernel_rfl)) (fun _ _ _ h => h) (Or.inr ⟨by rfl, rfl⟩) ?_ ?_
                                                    rotate_left
                                                    · simp only [Act.put, List.setIfInBounds_toArray, List.set_cons_zero, List.set_cons_succ, i64_w, i32_w]
                                                      rfl
                                                    refine pure_ (i := 18) (N := some 76) (v := undef) (a' := ?_) #[true, true, true, true, true, true, true, true, true, true, true, true, true, true, true, true, true, true, true, false, false, false, false, false, false, false, false, false, false, false] rfl rfl (any_of HT_.out (by kernel_rfl)) (fun _ _ _ h => h) (Or.inr ⟨by rfl, rfl⟩) ?_ ?_
                                                    rotate_left
                                                    · simp only [Act.put, List.setIfInBounds_toArray, List.set_cons_zero, List.set_cons_succ, i64_w, i32_w]
                                                      rfl
                                                    refine pure_ (i := 19) (N := some 77) (v := undef) (a' := ?_) #[true, true, true, true, true, true, true, true, true, true, true, true, true, true, true, true, true, true, true, true, false, false, false, false, false, false, false, false, false, false] rfl rfl (any_of HT_.out (by kernel_rfl)) (fun _ _ _ h => h) (Or.inr ⟨by rfl, rfl⟩) ?_ ?_
                                                    rotate_left
                                                    · simp only [Act.put, List.setIfInBounds_toArray, List.set_cons_zero, List.set_cons_succ, i64_w, i32_w]
                                                      rfl
                                                    refine pure_ (i := 20) (N := some 78) (v := undef) (a' := ?_) #[true, true, true, true, true, true, true, true, true, true, true, true, true, true, true, true, true, true, true, true, true, false, false, false, false, false, false, false, false, false] rfl rfl (any_of HT_.out (by kernel_rfl)) (fun _ _ _ h => h) (Or.inr ⟨by rfl, rfl⟩) ?_ ?_
                                                    rotate_left
                                                    · simp only [Act.put, List.setIfInBounds_toArray, List.set_cons_zero, List.set_cons_succ, i64_w, i32_w]
                                                      rfl
                                                    refine pure_ (i := 21) (N := some 79) (v := undef) (a' := ?_) #[true, true, true, true, true, true, true, true, true, true, true, true, true, true, true, true, true, true, true, true, true, true, false, false, false, false, false, false, false, false] rfl rfl (any_of HT_.out (by kernel_rfl)) (fun _ _ _ h => h) (Or.inr ⟨by rfl, rfl⟩) ?_ ?_
                                                    rotate_left
                                                    · simp only [Act.put, List.setIfInBounds_toArray, List.set_cons_zero, List.set_cons_succ, i64_w, i32_w]
                                                      rfl
                                                    refine pure_ (i := 22) (N := some 80) (v := undef) (a' := ?_) #[true, true, true, true, true, true, true, true, true, true, true, true, true, true, true, true, true, true, true, true, true, true, true, false, false, false, false, false, false, false] rfl rfl (any_of HT_.out (by kernel_rfl)) (fun _ _ _ h => h) (Or.inr ⟨by rfl, rfl⟩) ?_ ?_
                                                    rotate_left
                                                    · simp only [Act.put, List.setIfInBounds_toArray, List.set_cons_zero, List.set_cons_succ, i64_w, i32_w]
                                                      rfl
                                                    refine pure_ (i := 23) (N := some 81) (v := undef) (a' := ?_) #[true, true, true, true, true, true, true, true, true, true, true, true, true, true, true, true, true, true, true, true, true, true, true, true, false, false, false, false, false, false] rfl rfl (any_of HT_.out (by kernel_rfl)) (fun _ _ _ h => h) (Or.inr ⟨by rfl, rfl⟩) ?_ ?_
                                                    rotate_left
                                                    · simp only [Act.put, List.setIfInBounds_toArray, List.set_cons_zero, List.set_cons_succ, i64_w, i32_w]
                                                      rfl
                                                    refine pure_ (i := 24) (N := some 82) (v := undef) (a' := ?_) #[true, true, true, true, true, true, true, true, true, true, true, true, true, true, true, true, true, true, true, true, true, true, true, true, true, false, false, false, false, false] rfl rfl (any_of HT_.out (by kernel_rfl)) (fun _ _ _ h => h) (Or.inr ⟨by rfl, rfl⟩) ?_ ?_
                                                    rotate_left
                                                    · simp only [Act.put, List.setIfInBounds_toArray, List.set_cons_zero, List.set_cons_succ, i64_w, i32_w]
                                                      rfl
                                                    refine pure_ (i := 25) (N := some 83) (v := undef) (a' := ?_) #[true, true, true, true, true, true, true, true, true, true, true, true, true, true, true, true, true, true, true, true, true, true, true, true, true, true, false, false, false, false] rfl rfl (any_of HT_.out (by kernel_rfl)) (fun _ _ _ h => h) (Or.inr ⟨by rfl, rfl⟩) ?_ ?_
                                                    rotate_left
                                                    · simp only [Act.put, List.setIfInBounds_toArray, List.set_cons_zero, List.set_cons_succ, i64_w, i32_w]
                                                      rfl
                                                    refine pure_ (i := 26) (N := some 84) (v := undef) (a' := ?_) #[true, true, true, true, true, true, true, true, true, true, true, true, true, true, true, true, true, true, true, true, true, true, true, true, true, true, true, false, false, false] rfl rfl (any_of HT_.out (by kernel_rfl)) (fun _ _ _ h => h) (Or.inr ⟨by rfl, rfl⟩) ?_ ?_
                                                    rotate_left
                                                    · simp only [Act.put, List.setIfInBounds_toArray, List.set_cons_zero, List.set_cons_succ, i64_w, i32_w]
                                                      rfl
                                                    refine pure_ (i := 27) (N := some 85) (v := undef) (a' := ?_) #[true, true, true, true, true, true, true, true, true, true, true, true, true, true, true, true, true, true, true, true, true, true, true, true, true, true, true, true, false, false] rfl rfl (any_of HT_.out (by kernel_rfl)) (fun _ _ _ h => h) (Or.inr ⟨by rfl, rfl⟩) ?_ ?_
                                                    rotate_left
                                                    · simp only [Act.put, List.setIfInBounds_toArray, List.set_cons_zero, List.set_cons_succ, i64_w, i32_w]
                                                      rfl
                                                    refine pure_ (i := 28) (N := some 86) (v := undef) (a' := ?_) #[true, true, true, true, true, true, true, true, true, true, true, true, true, true, true, true, true, true, true, true, true, true, true, true, true, true, true, true, true, false] rfl rfl (any_of HT_.out (by kernel_rfl)) (fun _ _ _ h => h) (Or.inr ⟨by rfl, rfl⟩) ?_ ?_
                                                    rotate_left
                                                    · simp only [Act.put, List.setIfInBounds_toArray, List.set_cons_zero, List.set_cons_succ, i64_w, i32_w]
                                                      rfl
                                                    refine pure_ (i := 29) (N := some 87) (v := ?_) (a' := ?_) #[true, true, true, true, true, true, true, true, true, true, true, true, true, true, true, true, true, true, true, true, true, true, true, true, true, true, true, true, true, true] rfl rfl (any_of HT_.out (by kernel_rfl)) (fun _ _ _ h => h) (Or.inl ⟨by rfl, ?_⟩) ?_ ?_
                                                    rotate_left
                                                    · intro w'
                                                      go_simp
                                                      with_reducible rfl
                                                    rotate_left
                                                    · simp only [Act.put, List.setIfInBounds_toArray, List.set_cons_zero, List.set_cons_succ, i64_w, i32_w]
                                                      rfl
                                                    refine done_ (done_of HT_.out (by kernel_rfl)) ?_
                                                    try go_wp2
                                                    go_roundg k6
                                                    case measure => have := HJ2.out; have := HJ9.out; have := HK3.out; have := HK4.out; have := HK5.out; have := HK6.out; omega
                                                    case rel => exact ⟨(wrap64 (x9_6 + 1)), (x409000_6), (by first | rfl | (simp; done) | (simp [*]; done)), H', ⟨by have := HJ2.out; have := HJ9.out; have := HK3.out; have := HK4.out; have := HK5.out; have := HK6.out; omega⟩, ⟨by (with_reducible repeat (first | refine blk_drewN ?_ _ | refine blk_drew ?_ | refine blk_alloc ?_ _)); exact BK408.out⟩, ⟨by repeat (first | (with_reducible first | exact HB.out | apply below_alloc | apply pw_below_drewN | apply below_drew1 | refine below_set ?_ GE408.out) | exact HB.out)⟩⟩
                                                · rw [if_neg c25] at H
                                                  exact absurd H (by simp)
                                              · rw [if_neg c24] at H
                                                exact absurd H (by simp)
                                            · rw [if_neg c23] at H
                                              have c23b0 : decide (x9_6 < (((rd_T34 l1 x8_5).f1).length : Int)) = false := decide_eq_false c23
                                              clear c23
                                              have H' := Aside0.mk H
                                              clear H
                                              have p414 : 0 ≤ (x8_5 : Int) := of_decide_eq_true (by first | (with_reducible assumption) | assumption)
                                              have q414 : x8_5 < (l1.length : Int) := of_decide_eq_true (by first | (with_reducible assumption) | assumption)
                                              obtain ⟨ad414, A414_1, c414_1, e414, hx414_0, hx414_1, hl414_1, hi414_1⟩ := at_T34 HR1.out x8_5 p414 q414
                                              cases e414
                                              replace hx414_0 := (HB.out.cell (World.block_lt_of_cell? w _ hx414_0)).trans hx414_0
                                              replace hx414_1 := (HB.out.cell (World.block_lt_of_cell? w _ hx414_1)).trans hx414_1
                                              have HR414_1 := Aside0.mk hi414_1
                                              have HC414_1 := Aside0.mk hl414_1
                                              clear hi414_1 hl414_1
                                              replace p414 := eq_true p414
                                              replace q414 := eq_true q414
                                              go_wp2
                                              go_roundg k6
                                              case measure => have := HJ2.out; have := HJ9.out; have := HK3.out; have := HK4.out; have := HK5.out; have := HK6.out; omega
                                              case rel => exact ⟨(wrap64 (x8_5 + 1)), (x409000_6), (by first | rfl | (simp; done) | (simp [*]; done)), H', ⟨by have := HJ2.out; have := HJ9.out; have := HK3.out; have := HK4.out; have := HK5.out; have := HK6.out; omega⟩, ⟨by (with_reducible repeat (first | refine blk_drewN ?_ _ | refine blk_drew ?_ | refine blk_alloc ?_ _)); exact BK408.out⟩, ⟨by repeat (first | (with_reducible first | exact HB.out | apply below_alloc | apply pw_below_drewN | apply below_drew1 | refine below_set ?_ GE408.out) | exact HB.out)⟩⟩
                                          · rw [if_neg c22] at H
                                            exact absurd H (by simp)
                                        · rw [if_neg c21] at H
                                          exact absurd H (by simp)
                                  · rw [if_neg c20] at H
                                    have c20b0 : decide (x8_5 < (l1.length : Int)) = false := decide_eq_false c20
                                    clear c20
                                    have H' := Aside0.mk H
                                    clear H
                                    go_wp2
                                    go_roundg k5
                                    case measure => have := HJ2.out; have := HJ9.out; have := HK3.out; have := HK4.out; have := HK5.out; omega
                                    case rel => exact ⟨(wrap64 (x7_4 + 1)), (x409000_5), (by first | rfl | (simp; done) | (simp [*]; done)), H', ⟨by have := HJ2.out; have := HJ9.out; have := HK3.out; have := HK4.out; have := HK5.out; omega⟩, ⟨by (with_reducible repeat (first | refine blk_drewN ?_ _ | refine blk_drew ?_ | refine blk_alloc ?_ _)); exact BK408.out⟩, ⟨by repeat (first | (with_reducible first | exact HB.out | apply below_alloc | apply pw_below_drewN | apply below_drew1 | refine below_set ?_ GE408.out) | exact HB.out)⟩⟩
                            · rw [if_neg c19] at H
                              have c19b0 : decide (x7_4 < (((rd_T34 l0 x6_3).f1).length : Int)) = false := decide_eq_false c19
                              clear c19
                              have H' := Aside0.mk H
                              clear H
                              have p413 : 0 ≤ (x6_3 : Int) := of_decide_eq_true (by first | (with_reducible assumption) | assumption)
                              have q413 : x6_3 < (l0.length : Int) := of_decide_eq_true (by first | (with_reducible assumption) | assumption)
                              obtain ⟨ad413, A413_1, c413_1, e413, hx413_0, hx413_1, hl413_1, hi413_1⟩ := at_T34 HR0.out x6_3 p413 q413
                              cases e413
                              replace hx413_0 := (HB.out.cell (World.block_lt_of_cell? w _ hx413_0)).trans hx413_0
                              replace hx413_1 := (HB.out.cell (World.block_lt_of_cell? w _ hx413_1)).trans hx413_1
                              have HR413_1 := Aside0.mk hi413_1
                              have HC413_1 := Aside0.mk hl413_1
                              clear hi413_1 hl413_1
                              replace p413 := eq_true p413
                              replace q413 := eq_true q413
                              go_wp2
                              go_roundg k4
                              case measure => have := HJ2.out; have := HJ9.out; have := HK3.out; have := HK4.out; omega
                              case rel => exact ⟨(wrap64 (x6_3 + 1)), (x409000_4), (by first | rfl | (simp; done) | (simp [*]; done)), H', ⟨by have := HJ2.out; have := HJ9.out; have := HK3.out; have := HK4.out; omega⟩, ⟨by (with_reducible repeat (first | refine blk_drewN ?_ _ | refine blk_drew ?_ | refine blk_alloc ?_ _)); exact BK408.out⟩, ⟨by repeat (first | (with_reducible first | exact HB.out | apply below_alloc | apply pw_below_drewN | apply below_drew1 | refine below_set ?_ GE408.out) | exact HB.out)⟩⟩
                          · rw [if_neg c18] at H
                            exact absurd H (by simp)
                        · rw [if_neg c17] at H
                          exact absurd H (by simp)
                  · rw [if_neg c16] at H
                    have c16b0 : decide (x6_3 < (l0.length : Int)) = false := decide_eq_false c16
                    clear c16
                    simp only [Option.some.injEq, Prod.mk.injEq] at H
                    obtain ⟨rfl, rfl, rfl⟩ := H
                    have hcz40_0 : wr.cell? ⟨gb408, 0, none⟩ = some (.int .i64 x409000_3) := (blk_cell BK408.out 0).trans rfl
                    have hcz40_1 : wr.cell? ⟨gb408, 1, none⟩ = some (.slice none 0 0) := (blk_cell BK408.out 1).trans rfl
                    have hfz40_0 := blk_frozen BK408.out 0
                    have hfz40_1 := blk_frozen BK408.out 1
                    go_wp2
                    refine bodyPost_ret (results_ct rfl _ _ gb408 34 #[.int .i64 0, .slice none 0 0] (0, 0) _ rfl (by (with_reducible repeat (first | refine blk_drewN ?_ _ | refine blk_drew ?_ | refine blk_alloc ?_ _)); refine blk_put (cs := #[.int .i64 0, .slice none 0 0]) ?_ 1 _ rfl; (with_reducible repeat (first | refine blk_drewN ?_ _ | refine blk_drew ?_ | refine blk_alloc ?_ _)); refine blk_put (cs := #[.int .i64 x409000_3, .slice none 0 0]) ?_ 0 _ rfl; (with_reducible repeat (first | refine blk_drewN ?_ _ | refine blk_drew ?_ | refine blk_alloc ?_ _)); exact BK408.out) Try.underlying34 rfl (by kernel_rfl)) rfl ?_
                    exact ⟨_, by first | rfl | (simp [errW_none, errW_some] <;> rfl) | (simp [*, errW_none, errW_some] <;> rfl), by first | exact Kd.R_nil _ _ _ _ _ | exact Kd.N_nil _ _ _ _ _ | exact Kd.V_nil _ _ _ _ _ | exact Kd.Q_nil _ _ _ _ _ | exact Kd.S_nil _ _ _ _ _, by repeat (first | (with_reducible first | exact HB.out | apply below_alloc | apply pw_below_drewN | apply below_drew1 | refine below_set ?_ GE408.out) | exact HB.out)⟩

end Go.Proofs.Ytenaegjiggodkaa.PV

/- The reference's Agree is what Agree's contract says. -/
namespace Go.Proofs.Ytenaegjiggodkaa.PV
open Go.RowKit Go.Proofs.YtenaegjiggodkaaW.PrintWords Go.Proofs.YtenaegjiggodkaaW.PrintLast Go.Proofs.YtenaegjiggodkaaW.PrintMore
set_option linter.unusedVariables false
set_option linter.unusedSimpArgs false
theorem w64_succ {i n : Nat} (h : i < n) (hn : n ≤ 4611686018427387904) : wrap64 ((i : Int) + 1) = ((i + 1 : Nat) : Int) := by unfold wrap64; omega
theorem rd_nat (l : List Int) (j : Nat) : rd l (j : Int) = l.getD j 0 := by unfold rd; rw [Int.toNat_natCast]
theorem rd34_nat (l : List S34) (j : Nat) : rd_T34 l (j : Int) = l.getD j z34 := by unfold rd_T34; rw [Int.toNat_natCast]
theorem drop_any {α : Type} (p : α → Bool) (z : α) (l : List α) (j : Nat) (h : j < l.length) : (l.drop j).any p = (p (l.getD j z) || (l.drop (j + 1)).any p) := by
  rw [List.drop_eq_getElem_cons h, List.any_cons, List.getD_eq_getElem?_getD, List.getElem?_eq_getElem h]
  rfl
theorem okMB_no {m : Int} (h : m < 0 ∨ m > 1) : (!okMB m) = true := by unfold okMB; simp; omega
theorem okMB_yes {m : Int} (h0 : ¬ m < 0) (h1 : ¬ m > 1) : (!okMB m) = false := by unfold okMB; simp; omega
theorem okFB_low {f : Int} (h : f < 1) : (!okFB f) = true := by unfold okFB; simp; omega
theorem okFB_high {f : Int} (h : ¬ f < 1) : (!okFB f) = decide (f > 4) := by unfold okFB; rw [Bool.eq_iff_iff]; simp; omega
theorem px7 (l : List S34) : pixelsR l = 7 ↔ l.any badPx = true := by
  unfold pixelsR
  by_cases h : l.any badPx = true
  · rw [if_pos h]; exact ⟨fun _ => h, fun _ => rfl⟩
  · rw [if_neg h]
    constructor
    · intro e; split at e <;> omega
    · intro e; exact absurd e h
theorem px4 (l : List S34) (h : ¬ l.any badPx = true) : pixelsR l = 4 ↔ (decide (10 < l.length) || l.any longPx) = true := by
  unfold pixelsR
  rw [if_neg h, Bool.or_eq_true, decide_eq_true_eq]
  by_cases h2 : 10 < l.length ∨ l.any longPx = true
  · rw [if_pos h2]; exact ⟨fun _ => h2, fun _ => rfl⟩
  · rw [if_neg h2]; exact ⟨fun e => by omega, fun e => absurd e h2⟩
/-- Small lists. -/
def smallPx (l : List S34) : Prop := l.length ≤ 30 ∧ ∀ p ∈ l, p.f1.length ≤ 30
theorem small_at {l : List S34} (h : smallPx l) (i : Nat) : (l.getD i z34).f1.length ≤ 30 := by
  by_cases hi : i < l.length
  · rw [List.getD_eq_getElem?_getD, List.getElem?_eq_getElem hi]
    exact h.2 _ (List.getElem_mem hi)
  · rw [List.getD_eq_getElem?_getD, List.getElem?_eq_none (by omega)]
    simp [z34]
theorem px_l1 (l : List S34) (hs : smallPx l) (i : Nat) (hi : i < l.length) (R : Int → Int) (next : ∀ x, Ev (fun k => continuoref25_pixels.l0 k l x ((i + 1 : Nat) : Int)) (R x)) : ∀ (d j : Nat) (x : Int), (l.getD i z34).f1.length - j = d → j ≤ (l.getD i z34).f1.length →
    Ev (fun k => continuoref25_pixels.l1 k l x (i : Int) (j : Int)) (R (if ((l.getD i z34).f1.drop j).any (fun m => !okMB m) = true then 7 else x))
  | 0, j, x, hd, hj => by
    have e : j = (l.getD i z34).f1.length := by omega
    rw [List.drop_of_length_le (by omega)]
    refine Ev.step (f := fun k => continuoref25_pixels.l0 k l x ((i + 1 : Nat) : Int)) (fun k => ?_) (by simpa using next x)
    simp only [continuoref25_pixels.l1]
    rw [if_pos (by omega), if_pos (by omega), rd34_nat, if_neg (by omega), w64_succ hi (by have := hs.1; omega)]
  | d + 1, j, x, hd, hj => by
    have hjl : j < (l.getD i z34).f1.length := by omega
    have hsm := small_at hs i
    have ih := fun x => px_l1 l hs i hi R next d (j + 1) x (by omega) (by omega)
    rw [drop_any (fun m => !okMB m) 0 _ j hjl]
    by_cases h0 : (l.getD i z34).f1.getD j 0 < 0
    · refine Ev.step (f := fun k => continuoref25_pixels.l1 k l 7 (i : Int) ((j + 1 : Nat) : Int)) (fun k => ?_) ?_
      · simp only [continuoref25_pixels.l1]
        rw [if_pos (by omega), if_pos (by omega), rd34_nat, if_pos (by omega), if_pos (by omega), rd_nat, if_pos h0, w64_succ hjl (by omega)]
      · have hb : (!okMB ((l.getD i z34).f1.getD j 0)) = true := okMB_no (by omega)
        rw [hb, Bool.true_or, if_pos rfl]
        have := ih 7
        simpa using this
    · by_cases h1 : (l.getD i z34).f1.getD j 0 > 1
      · refine Ev.step (f := fun k => continuoref25_pixels.l1 k l 7 (i : Int) ((j + 1 : Nat) : Int)) (fun k => ?_) ?_
        · simp only [continuoref25_pixels.l1]
          rw [if_pos (by omega), if_pos (by omega), rd34_nat, if_pos (by omega), if_pos (by omega), rd_nat, if_neg h0, if_pos h1, w64_succ hjl (by omega)]
        · have hb : (!okMB ((l.getD i z34).f1.getD j 0)) = true := okMB_no (by omega)
          rw [hb, Bool.true_or, if_pos rfl]
          have := ih 7
          simpa using this
      · refine Ev.step (f := fun k => continuoref25_pixels.l1 k l x (i : Int) ((j + 1 : Nat) : Int)) (fun k => ?_) ?_
        · simp only [continuoref25_pixels.l1]
          rw [if_pos (by omega), if_pos (by omega), rd34_nat, if_pos (by omega), if_pos (by omega), rd_nat, if_neg h0, if_neg h1, w64_succ hjl (by omega)]
        · have hb : (!okMB ((l.getD i z34).f1.getD j 0)) = false := okMB_yes h0 h1
          rw [hb, Bool.false_or]
          exact ih x
theorem px_l0 (l : List S34) (hs : smallPx l) : ∀ (d i : Nat) (x : Int), l.length - i = d → i ≤ l.length → Ev (fun k => continuoref25_pixels.l0 k l x (i : Int)) (if (l.drop i).any badPx = true then 7 else x)
  | 0, i, x, hd, hi => by
    rw [List.drop_of_length_le (by omega)]
    refine Ev.step (f := fun _ => some x) (fun k => ?_) (by simpa using Ev.now x)
    simp only [continuoref25_pixels.l0]
    rw [if_neg (by omega)]
  | d + 1, i, x, hd, hi => by
    have hil : i < l.length := by omega
    have ih := fun x => px_l0 l hs d (i + 1) x (by omega) (by omega)
    have hl1 := fun x => px_l1 l hs i hil (fun x => if (l.drop (i + 1)).any badPx = true then 7 else x) ih _ 0 x rfl (Nat.zero_le _)
    rw [drop_any badPx z34 l i hil]
    have hbad : badPx (l.getD i z34) = (!okFB (l.getD i z34).f0 || (l.getD i z34).f1.any fun m => !okMB m) := rfl
    rw [hbad]
    simp only [List.drop_zero] at hl1
    generalize (l.drop (i + 1)).any badPx = B at *
    generalize ((l.getD i z34).f1.any fun m => !okMB m) = M at *
    have hj1 : ∀ b, Ev (fun k => continuoref25_pixels.j1 k l x (i : Int) b) (if (b || M || B) = true then 7 else x) := by
      intro b
      cases b
      · refine Ev.step (f := fun k => continuoref25_pixels.j2 k l x (i : Int)) (fun k => by simp only [continuoref25_pixels.j1]; rw [if_neg (by simp)]) ?_
        refine Ev.step (f := fun k => continuoref25_pixels.l1 k l x (i : Int) 0) (fun k => by simp only [continuoref25_pixels.j2]) ?_
        have := hl1 x
        cases B <;> cases M <;> simpa using this
      · refine Ev.step (f := fun k => continuoref25_pixels.j2 k l 7 (i : Int)) (fun k => by simp only [continuoref25_pixels.j1, if_true]) ?_
        refine Ev.step (f := fun k => continuoref25_pixels.l1 k l 7 (i : Int) 0) (fun k => by simp only [continuoref25_pixels.j2]) ?_
        have := hl1 7
        cases B <;> cases M <;> simpa using this
    by_cases h0 : (l.getD i z34).f0 < 1
    · have hb : (!okFB (l.getD i z34).f0) = true := okFB_low h0
      rw [hb]
      refine Ev.step (f := fun k => continuoref25_pixels.j1 k l x (i : Int) true) (fun k => ?_) (hj1 true)
      simp only [continuoref25_pixels.l0]
      rw [if_pos (by omega), if_pos (by omega), rd34_nat, if_pos h0]
    · have hb : (!okFB (l.getD i z34).f0) = decide ((l.getD i z34).f0 > 4) := okFB_high h0
      rw [hb]
      refine Ev.step (f := fun k => continuoref25_pixels.j1 k l x (i : Int) (decide ((l.getD i z34).f0 > 4))) (fun k => ?_) (hj1 _)
      simp only [continuoref25_pixels.l0]
      rw [if_pos (by omega), if_pos (by omega), rd34_nat, if_neg h0]
theorem px_f (l : List S34) (hs : smallPx l) : Ev (fun k => continuoref25_pixels.f k l) (if l.any badPx = true then 7 else 0) := by
  have := px_l0 l hs l.length 0 0 rfl (Nat.zero_le _)
  simpa [continuoref25_pixels.f] using this
theorem many_l0 (l : List S34) (hs : smallPx l) : ∀ (d i : Nat), l.length - i = d → i ≤ l.length → Ev (fun k => continuoref25_Many.l0 k l (i : Int)) ((l.drop i).any longPx)
  | 0, i, hd, hi => by
    rw [List.drop_of_length_le (by omega)]
    refine Ev.step (f := fun _ => some false) (fun k => ?_) (by simpa using Ev.now false)
    simp only [continuoref25_Many.l0]
    rw [if_neg (by omega)]
  | d + 1, i, hd, hi => by
    have hil : i < l.length := by omega
    rw [drop_any longPx z34 l i hil]
    by_cases h : 10 < (l.getD i z34).f1.length
    · have hb : longPx (l.getD i z34) = true := by unfold longPx; simpa using h
      rw [hb, Bool.true_or]
      refine Ev.step (f := fun _ => some true) (fun k => ?_) (Ev.now true)
      simp only [continuoref25_Many.l0]
      rw [if_pos (by omega), if_pos (by omega), rd34_nat, if_pos (by omega)]
    · have hb : longPx (l.getD i z34) = false := by unfold longPx; simpa using h
      rw [hb, Bool.false_or]
      refine Ev.step (f := fun k => continuoref25_Many.l0 k l ((i + 1 : Nat) : Int)) (fun k => ?_) (many_l0 l hs d (i + 1) (by omega) (by omega))
      simp only [continuoref25_Many.l0]
      rw [if_pos (by omega), if_pos (by omega), rd34_nat, if_neg (by omega), w64_succ hil (by have := hs.1; omega)]
theorem many_f (l : List S34) (hs : smallPx l) : Ev (fun k => continuoref25_Many.f k l) (decide (10 < l.length) || l.any longPx) := by
  by_cases h : 10 < l.length
  · have : (fun k => continuoref25_Many.f k l) = fun _ => some true := by funext k; unfold continuoref25_Many.f; rw [if_pos (by omega)]
    rw [this]
    simpa [h] using Ev.now true
  · have h2 := many_l0 l hs l.length 0 rfl (Nat.zero_le _)
    have : (fun k => continuoref25_Many.f k l) = fun k => continuoref25_Many.l0 k l 0 := by funext k; unfold continuoref25_Many.f; rw [if_neg (by omega)]
    rw [this]
    simpa [h] using h2
/-! ### the search -/
theorem ag_l3 (a b : List S34) (ha : smallPx a) (hb : smallPx b) (i : Nat) (hi : i < a.length) (j : Nat) (hj : j < (a.getD i z34).f1.length) (q : Nat) (hq : q < b.length) (R : Int × List Int × Int) (next : Ev (fun k => continuoref25_Agree.l2 k a b (i : Int) (j : Int) ((q + 1 : Nat) : Int)) R) :
    ∀ (d n : Nat), (b.getD q z34).f1.length - n = d → n ≤ (b.getD q z34).f1.length →
      Ev (fun k => continuoref25_Agree.l3 k a b (i : Int) (j : Int) (q : Int) (n : Int)) (if (b.getD q z34).f0 = (a.getD i z34).f0 ∧ (a.getD i z34).f1.getD j 0 ∈ (b.getD q z34).f1.drop n then ((a.getD i z34).f0, [(a.getD i z34).f1.getD j 0], 0) else R)
  | 0, n, hd, hn => by
    have e : n = (b.getD q z34).f1.length := by omega
    rw [List.drop_of_length_le (by omega), if_neg (by simp)]
    refine Ev.step (f := fun k => continuoref25_Agree.l2 k a b (i : Int) (j : Int) ((q + 1 : Nat) : Int)) (fun k => ?_) next
    simp only [continuoref25_Agree.l3]
    rw [if_pos (by omega), if_pos (by omega), rd34_nat, if_neg (by omega), w64_succ hq (by have := hb.1; omega)]
  | d + 1, n, hd, hn => by
    have hnl : n < (b.getD q z34).f1.length := by omega
    have ih := ag_l3 a b ha hb i hi j hj q hq R next d (n + 1) (by omega) (by omega)
    have hsm := small_at hb q
    have hdr := List.drop_eq_getElem_cons hnl
    have hge : (b.getD q z34).f1[n] = (b.getD q z34).f1.getD n 0 := by rw [List.getD_eq_getElem?_getD (l := (b.getD q z34).f1), List.getElem?_eq_getElem hnl]; rfl
    rw [hge] at hdr
    by_cases h0 : (b.getD q z34).f0 = (a.getD i z34).f0
    · by_cases h1 : (b.getD q z34).f1.getD n 0 = (a.getD i z34).f1.getD j 0
      · rw [if_pos ⟨h0, by rw [hdr, h1]; simp⟩]
        refine Ev.step (f := fun _ => some ((a.getD i z34).f0, [(a.getD i z34).f1.getD j 0], 0)) (fun k => ?_) (Ev.now _)
        simp only [continuoref25_Agree.l3]
        rw [if_pos (by omega), if_pos (by omega), rd34_nat, if_pos (by omega), if_pos (by omega), if_pos (by omega), rd34_nat, if_pos h0, if_pos (by omega), if_pos (by omega), if_pos (by omega), rd_nat, rd_nat, if_pos h1]
      · have hc : ((b.getD q z34).f0 = (a.getD i z34).f0 ∧ (a.getD i z34).f1.getD j 0 ∈ (b.getD q z34).f1.drop n) ↔ ((b.getD q z34).f0 = (a.getD i z34).f0 ∧ (a.getD i z34).f1.getD j 0 ∈ (b.getD q z34).f1.drop (n + 1)) := by
          rw [hdr, List.mem_cons]
          constructor
          · rintro ⟨x, y | y⟩
            · exact absurd y.symm h1
            · exact ⟨x, y⟩
          · rintro ⟨x, y⟩; exact ⟨x, .inr y⟩
        rw [show (if (b.getD q z34).f0 = (a.getD i z34).f0 ∧ (a.getD i z34).f1.getD j 0 ∈ (b.getD q z34).f1.drop n then ((a.getD i z34).f0, [(a.getD i z34).f1.getD j 0], (0 : Int)) else R) = if (b.getD q z34).f0 = (a.getD i z34).f0 ∧ (a.getD i z34).f1.getD j 0 ∈ (b.getD q z34).f1.drop (n + 1) then ((a.getD i z34).f0, [(a.getD i z34).f1.getD j 0], 0) else R from by simp only [hc]]
        refine Ev.step (f := fun k => continuoref25_Agree.l3 k a b (i : Int) (j : Int) (q : Int) ((n + 1 : Nat) : Int)) (fun k => ?_) ih
        simp only [continuoref25_Agree.l3]
        rw [if_pos (by omega), if_pos (by omega), rd34_nat, if_pos (by omega), if_pos (by omega), if_pos (by omega), rd34_nat, if_pos h0, if_pos (by omega), if_pos (by omega), if_pos (by omega), rd_nat, rd_nat, if_neg h1, w64_succ hnl (by omega)]
    · rw [if_neg (fun h => h0 h.1)]
      rw [if_neg (fun h => h0 h.1)] at ih
      refine Ev.step (f := fun k => continuoref25_Agree.l3 k a b (i : Int) (j : Int) (q : Int) ((n + 1 : Nat) : Int)) (fun k => ?_) ih
      simp only [continuoref25_Agree.l3]
      rw [if_pos (by omega), if_pos (by omega), rd34_nat, if_pos (by omega), if_pos (by omega), if_pos (by omega), rd34_nat, if_neg h0, w64_succ hnl (by omega)]
def inB (f m : Int) (q : S34) : Bool := decide (q.f0 = f) && q.f1.contains m
theorem ag_l2 (a b : List S34) (ha : smallPx a) (hb : smallPx b) (i : Nat) (hi : i < a.length) (j : Nat) (hj : j < (a.getD i z34).f1.length) (R : Int × List Int × Int) (next : Ev (fun k => continuoref25_Agree.l1 k a b (i : Int) ((j + 1 : Nat) : Int)) R) :
    ∀ (d q : Nat), b.length - q = d → q ≤ b.length → Ev (fun k => continuoref25_Agree.l2 k a b (i : Int) (j : Int) (q : Int)) (if (b.drop q).any (inB (a.getD i z34).f0 ((a.getD i z34).f1.getD j 0)) = true then ((a.getD i z34).f0, [(a.getD i z34).f1.getD j 0], 0) else R)
  | 0, q, hd, hq => by
    rw [List.drop_of_length_le (by omega), if_neg (by simp)]
    have hsm := small_at ha i
    refine Ev.step (f := fun k => continuoref25_Agree.l1 k a b (i : Int) ((j + 1 : Nat) : Int)) (fun k => ?_) next
    simp only [continuoref25_Agree.l2]
    rw [if_neg (by omega), w64_succ hj (by omega)]
  | d + 1, q, hd, hq => by
    have hql : q < b.length := by omega
    have ih := ag_l2 a b ha hb i hi j hj R next d (q + 1) (by omega) (by omega)
    have h3 := ag_l3 a b ha hb i hi j hj q hql _ ih _ 0 rfl (Nat.zero_le _)
    rw [drop_any (inB _ _) z34 b q hql]
    simp only [List.drop_zero] at h3
    refine Ev.step (f := fun k => continuoref25_Agree.l3 k a b (i : Int) (j : Int) (q : Int) 0) (fun k => ?_) ?_
    · simp only [continuoref25_Agree.l2]
      rw [if_pos (by omega)]
    · generalize (b.drop (q + 1)).any (inB (a.getD i z34).f0 ((a.getD i z34).f1.getD j 0)) = B at *
      by_cases hc : (b.getD q z34).f0 = (a.getD i z34).f0 ∧ (a.getD i z34).f1.getD j 0 ∈ (b.getD q z34).f1
      · rw [if_pos hc] at h3
        have : inB (a.getD i z34).f0 ((a.getD i z34).f1.getD j 0) (b.getD q z34) = true := by unfold inB; simp only [Bool.and_eq_true, decide_eq_true_eq, List.contains_iff_mem]; exact hc
        rw [this, Bool.true_or, if_pos rfl]
        exact h3
      · rw [if_neg hc] at h3
        have : inB (a.getD i z34).f0 ((a.getD i z34).f1.getD j 0) (b.getD q z34) = false := by
          rw [Bool.eq_false_iff]; unfold inB; simp only [ne_eq, Bool.and_eq_true, decide_eq_true_eq, List.contains_iff_mem]; exact hc
        rw [this, Bool.false_or]
        exact h3
/-- What is found from a list's rest on. -/
def foundM (b : List S34) (f : Int) (l : List Int) (R : Int × List Int × Int) : Int × List Int × Int := match firstM b f l with
  | some m => (f, [m], 0)
  | none => R
theorem ag_l1 (a b : List S34) (ha : smallPx a) (hb : smallPx b) (i : Nat) (hi : i < a.length) (R : Int × List Int × Int) (next : Ev (fun k => continuoref25_Agree.l0 k a b ((i + 1 : Nat) : Int)) R) :
    ∀ (d j : Nat), (a.getD i z34).f1.length - j = d → j ≤ (a.getD i z34).f1.length → Ev (fun k => continuoref25_Agree.l1 k a b (i : Int) (j : Int)) (foundM b (a.getD i z34).f0 ((a.getD i z34).f1.drop j) R)
  | 0, j, hd, hj => by
    rw [List.drop_of_length_le (by omega)]
    refine Ev.step (f := fun k => continuoref25_Agree.l0 k a b ((i + 1 : Nat) : Int)) (fun k => ?_) (by simpa [foundM, firstM] using next)
    simp only [continuoref25_Agree.l1]
    rw [if_pos (by omega), if_pos (by omega), rd34_nat, if_neg (by omega), w64_succ hi (by have := ha.1; omega)]
  | d + 1, j, hd, hj => by
    have hjl : j < (a.getD i z34).f1.length := by omega
    have ih := ag_l1 a b ha hb i hi R next d (j + 1) (by omega) (by omega)
    have h2 := ag_l2 a b ha hb i hi j hjl _ ih _ 0 rfl (Nat.zero_le _)
    simp only [List.drop_zero] at h2
    refine Ev.step (f := fun k => continuoref25_Agree.l2 k a b (i : Int) (j : Int) 0) (fun k => ?_) ?_
    · simp only [continuoref25_Agree.l1]
      rw [if_pos (by omega), if_pos (by omega), rd34_nat, if_pos (by omega)]
    · have hdr := List.drop_eq_getElem_cons hjl
      have hge : (a.getD i z34).f1[j] = (a.getD i z34).f1.getD j 0 := by rw [List.getD_eq_getElem?_getD (l := (a.getD i z34).f1), List.getElem?_eq_getElem hjl]; rfl
      rw [hge] at hdr
      rw [hdr]
      have hP : hasPx b (a.getD i z34).f0 ((a.getD i z34).f1.getD j 0) = b.any (inB (a.getD i z34).f0 ((a.getD i z34).f1.getD j 0)) := rfl
      unfold foundM firstM
      rw [List.find?_cons]
      rw [hP]
      cases hB : b.any (inB (a.getD i z34).f0 ((a.getD i z34).f1.getD j 0)) with
      | true => rw [hB, if_pos rfl] at h2; exact h2
      | false => rw [hB, if_neg (by simp)] at h2; exact h2
def foundP (b : List S34) (l : List S34) : Int × List Int × Int := match firstP b l with
  | some (f, m) => (f, [m], 0)
  | none => (0, [], 13)
theorem ag_l0 (a b : List S34) (ha : smallPx a) (hb : smallPx b) : ∀ (d i : Nat), a.length - i = d → i ≤ a.length → Ev (fun k => continuoref25_Agree.l0 k a b (i : Int)) (foundP b (a.drop i))
  | 0, i, hd, hi => by
    rw [List.drop_of_length_le (by omega)]
    refine Ev.step (f := fun _ => some (0, ([] : List Int), 13)) (fun k => ?_) (by simpa [foundP, firstP] using Ev.now _)
    simp only [continuoref25_Agree.l0]
    rw [if_neg (by omega)]
  | d + 1, i, hd, hi => by
    have hil : i < a.length := by omega
    have ih := ag_l0 a b ha hb d (i + 1) (by omega) (by omega)
    have h1 := ag_l1 a b ha hb i hil _ ih _ 0 rfl (Nat.zero_le _)
    simp only [List.drop_zero] at h1
    refine Ev.step (f := fun k => continuoref25_Agree.l1 k a b (i : Int) 0) (fun k => ?_) ?_
    · simp only [continuoref25_Agree.l0]
      rw [if_pos (by omega)]
    · have hdr := List.drop_eq_getElem_cons hil
      have hge : a[i] = a.getD i z34 := by rw [List.getD_eq_getElem?_getD, List.getElem?_eq_getElem hil]; rfl
      rw [hdr, hge]
      unfold foundP firstP
      unfold foundM at h1
      cases hM : firstM b (a.getD i z34).f0 (a.getD i z34).f1 with
      | some m => rw [hM] at h1; exact h1
      | none => rw [hM] at h1; exact h1
theorem agree_ref (a b : List S34) (ha : smallPx a) (hb : smallPx b) : ∃ k, continuoref25_Agree.f k a b = some (agreeR a b) := by
  refine Ev.rounds ?_
  have pa := px_f a ha
  have pb := px_f b hb
  have ma := many_f a ha
  have mb := many_f b hb
  have l0 := ag_l0 a b ha hb a.length 0 rfl (Nat.zero_le _)
  have hR : agreeR a b = if a.any badPx = true ∨ b.any badPx = true then (0, [], 7) else if (decide (10 < a.length) || a.any longPx) = true ∨ (decide (10 < b.length) || b.any longPx) = true then (0, [], 4) else foundP b a := by
    unfold agreeR
    simp only [px7]
    by_cases h : a.any badPx = true ∨ b.any badPx = true
    · rw [if_pos h, if_pos h]
    · rw [if_neg h, if_neg h]
      simp only [px4 a (fun e => h (.inl e)), px4 b (fun e => h (.inr e))]
      rfl
  rw [hR]
  have hj0 : Ev (fun k => continuoref25_Agree.j0 k a b true) (0, [], 7) := Ev.step (f := fun _ => some (0, [], 7)) (fun k => by simp only [continuoref25_Agree.j0, if_true]) (Ev.now _)
  have hj1 : Ev (fun k => continuoref25_Agree.j1 k a b true) (0, [], 4) := Ev.step (f := fun _ => some (0, [], 4)) (fun k => by simp only [continuoref25_Agree.j1, if_true]) (Ev.now _)
  have hj1f : Ev (fun k => continuoref25_Agree.j1 k a b false) (foundP b a) := Ev.step (f := fun k => continuoref25_Agree.l0 k a b 0) (fun k => by simp only [continuoref25_Agree.j1]; rfl) (by simpa using l0)
  have hf : (fun k => continuoref25_Agree.f k a b) = fun k => (continuoref25_pixels.f k a).bind fun t409 => (if t409 = 0 then ((continuoref25_pixels.f k b).bind fun t410 => (continuoref25_Agree.j0 k a b (t410 != 0))) else (continuoref25_Agree.j0 k a b true)) := by funext k; rfl
  rw [hf]
  by_cases ea : a.any badPx = true
  · rw [if_pos (Or.inl ea)]
    rw [if_pos ea] at pa
    refine Ev.bind pa ?_
    simpa using hj0
  · rw [if_neg ea] at pa
    refine Ev.bind pa ?_
    simp only [if_true]
    by_cases eb : b.any badPx = true
    · rw [if_pos (Or.inr eb)]
      rw [if_pos eb] at pb
      refine Ev.bind pb ?_
      simpa using hj0
    · rw [if_neg (fun h => h.elim ea eb)]
      rw [if_neg eb] at pb
      refine Ev.bind pb ?_
      have e0 : ((0 : Int) != 0) = false := rfl
      simp only [e0]
      refine Ev.step (f := fun k => (continuoref25_Many.f k a).bind fun t411 => (if t411 = true then (continuoref25_Agree.j1 k a b true) else ((continuoref25_Many.f k b).bind fun t412 => (continuoref25_Agree.j1 k a b t412)))) (fun k => by simp only [continuoref25_Agree.j0]; rfl) ?_
      refine Ev.bind ma ?_
      cases hma : (decide (10 < a.length) || a.any longPx) with
      | true =>
        rw [if_pos (Or.inl rfl)]
        simpa using hj1
      | false =>
        simp only [Bool.false_eq_true, if_false, false_or]
        refine Ev.bind mb ?_
        cases hmb : (decide (10 < b.length) || b.any longPx) with
        | true => rw [if_pos rfl]; exact hj1
        | false => rw [if_neg (by simp)]; exact hj1f
end Go.Proofs.Ytenaegjiggodkaa.PV

/- Fields of a picture that is no variable. -/
namespace Go.Proofs.Ytenaegjiggodkaa.PV
open Go.RowKit
theorem field49_4 (a b c d e : Value) (w : World) : (Instr.field 49 (.agg #[a, b, c, d, e]) 4).run Try.prog w = .ok e w := by kernel_rfl
end Go.Proofs.Ytenaegjiggodkaa.PV

-- Printed by vprint.py (a program of this claim over the translation's own print). Lean checks it.
namespace Go.Proofs.Ytenaegjiggodkaa.PV
open Go.RowKit Go.Proofs.YtenaegjiggodkaaW.PrintWords Go.Proofs.YtenaegjiggodkaaW.PrintLast Go.Proofs.YtenaegjiggodkaaW.PrintMore
attribute [local go_sem] max2_int min2_int max_two min_two max_three min_three max_four min_four   -- for this text's walks alone
set_option linter.unusedVariables false
set_option linter.unusedSimpArgs false

/-! ### video_right: function 83 -/
def video_right.f (a0 : Int) (a1 : Int) (a2 : Int) (a3 : Int) : Option (Bool) := (video_formats.f a0).bind fun t203 => (if t203 = true then ((video_modifiers.f a1).bind fun t204 => (if t204 = true then (if a2 ≥ 1 then (if a2 ≤ 64 then (if a3 ≥ 1 then (some (decide (a3 ≤ 64))) else (some false)) else (some false)) else (some false)) else (some false))) else (some false))
set_option maxHeartbeats 8000000 in
set_option maxRecDepth 100000 in
theorem video_right.calls (a0 : Int) (a1 : Int) (a2 : Int) (a3 : Int) (r : Bool) (w : World) (h : video_right.f a0 a1 a2 a3 = some r) :
    Calls Try.prog 83 #[.int .i64 a0, .int .i64 a1, .int .i64 a2, .int .i64 a3] w fun e w' => e = .returned (.bool r) ∧ Drawn0 w w' := by
  have H : ((video_formats.f a0).bind fun t203 => (if t203 = true then ((video_modifiers.f a1).bind fun t204 => (if t204 = true then (if a2 ≥ 1 then (if a2 ≤ 64 then (if a3 ≥ 1 then (some (decide (a3 ≤ 64))) else (some false)) else (some false)) else (some false)) else (some false))) else (some false))) = some r := h
  clear h
  replace H := Option.bind_eq_some_iff.mp H
  obtain ⟨t203, A50, H⟩ := H
  replace H : (if t203 = true then ((video_modifiers.f a1).bind fun t204 => (if t204 = true then (if a2 ≥ 1 then (if a2 ≤ 64 then (if a3 ≥ 1 then (some (decide (a3 ≤ 64))) else (some false)) else (some false)) else (some false)) else (some false))) else (some false)) = some r := H
  have A5 := Aside0.mk A50
  clear A50
  by_cases c6 : t203 = true
  · subst c6
    have H1 : ((video_modifiers.f a1).bind fun t204 => (if t204 = true then (if a2 ≥ 1 then (if a2 ≤ 64 then (if a3 ≥ 1 then (some (decide (a3 ≤ 64))) else (some false)) else (some false)) else (some false)) else (some false))) = some r := by rw [if_pos rfl] at H; exact H
    clear H
    have H := H1
    clear H1
    replace H := Option.bind_eq_some_iff.mp H
    obtain ⟨t204, A70, H⟩ := H
    replace H : (if t204 = true then (if a2 ≥ 1 then (if a2 ≤ 64 then (if a3 ≥ 1 then (some (decide (a3 ≤ 64))) else (some false)) else (some false)) else (some false)) else (some false)) = some r := H
    have A7 := Aside0.mk A70
    clear A70
    by_cases c8 : t204 = true
    · subst c8
      have H1 : (if a2 ≥ 1 then (if a2 ≤ 64 then (if a3 ≥ 1 then (some (decide (a3 ≤ 64))) else (some false)) else (some false)) else (some false)) = some r := by rw [if_pos rfl] at H; exact H
      clear H
      have H := H1
      clear H1
      by_cases c9 : a2 ≥ 1
      · rw [if_pos c9] at H
        have c9b0 : decide (1 ≤ a2) = true := decide_eq_true c9
        clear c9
        by_cases c10 : a2 ≤ 64
        · rw [if_pos c10] at H
          have c10b0 : decide (a2 ≤ 64) = true := decide_eq_true c10
          clear c10
          by_cases c11 : a3 ≥ 1
          · rw [if_pos c11] at H
            have c11b0 : decide (1 ≤ a3) = true := decide_eq_true c11
            clear c11
            obtain rfl := Option.some.inj H
            go_enter Try.func83, Try.ntmps83
            go_wp2_with (first | ((with_reducible refine gate_callee (f := 115) rfl ?_); refine goesL_ (some 10) rfl rfl Try.func115 (by kernel_rfl) rfl #[.int .i64 a0] rfl (by (try simp only [List.map_toArray, List.map_cons, List.map_nil]); first | done | rfl | (simp only [List.length_drop, List.length_take]; rfl)) ?_; (with_reducible refine (video_formats.calls a0 true _ A5.out).mono ?_); rintro e w' ⟨rfl, ⟨nd, rfl⟩⟩; refine ⟨_, rfl, ?_⟩) | (go_at_call 95; (with_reducible refine (video_modifiers.calls a1 true _ A7.out).mono ?_); rintro e w' ⟨rfl, ⟨nd, rfl⟩⟩))
            go_ret
            exact ⟨by first | rfl | (simp; done) | (simp [*]; done), by repeat (first | exact Drawn0.refl _ | apply Drawn0.step)⟩
          · rw [if_neg c11] at H
            have c11b0 : decide (1 ≤ a3) = false := decide_eq_false c11
            clear c11
            obtain rfl := Option.some.inj H
            go_enter Try.func83, Try.ntmps83
            go_wp2_with (first | ((with_reducible refine gate_callee (f := 115) rfl ?_); refine goesL_ (some 10) rfl rfl Try.func115 (by kernel_rfl) rfl #[.int .i64 a0] rfl (by (try simp only [List.map_toArray, List.map_cons, List.map_nil]); first | done | rfl | (simp only [List.length_drop, List.length_take]; rfl)) ?_; (with_reducible refine (video_formats.calls a0 true _ A5.out).mono ?_); rintro e w' ⟨rfl, ⟨nd, rfl⟩⟩; refine ⟨_, rfl, ?_⟩) | (go_at_call 95; (with_reducible refine (video_modifiers.calls a1 true _ A7.out).mono ?_); rintro e w' ⟨rfl, ⟨nd, rfl⟩⟩))
            go_ret
            exact ⟨by first | rfl | (simp; done) | (simp [*]; done), by repeat (first | exact Drawn0.refl _ | apply Drawn0.step)⟩
        · rw [if_neg c10] at H
          have c10b0 : decide (a2 ≤ 64) = false := decide_eq_false c10
          clear c10
          obtain rfl := Option.some.inj H
          go_enter Try.func83, Try.ntmps83
          go_wp2_with (first | ((with_reducible refine gate_callee (f := 115) rfl ?_); refine goesL_ (some 10) rfl rfl Try.func115 (by kernel_rfl) rfl #[.int .i64 a0] rfl (by (try simp only [List.map_toArray, List.map_cons, List.map_nil]); first | done | rfl | (simp only [List.length_drop, List.length_take]; rfl)) ?_; (with_reducible refine (video_formats.calls a0 true _ A5.out).mono ?_); rintro e w' ⟨rfl, ⟨nd, rfl⟩⟩; refine ⟨_, rfl, ?_⟩) | (go_at_call 95; (with_reducible refine (video_modifiers.calls a1 true _ A7.out).mono ?_); rintro e w' ⟨rfl, ⟨nd, rfl⟩⟩))
          go_ret
          exact ⟨by first | rfl | (simp; done) | (simp [*]; done), by repeat (first | exact Drawn0.refl _ | apply Drawn0.step)⟩
      · rw [if_neg c9] at H
        have c9b0 : decide (1 ≤ a2) = false := decide_eq_false c9
        clear c9
        obtain rfl := Option.some.inj H
        go_enter Try.func83, Try.ntmps83
        go_wp2_with (first | ((with_reducible refine gate_callee (f := 115) rfl ?_); refine goesL_ (some 10) rfl rfl Try.func115 (by kernel_rfl) rfl #[.int .i64 a0] rfl (by (try simp only [List.map_toArray, List.map_cons, List.map_nil]); first | done | rfl | (simp only [List.length_drop, List.length_take]; rfl)) ?_; (with_reducible refine (video_formats.calls a0 true _ A5.out).mono ?_); rintro e w' ⟨rfl, ⟨nd, rfl⟩⟩; refine ⟨_, rfl, ?_⟩) | (go_at_call 95; (with_reducible refine (video_modifiers.calls a1 true _ A7.out).mono ?_); rintro e w' ⟨rfl, ⟨nd, rfl⟩⟩))
        go_ret
        exact ⟨by first | rfl | (simp; done) | (simp [*]; done), by repeat (first | exact Drawn0.refl _ | apply Drawn0.step)⟩
    · replace c8 := Bool.eq_false_iff.mpr c8
      subst c8
      have H1 : (some false) = some r := by rw [if_neg (show ¬ (false = true) by decide)] at H; exact H
      clear H
      have H := H1
      clear H1
      obtain rfl := Option.some.inj H
      go_enter Try.func83, Try.ntmps83
      go_wp2_with (first | ((with_reducible refine gate_callee (f := 115) rfl ?_); refine goesL_ (some 10) rfl rfl Try.func115 (by kernel_rfl) rfl #[.int .i64 a0] rfl (by (try simp only [List.map_toArray, List.map_cons, List.map_nil]); first | done | rfl | (simp only [List.length_drop, List.length_take]; rfl)) ?_; (with_reducible refine (video_formats.calls a0 true _ A5.out).mono ?_); rintro e w' ⟨rfl, ⟨nd, rfl⟩⟩; refine ⟨_, rfl, ?_⟩) | (go_at_call 95; (with_reducible refine (video_modifiers.calls a1 false _ A7.out).mono ?_); rintro e w' ⟨rfl, ⟨nd, rfl⟩⟩))
      go_ret
      exact ⟨by first | rfl | (simp; done) | (simp [*]; done), by repeat (first | exact Drawn0.refl _ | apply Drawn0.step)⟩
  · replace c6 := Bool.eq_false_iff.mpr c6
    subst c6
    have H1 : (some false) = some r := by rw [if_neg (show ¬ (false = true) by decide)] at H; exact H
    clear H
    have H := H1
    clear H1
    obtain rfl := Option.some.inj H
    go_enter Try.func83, Try.ntmps83
    go_wp2_with (first | ((with_reducible refine gate_callee (f := 115) rfl ?_); refine goesL_ (some 10) rfl rfl Try.func115 (by kernel_rfl) rfl #[.int .i64 a0] rfl (by (try simp only [List.map_toArray, List.map_cons, List.map_nil]); first | done | rfl | (simp only [List.length_drop, List.length_take]; rfl)) ?_; (with_reducible refine (video_formats.calls a0 false _ A5.out).mono ?_); rintro e w' ⟨rfl, ⟨nd, rfl⟩⟩; refine ⟨_, rfl, ?_⟩))
    go_ret
    exact ⟨by first | rfl | (simp; done) | (simp [*]; done), by repeat (first | exact Drawn0.refl _ | apply Drawn0.step)⟩

end Go.Proofs.Ytenaegjiggodkaa.PV

/- The contracts of video's planes. -/
namespace Go.Proofs.Ytenaegjiggodkaa.PV
open Go.RowKit Go.Proofs.YtenaegjiggodkaaW.PrintWords Go.Proofs.YtenaegjiggodkaaW.PrintLast Go.Proofs.YtenaegjiggodkaaW.PrintMore
set_option linter.unusedVariables false
set_option linter.unusedSimpArgs false
/-- The format of a number, as the program holds it. -/
def ofV (n : Int) : Value := if n = 4 then .iface 169 (.agg #[]) else .iface 167 (.agg #[.int .i64 (if n = 1 then 1 else if n = 2 then 3 else 4)])
theorem idx170_1 (w : World) : (Instr.index 170 (.agg #[.nilIface, .iface 167 (.agg #[.int .i64 1]), .iface 167 (.agg #[.int .i64 3]), .iface 167 (.agg #[.int .i64 4]), .iface 169 (.agg #[])]) (.int .i64 1)).run Try.prog w = .ok (.iface 167 (.agg #[.int .i64 1])) w := by kernel_rfl
theorem idx170_2 (w : World) : (Instr.index 170 (.agg #[.nilIface, .iface 167 (.agg #[.int .i64 1]), .iface 167 (.agg #[.int .i64 3]), .iface 167 (.agg #[.int .i64 4]), .iface 169 (.agg #[])]) (.int .i64 2)).run Try.prog w = .ok (.iface 167 (.agg #[.int .i64 3])) w := by kernel_rfl
theorem idx170_3 (w : World) : (Instr.index 170 (.agg #[.nilIface, .iface 167 (.agg #[.int .i64 1]), .iface 167 (.agg #[.int .i64 3]), .iface 167 (.agg #[.int .i64 4]), .iface 169 (.agg #[])]) (.int .i64 3)).run Try.prog w = .ok (.iface 167 (.agg #[.int .i64 4])) w := by kernel_rfl
theorem idx170_4 (w : World) : (Instr.index 170 (.agg #[.nilIface, .iface 167 (.agg #[.int .i64 1]), .iface 167 (.agg #[.int .i64 3]), .iface 167 (.agg #[.int .i64 4]), .iface 169 (.agg #[])]) (.int .i64 4)).run Try.prog w = .ok (.iface 169 (.agg #[])) w := by kernel_rfl
attribute [local go_sem] idx170_1 idx170_2 idx170_3 idx170_4
set_option maxHeartbeats 1000000 in
set_option maxRecDepth 100000 in
theorem of_any (n : Int) (h0 : 1 ≤ n) (h1 : n ≤ 4) (w : World) : Calls Try.prog 131 #[.int .i64 n] w fun e w' => e = .returned (ofV n) ∧ w = w' := by
  obtain rfl | rfl | rfl | rfl : n = 1 ∨ n = 2 ∨ n = 3 ∨ n = 4 := by omega
  all_goals
    go_enter Try.func131, Try.ntmps131
    go_wp2
    go_ret
    exact ⟨rfl, rfl⟩
theorem heap_new_at (W : World) (o : Obj) (k : Nat) (hk : k = W.heap.size) : (W.alloc o).heap[k]? = some o := by subst hk; exact heap_alloc_new W o
theorem cell_add {W : World} {g : Nat} {arr : Array Value} {t : TypeId} (h : W.heap[g]? = some (.cells arr t (0, 0))) (k : Nat) : W.cell? ((⟨g, 0, none⟩ : Addr).add k) = arr[k]? := by
  cases k with
  | zero => simp [World.cell?, Addr.add, h]
  | succ k => simp [World.cell?, Addr.add, h]
theorem C43_one {W : World} {g : Nat} {p : S43} {t : TypeId} (h : W.heap[g]? = some (.cells #[.int .i64 p.f0, .int .i64 p.f1, .int .i64 p.f2, .int .i64 p.f3] t (0, 0))) : Kd.C k43 W (some ⟨g, 0, none⟩) 1 [p] := by
  refine ⟨rfl, by omega, fun _ => ⟨_, rfl, fun j q hj => ?_⟩⟩
  match j, hj with
  | 0, hj =>
    simp at hj; subst hj
    refine ⟨[.int .i64 p.f0, .int .i64 p.f1, .int .i64 p.f2, .int .i64 p.f3], rfl, Kd.K_of_M k43 (k43_mkM W 0 (fun _ => True) p), fun i u hi => ?_⟩
    rw [cell_add h]
    simpa using hi
  | j + 1, hj => simp at hj
theorem C43_three {W : World} {g : Nat} {p q r : S43} {t : TypeId} (h : W.heap[g]? = some (.cells #[.int .i64 p.f0, .int .i64 p.f1, .int .i64 p.f2, .int .i64 p.f3, .int .i64 q.f0, .int .i64 q.f1, .int .i64 q.f2, .int .i64 q.f3, .int .i64 r.f0, .int .i64 r.f1, .int .i64 r.f2, .int .i64 r.f3] t (0, 0))) : Kd.C k43 W (some ⟨g, 0, none⟩) 3 [p, q, r] := by
  refine ⟨rfl, by omega, fun _ => ⟨_, rfl, fun j x hj => ?_⟩⟩
  have hx : x = [p, q, r].getD j z43 := by simp [List.getD, hj]
  have hjl : j < 3 := by have := (List.getElem?_eq_some_iff.1 hj).1; simpa using this
  refine ⟨[.int .i64 x.f0, .int .i64 x.f1, .int .i64 x.f2, .int .i64 x.f3], rfl, Kd.K_of_M k43 (k43_mkM W 0 (fun _ => True) x), fun i u hi => ?_⟩
  have hil : i < 4 := by have := (List.getElem?_eq_some_iff.1 hi).1; simpa using this
  rw [show k43.sz = 4 from rfl, cell_add h, ← hi]
  match j, hjl, i, hil with
  | 0, _, 0, _ | 0, _, 1, _ | 0, _, 2, _ | 0, _, 3, _ | 1, _, 0, _ | 1, _, 1, _ | 1, _, 2, _ | 1, _, 3, _ | 2, _, 0, _ | 2, _, 1, _ | 2, _, 2, _ | 2, _, 3, _ => subst hx; rfl
def halfP (w h : Int) : S43 := ⟨wrap64 (Int.tdiv (wrap64 (w + 1)) 2), wrap64 (Int.tdiv (wrap64 (h + 1)) 2), 1, 2⟩
set_option maxHeartbeats 1000000 in
set_option maxRecDepth 100000 in
theorem planes179 (b x y : Int) (w : World) : Calls Try.prog 179 #[.agg #[.int .i64 b], .int .i64 x, .int .i64 y] w fun e w' => ∃ ad, e = .returned (.slice (some ad) 1 1) ∧ Kd.C k43 w' (some ad) 1 [⟨x, y, b, 1⟩] ∧ w.heap.size ≤ ad.block ∧ Below w.heap.size w w' := by
  go_enter Try.func179, Try.ntmps179
  go_wp2
  go_ret
  refine ⟨_, rfl, ?_, ?_, ?_⟩
  · exact C43_one (p := ⟨x, y, b, 1⟩) (heap_new_at _ _ _ (by simp))
  · simp
  · exact ((Below.refl _ _).alloc (Nat.le_refl _) _).alloc (by simp) _
set_option maxHeartbeats 1000000 in
set_option maxRecDepth 100000 in
theorem planes180 (x y : Int) (w : World) : Calls Try.prog 180 #[.agg #[], .int .i64 x, .int .i64 y] w fun e w' => ∃ ad, e = .returned (.slice (some ad) 3 3) ∧ Kd.C k43 w' (some ad) 3 [⟨x, y, 1, 1⟩, halfP x y, halfP x y] ∧ w.heap.size ≤ ad.block ∧ Below w.heap.size w w' := by
  go_enter Try.func180, Try.ntmps180
  go_wp2
  go_ret
  refine ⟨_, rfl, ?_, ?_, ?_⟩
  · exact C43_three (p := ⟨x, y, 1, 1⟩) (q := halfP x y) (r := halfP x y) (heap_new_at _ _ _ (by simp))
  · simp; omega
  · exact (((Below.refl _ _).alloc (Nat.le_refl _) _).alloc (by simp) _).alloc (by simp; omega) _
end Go.Proofs.Ytenaegjiggodkaa.PV
