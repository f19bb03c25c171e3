/- Part 3 of the proof of VideoAgrees: contracts of the functions that the law reaches, and plain facts. -/
import Derived.Test.YtenaegjiggodkaaQAgrees0
import Derived.Test.YtenaegjiggodkaaQAgrees2
import Derived.StillTailTactics
import Derived.IntWalk
import Derived.Deep.RegionHeld3
import Derived.Deep.AppendLies
import Derived.BigRegion
import Derived.Lib.SliceRun
import Derived.Shelf.SlGeneric
import Derived.Ground.Names8Prog
import Derived.Ground.SlgnProg
import Derived.Shelf.Spec.SlicesGrow
import Derived.Shelf.SlicesE.Clone
import Derived.Test.YtenaegjiggodkaaProg
import Derived.BigQuiet
import Derived.Maps.OwnIn
import Derived.Test.YtenaegjiggodkaaQAgrees1
import Derived.Deep.Slices
import Derived.ChangeSame
import Derived.KernelRfl

/- The contract of video's band iterator (the closure that bands hands back). -/
namespace Go.Proofs.Ytenaegjiggodkaa.PV
open Go.RowKit Go.Proofs.YtenaegjiggodkaaW.PrintWords Go.Proofs.YtenaegjiggodkaaW.PrintLast Go.Proofs.YtenaegjiggodkaaW.PrintMore Go.Proofs.YtenaegjiggodkaaRange
attribute [local go_sem] max_two
set_option linter.unusedVariables false
set_option linter.unusedSimpArgs false

/-- How many neighbours n numbers have. -/
def less1 (n : Nat) : Nat := n - 1
theorem max_less1 (n : Nat) : Builtin.max2 (.int .i64 0) (.int .i64 ((n : Int) - 1)) = pure (.int .i64 ((less1 n : Nat) : Int)) := by
  unfold less1
  simp only [Builtin.max2]
  rcases Nat.eq_zero_or_pos n with h | h
  · subst h; rfl
  · split
    · congr 2; omega
    · congr 2; omega
attribute [local go_sem] max_less1
/-- What a function value of two truths tells, in whatever world has come of w. -/
def Tells2 (g : Nat) (lf : Array Value) (is : Bool → Bool → Bool) (w : World) : Prop :=
  ∀ (a b : Bool) (W : World), Below w.heap.size w W → Calls Try.prog g (#[.bool a, .bool b] ++ lf) W fun e W' => e = .returned (.bool (is a b)) ∧ Below W.heap.size W W'

def encsB (x : S142 × Value) : Array Value := #[.agg #[.int .i64 x.1.f0, .int .i64 x.1.f1, x.2]]
def PxB (w0 : World) (pre : List (S142 × Value)) (x : S142 × Value) (W : World) : Prop := Kd.R k145 145 W w0.heap.size (fun _ => True) x.2 x.1.f2 ∧ pre.length < 40000
structure KpB (wm : World) (n1 n2 : Nat) (W W' : World) : Prop where
  below : Below wm.heap.size wm W → Below wm.heap.size wm W'
  size : W.heap.size ≤ W'.heap.size
  same : ∀ k, n1 ≤ k → k < n2 → W'.heap[k]? = W.heap[k]?
/-- The iterator's own memory is as it was in w0. -/
structure ItB (wm w0 : World) (n1 : Nat) (W : World) : Prop where
  below : Below wm.heap.size wm W
  size : w0.heap.size ≤ W.heap.size
  same : ∀ k, n1 ≤ k → k < w0.heap.size → W.heap[k]? = w0.heap[k]?
theorem cell_of_same {W w0 : World} {k o : Nat} (h : W.heap[k]? = w0.heap[k]?) : W.cell? ⟨k, o, none⟩ = w0.cell? ⟨k, o, none⟩ := by simp [World.cell?, h]
theorem ItB.cell {wm w0 W : World} {n1 : Nat} (h : ItB wm w0 n1 W) {B : Nat} {v : Value} (hB : n1 ≤ B) (hc : w0.cell? ⟨B, 0, none⟩ = some v) : W.cell? ⟨B, 0, none⟩ = some v :=
  (cell_of_same (h.same B hB (World.block_lt_of_cell? w0 _ hc))).trans hc
theorem ItB.row {wm w0 W : World} {n1 : Nat} (h : ItB wm w0 n1 W) {v : Value} {xs : List Int} (hR : Kd.R (Kd.int .i64) 3 w0 n1 (fun _ => True) v xs) : Kd.R (Kd.int .i64) 3 W n1 (fun _ => True) v xs := by
  have h1 := Kd.R_mono (Kd.R_move (w1 := W) (Kd.R_bound hR) (fun k hk => h.same k hk.2.1 hk.2.2.1)) (fun k _ => trivial)
  exact h1
theorem ItB.step {wm w0 W W' : World} {n1 : Nat} (h : ItB wm w0 n1 W) (hb : Below w0.heap.size W W') (hle : wm.heap.size ≤ w0.heap.size) : ItB wm w0 n1 W' :=
  ⟨h.below.trans (hb.mono hle), Nat.le_trans h.size hb.size, fun k h1 h2 => (hb.block k h2).trans (h.same k h1 h2)⟩

/-- A world that has come of W: what lay in W lies as it lay. -/
structure Later (W : World) where
  w : World
  below : Below W.heap.size W w
theorem info145i : (Try.prog.info? 145).map (fun i => (i.zero, i.size, i.bytes)) = some (some (.agg #[(.int .i64 0), (.int .i64 0)]), 2, 16) := by kernel_rfl
theorem append145 {ops : Array Oper} {o : Oper} {a : Act} {K : Act → World → Prop} {Q : Exit → Act → World → Prop} {E : Prop} {W : World} {B n b : Nat} {v : Value} {inner : List Value} {x0 x1 : Int} (hgd : o.guard = none) (s x : Operand)
    (ho : o.op = .call { callee := .builtin .append, args := #[s, x], argTypes := #[140, 140] }) (hs : a.eval s = v) (hx : a.eval x = .slice (some ⟨b, 0, none⟩) 1 1) (hown : W.ownsRow B 145 2 v n inner)
    (h0 : W.cell? ⟨b, 0, none⟩ = some (.int .i64 x0)) (h1 : W.cell? ⟨b, 1, none⟩ = some (.int .i64 x1)) (hn : n ≤ 100000) (hB : B ≤ W.heap.size)
    (h : ∀ g cap w', w'.ownsRow B 145 2 (.slice (some ⟨g, 0, none⟩) (n + 1) cap) (n + 1) (inner ++ [.int .i64 x0, .int .i64 x1]) → W.grownBy w' v.ownBlock → (v.ownBlock = some g ∨ g = W.heap.size) → g < w'.heap.size → K (a.put o.dst (.slice (some ⟨g, 0, none⟩) (n + 1) cap)) w') :
    if Region.wanted o (yielded ops a.tmps) = true then Oper.wp Try.prog o a W K Q else E := by
  obtain ⟨t0, ti, tz0, tz1, tz2⟩ := info_parts info145i
  refine step_append_lies W hgd s x 140 ho B 145 t0 _ 2 16 Try.underlying140 ti tz0 tz1 tz2 rfl (by decide) v n inner hs hown ⟨b, 0, none⟩ 1 1 [.int .i64 x0, .int .i64 x1] hx rfl ?_ ?_ (by decide) (by unfold maxLen; omega) (by omega) hB _ rfl h
  · intro j u hj
    match j, hj with
    | 0, hj => simp at hj; subst hj; exact h0
    | 1, hj => simp at hj; subst hj; exact h1
    | j + 2, hj => simp at hj
  · intro u hu
    simp at hu
    rcases hu with rfl | rfl <;> rfl
theorem cell_grown_ne {W w2 : World} {g B o : Nat} {u : Value} (hg : W.grownBy w2 (some g)) (hne : ¬ B = g) (hc : W.cell? ⟨B, o, none⟩ = some u) : w2.cell? ⟨B, o, none⟩ = some u := by
  have hb := hg.block B (World.block_lt_of_cell? W _ hc) (fun h => hne (Option.some.inj h))
  exact (cell_of_same hb).trans hc
theorem cell_grown_off {W w2 : World} {r : Option Nat} {B o : Nat} {u : Value} (hg : W.grownBy w2 r) (hne : some B ≠ r) (hc : W.cell? ⟨B, o, none⟩ = some u) : w2.cell? ⟨B, o, none⟩ = some u :=
  (cell_of_same (hg.block B (World.block_lt_of_cell? W _ hc) hne)).trans hc
theorem cell_pair0 {t : TypeId} {u0 u1 : Value} (w W : World) (h : W.heap = w.heap.push (.cells #[u0, u1] t (0, 0))) : W.cell? ⟨w.heap.size, 0, none⟩ = some u0 := by simp [World.cell?, h]
theorem cell_pair1 {t : TypeId} {u0 u1 : Value} (w W : World) (h : W.heap = w.heap.push (.cells #[u0, u1] t (0, 0))) : W.cell? ⟨w.heap.size, 1, none⟩ = some u1 := by simp [World.cell?, h]
instance (W : World) : Nonempty (Later W) := ⟨⟨W, Below.refl _ _⟩⟩
theorem wp_region_later {id : Nat} {Q : Exit → Act → World → Prop} {a : Act} {w : World} {l : List Oper} (hm : Try.prog.follows .mixedOrders = true) (hB : Region.lexB .any l.toArray = true)
    (h : wpQuiet Try.prog l.toArray (fun w' => ∃ p : Later w, w' = p.w) (fun a' => ∀ w', (∃ p : Later w, w' = p.w) → Q .normal a' w') l a) : (Code.region id l.toArray true).wp Try.prog Q a w :=
  wp_region_quiet (C := fun w' => ∃ p : Later w, w' = p.w) hm hB ⟨⟨w.drew, below_drew (Below.refl _ _)⟩, rfl⟩ (by simpa using h)
theorem Later.call {f : FuncId} {args : Array Value} {W : World} {p : Later W} {v : Value} (h : Calls Try.prog f args p.w fun e w' => e = .returned v ∧ Below p.w.heap.size p.w w') :
    Calls Try.prog f args p.w fun e w'' => e = .returned v ∧ ∃ q : Later W, w'' = q.w :=
  h.mono fun e w' ⟨he, hb⟩ => ⟨he, ⟨w', p.below.trans (hb.mono p.below.size)⟩, rfl⟩
theorem Later.cell {W : World} (p : Later W) {a : Addr} {v : Value} (h : W.cell? a = some v) : p.w.cell? a = some v := pw_cell_below p.below h

theorem app_done {wp w2 : World} {base : Nat} {ok1 : Nat → Prop} {v1 : Value} {sp : List S145} {inner : List Value} {x0 x1 : Int} (hreps : Reps (k145.M wp base ok1) 2 sp inner) (hown : w2.ownsRow base 145 2 v1 (sp.length + 1) (inner ++ [.int .i64 x0, .int .i64 x1])) : Kd.R k145 145 w2 base (fun _ => True) v1 (sp ++ [⟨x0, x1⟩]) := by
  refine ⟨fun _ _ => trivial, inner ++ [.int .i64 x0, .int .i64 x1], by rw [List.length_append]; exact hown, ?_⟩
  have h1 : Reps (k145.M w2 base (fun k => True ∧ some k ≠ v1.ownBlock)) 2 sp inner := hreps.imp_ (fun x cs h => by obtain rfl := k145_openM h; exact k145_mkM _ _ _ _)
  exact h1.snoc (k145_mkM _ _ _ ⟨x0, x1⟩) rfl
theorem box_set {w : World} {B : Nat} {u0 u1 u2 v : Value} {t : TypeId} (h : w.heap[B]? = some (.cells #[u0, u1, u2] t (0, 0))) : (w.setCell ⟨B, 2, none⟩ v).heap[B]? = some (.cells #[u0, u1, v] t (0, 0)) := by
  obtain ⟨hlt, hk⟩ := Array.getElem?_eq_some_iff.1 h
  show (w.heap.modify B _)[B]? = _
  rw [Array.getElem?_eq_getElem (by rw [Array.size_modify]; exact hlt), Array.getElem_modify_self, hk]
  rfl
theorem k145_ne : ∀ q, q ∈ 145 :: k145.E → q ≠ 142 := by intro q hq; have e : k145.E = [] := rfl; rw [e] at hq; simp at hq; omega

set_option maxHeartbeats 4000000 in
set_option maxRecDepth 100000 in
theorem bands3_any (n : Nat) (wm w0 : World) (n1 : Nat) (hn1 : wm.heap.size ≤ n1) (hn2 : n1 ≤ w0.heap.size) (Bx By Bf Ba Bb : Nat) (vx vy : Value) (xs ys : List Int) (g : Nat) (lf : Array Value) (is : Bool → Bool → Bool)
    (eg : ∀ args w, (callFunc g args).run Try.prog w = .ok (.enter g args) w) (hf : Tells2 g lf is wm)
    (Aa Ab : Option Addr) (ca cb : Nat) (la lb : List S43) (hra : Kd.C k43 wm Aa la.length la) (hca : la.length ≤ ca) (hrb : Kd.C k43 wm Ab lb.length lb) (hcb : lb.length ≤ cb)
    (hBx : n1 ≤ Bx) (hBy : n1 ≤ By) (hBf : n1 ≤ Bf) (hBa : n1 ≤ Ba) (hBb : n1 ≤ Bb)
    (cx : w0.cell? ⟨Bx, 0, none⟩ = some vx) (cy : w0.cell? ⟨By, 0, none⟩ = some vy) (cf : w0.cell? ⟨Bf, 0, none⟩ = some (.func (.func g) #[] lf)) (cca : w0.cell? ⟨Ba, 0, none⟩ = some (.slice Aa la.length ca)) (ccb : w0.cell? ⟨Bb, 0, none⟩ = some (.slice Ab lb.length cb))
    (hX : Kd.R (Kd.int .i64) 3 w0 n1 (fun _ => True) vx xs) (hY : Kd.R (Kd.int .i64) 3 w0 n1 (fun _ => True) vy ys) (hB : Below wm.heap.size wm w0) (hlx : xs.length ≤ 40000) (hly : ys.length ≤ 40000) :
    SeqP Fence.wide n Try.prog 141 #[.pointer (some ⟨By, 0, none⟩), .pointer (some ⟨Bx, 0, none⟩), .pointer (some ⟨Bf, 0, none⟩), .pointer (some ⟨Ba, 0, none⟩), .pointer (some ⟨Bb, 0, none⟩)] encsB (PxB w0) (KpB wm n1 w0.heap.size)
      (fun out => out.map Prod.fst = bandsOf (fun x y => is (covL la x y) (covL lb x y)) xs ys) w0 := fun l J W hW hJ hYd h0 => by
  have hI : ItB wm w0 n1 W := ⟨hB.trans (hW.mono (Nat.le_trans hn1 hn2)), hW.size, fun k _ hk => hW.block k hk⟩
  obtain ⟨Ay, ny, rfl, _, _⟩ := Kd.R_reads hY
  obtain ⟨Ax, nx, rfl, _, _⟩ := Kd.R_reads hX
  have hcy := hI.cell hBy cy
  have hm1 : less1 ys.length ≤ ys.length ∧ (less1 ys.length < ys.length ∨ less1 ys.length = 0) := by unfold less1; omega
  have HYd := Lib.hid hYd
  have HX := Lib.hid hX
  have HY := Lib.hid hY
  have Hra := Lib.hid hra
  have Hrb := Lib.hid hrb
  have CC := Lib.hid (show _ ∧ _ ∧ _ ∧ _ ∧ _ from ⟨cx, cy, cf, cca, ccb⟩)
  have Hf := Lib.hid hf
  have HJ := Lib.hid hJ
  have HB := Lib.hid hB
  have HW := Lib.hid hW
  clear hYd hX hY hra hrb cx cy cf cca ccb hf hJ hB hW
  refine callsIn_of_wp Try.func141 rfl trivial ?_ rfl
  simp only [Try.ntmps141, List.size_toArray, List.length_cons, List.length_nil, Nat.reduceAdd, Nat.reduceSub, Array.replicate_succ, Array.replicate_zero, List.push_toArray, List.append_toArray, List.nil_append, List.cons_append]
  gi_wp2
  gi_loopw [15] (fun i wr => ∃ (j : Nat) (out : List (S142 × Value)), j ≤ less1 ys.length ∧ i = .int .i64 j ∧ out.map Prod.fst = (bandsOf (fun x y => is (covL la x y) (covL lb x y)) xs ys).take j ∧ J out wr ∧ ItB wm w0 n1 wr) (fun i _ => less1 ys.length - (intOf i).toNat)
  case atStart => exact ⟨0, [], Nat.zero_le _, rfl, by simp, h0, hI⟩
  case round =>
    clear hI h0 hcy
    obtain ⟨j, out, hj, rfl, hout, hJo, hI⟩ := hrel
    have hcy := hI.cell hBy CC.out.2.1
    have hcx := hI.cell hBx CC.out.1
    have hcf := hI.cell hBf CC.out.2.2.1
    have hca' := hI.cell hBa CC.out.2.2.2.1
    have hcb' := hI.cell hBb CC.out.2.2.2.2
    by_cases hlt : j < less1 ys.length
    · have hlt2 : j + 1 < ys.length := by unfold less1 at hlt; omega
      have hRy := hI.row HY.out
      obtain ⟨gy, cpy, e1, hgy, hgl, hcells⟩ := Kd.R_form hRy (by omega)
      injection e1 with e1 _ e3
      subst e1; subst e3
      have hy0 := (Kd.R_cell (0 : Int) hRy (j : Int) (by omega) (by omega)).1
      have hy1 := (Kd.R_cell (0 : Int) hRy ((j : Int) + 1) (by omega) (by omega)).1
      rw [show ((j : Int) + 1).toNat = j + 1 by omega] at hy1
      rw [Int.toNat_natCast] at hy0
      have hlj : (j : Int) < (ys.length : Int) := by omega
      have hlj1 : (j : Int) + 1 < (ys.length : Int) := by omega
      generalize hq0 : rdOf (0 : Int) ys (j : Int) = y0 at hy0
      generalize hq1 : rdOf (0 : Int) ys ((j : Int) + 1) = y1 at hy1
      have Hq0 := Lib.hid hq0
      have Hq1 := Lib.hid hq1
      have Hout := Lib.hid hout
      have HI := Lib.hid hI
      have HRy := Lib.hid hRy
      clear hq0 hq1 hout hI hRy hcells hcx hcf hca' hcb'
      gi_wp2
      rw [wpIn_wide]
      have iw : IntKind.i64.wrap ((j : Int) + 1) = (j : Int) + 1 := IntWalk.i64_in _ (by omega)
      have i0 : 0 ≤ (j : Int) + 1 := by omega
      have it : ((j : Int) + 1).toNat = j + 1 := by omega
      go_region_held3 (fun w' => w'.cell? ⟨By, 0, none⟩ = some (.slice (some ⟨gy, 0, none⟩) ys.length ny) ∧ w'.cell? ⟨gy, j, none⟩ = some (.int .i64 y0) ∧ w'.cell? ⟨gy, j + 1, none⟩ = some (.int .i64 y1)) (go_keep) (first | fail)
      obtain ⟨wo, rfl⟩ : ∃ wo : World, wo = wr := ⟨_, rfl⟩
      obtain ⟨W1, hW1⟩ : ∃ W1, (wo.alloc (.cells #[.int .i64 y0, .int .i64 y1, .slice none 0 0] 142)).drew = W1 := ⟨_, rfl⟩
      have hz : W1.heap[wo.heap.size]? = some (.cells #[.int .i64 y0, .int .i64 y1, .slice none 0 0] 142 (0, 0)) := by rw [← hW1]; exact heap_alloc_new wo _
      have hb1 : Below wo.heap.size wo W1 := by rw [← hW1]; exact below_drew (below_alloc (Below.refl _ _) _)
      have hg1 : wo.grownBy W1 none := grown_of_below hb1 none
      have hcx1 := pw_cell_below hb1 (HI.out.cell hBx CC.out.1)
      rw [hW1]
      have Hz := Lib.hid hz
      have Hg1 := Lib.hid hg1
      have Hb1 := Lib.hid hb1
      clear hz hg1 hb1 hW1 hy0 hy1 hcy iw i0 it
      have hm2 : less1 xs.length ≤ xs.length ∧ (less1 xs.length < xs.length ∨ less1 xs.length = 0) := by unfold less1; omega
      gi_wp2
      rw [wpIn_wide]
      go_loopw [32] (fun i W => ∃ (k : Nat) (v : Value), k ≤ less1 xs.length ∧ i = .int .i64 k ∧ W.heap[wo.heap.size]? = some (.cells #[.int .i64 y0, .int .i64 y1, v] 142 (0, 0)) ∧ Kd.R k145 145 W wo.heap.size (fun _ => True) v (spansUpto (fun x => is (covL la x y0) (covL lb x y0)) xs k) ∧ wo.grownBy W none ∧ Below wo.heap.size wo W) (fun i _ => less1 xs.length - (intOf i).toNat)
      case atStart => exact ⟨0, _, Nat.zero_le _, rfl, Hz.out, by rw [spansUpto_zero]; exact Kd.R_nil _ _ _ _ _, Hg1.out, Hb1.out⟩
      case round =>
        clear hcx1 Hz Hg1 Hb1
        obtain ⟨k, v, hk, rfl, hz, hS, hg1, hb1⟩ := hrel
        have hIW := HI.out.step (W' := wr) (hb1.mono HI.out.size) (Nat.le_trans hn1 hn2)
        have hcx := hIW.cell hBx CC.out.1
        by_cases hltk : k < less1 xs.length
        · have hk2 : k + 1 < xs.length := by unfold less1 at hltk; omega
          have hRx := hIW.row HX.out
          have hRy := hIW.row HY.out
          obtain ⟨gx, cpx, e1, _, hgxl, _⟩ := Kd.R_form HX.out (by omega)
          injection e1 with e1 _ e3
          subst e1; subst e3
          have hx0 := (Kd.R_cell (0 : Int) hRx (k : Int) (by omega) (by omega)).1
          have hx1 := (Kd.R_cell (0 : Int) hRx ((k : Int) + 1) (by omega) (by omega)).1
          have hy0 := (Kd.R_cell (0 : Int) hRy (j : Int) (by omega) (by omega)).1
          rw [show ((k : Int) + 1).toNat = k + 1 by omega] at hx1
          rw [Int.toNat_natCast] at hx0 hy0
          rw [Hq0.out] at hy0
          have hlk : (k : Int) < (xs.length : Int) := by omega
          have hlk1 : (k : Int) + 1 < (xs.length : Int) := by omega
          have hcf := hIW.cell hBf CC.out.2.2.1
          have hca' := hIW.cell hBa CC.out.2.2.2.1
          have hcb' := hIW.cell hBb CC.out.2.2.2.2
          have hcy := hIW.cell hBy CC.out.2.1
          have hsu := spansUpto_succ (fun x => is (covL la x y0) (covL lb x y0)) xs k hltk
          have hlen := spansUpto_length (fun x => is (covL la x y0) (covL lb x y0)) xs k
          have qx0 : rdOf (0 : Int) xs (k : Int) = xs.getD k 0 := by simp [rdOf]
          have qx1 : rdOf (0 : Int) xs ((k : Int) + 1) = xs.getD (k + 1) 0 := by simp [rdOf, show ((k : Int) + 1).toNat = k + 1 by omega]
          rw [qx0] at hx0
          rw [qx1] at hx1
          generalize xs.getD k 0 = x0 at hx0 hsu
          generalize xs.getD (k + 1) 0 = x1 at hx1 hsu
          generalize hsp : spansUpto (fun x => is (covL la x y0) (covL lb x y0)) xs k = sp at hS hsu hlen
          have hcA := Kd.C_below Hra.out hIW.below
          have hcB := Kd.C_below Hrb.out hIW.below
          obtain ⟨ba, hba⟩ : ∃ ba, covL la x0 y0 = ba := ⟨_, rfl⟩
          obtain ⟨bb, hbb⟩ : ∃ bb, covL lb x0 y0 = bb := ⟨_, rfl⟩
          obtain ⟨bq, hbq⟩ : ∃ bq, is ba bb = bq := ⟨_, rfl⟩
          simp only [stepSel] at hsu
          simp only [hba, hbb, hbq] at hsu
          have F1 : Hid (∀ p : Later wr, Calls Try.prog 77 #[.slice Aa la.length ca, .int .i64 x0, .int .i64 y0] p.w fun e w'' => e = .returned (.bool ba) ∧ ∃ q : Later wr, w'' = q.w) :=
            Lib.hid (fun p => Later.call (p := p) (video_covers.calls Aa ca la x0 y0 ba p.w (Kd.C_below hcA p.below) hca (by rw [← hba]; rfl)))
          have F2 : Hid (∀ p : Later wr, Calls Try.prog 77 #[.slice Ab lb.length cb, .int .i64 x0, .int .i64 y0] p.w fun e w'' => e = .returned (.bool bb) ∧ ∃ q : Later wr, w'' = q.w) :=
            Lib.hid (fun p => Later.call (p := p) (video_covers.calls Ab cb lb x0 y0 bb p.w (Kd.C_below hcB p.below) hcb (by rw [← hbb]; rfl)))
          have F3 : Hid (∀ p : Later wr, Calls Try.prog g (#[.bool ba, .bool bb] ++ lf) p.w fun e w'' => e = .returned (.bool bq) ∧ ∃ q : Later wr, w'' = q.w) :=
            Lib.hid (fun p => Later.call (p := p) (by rw [← hbq]; exact Hf.out ba bb p.w (hIW.below.trans (p.below.mono hIW.below.size))))
          clear hba hbb hbq
          have G1 := fun p : Later wr => p.cell hcf
          have G2 := fun p : Later wr => p.cell hca'
          have G3 := fun p : Later wr => p.cell hcb'
          have G4 := fun p : Later wr => p.cell hcx
          have G5 := fun p : Later wr => p.cell hcy
          have G6 := fun p : Later wr => p.cell hx0
          have G7 := fun p : Later wr => p.cell hy0
          have HSU := Lib.hid hsu
          have HSP := Lib.hid hsp
          have HHS := Lib.hid hS
          have HHz := Lib.hid hz
          have HHg := Lib.hid hg1
          have HHb := Lib.hid hb1
          have HIW := Lib.hid hIW
          have HX0 := Lib.hid hx0
          have HX1 := Lib.hid hx1
          have HCX := Lib.hid hcx
          clear hsu hsp hS hz hg1 hb1 hIW hRx hRy hcA hcB hcx hcy hx0 hx1 hy0 hcf hca' hcb' qx0 qx1
          go_wp2
          refine wp_region_later (by kernel_rfl) (by kernel_rfl) ?_
          repeat (quiet_step (first | (go_at_call 77; first | exact F1.out _ | exact F2.out _) | exact F3.out _))
          refine wpQuiet_nil ?_
          intro _ hw'
          obtain ⟨p, hw''⟩ := hw'
          subst hw''
          have hbp := p.below
          obtain ⟨wp, hwp⟩ : ∃ wp, p.w = wp := ⟨_, rfl⟩
          rw [hwp] at hbp ⊢
          clear hwp
          have hblt : wo.heap.size < wr.heap.size := (Array.getElem?_eq_some_iff.1 HHz.out).1
          have hz2 : wp.heap[wo.heap.size]? = some (.cells #[.int .i64 y0, .int .i64 y1, v] 142 (0, 0)) := (hbp.block _ hblt).trans HHz.out
          have hS2 := Kd.R_below HHS.out hbp
          have hb2 : Below wo.heap.size wo wp := HHb.out.trans (hbp.mono HHb.out.size)
          have hx0 := pw_cell_below hbp HX0.out
          have hx1 := pw_cell_below hbp HX1.out
          have hcx := pw_cell_below hbp HCX.out
          have hbz : wp.cell? ⟨wo.heap.size, 2, none⟩ = some v := by simp [World.cell?, hz2]
          have hfz : wp.frozen? ⟨wo.heap.size, 2, none⟩ = false := by simp [World.frozen?, hz2]
          have HZ2 := Lib.hid hz2
          have HS2 := Lib.hid hS2
          have HB2 := Lib.hid hb2
          clear F1 F2 F3 G1 G2 G3 G4 G5 G6 G7 hbp hz2 hS2 hb2 HHz HHS HHb HHg HIW HX0 HX1 HCX hblt
          cases bq
          · have e2 : spansUpto (fun x => is (covL la x y0) (covL lb x y0)) xs (k + 1) = sp := by rw [HSU.out]; simp
            have E2 := Lib.hid e2
            clear e2
            go_wp2
            exact ⟨⟨k + 1, v, by omega, by go_num, HZ2.out, by rw [E2.out]; exact HS2.out, grown_of_below HB2.out none, HB2.out⟩, by simp [intOf]; omega⟩
          · have e2 : spansUpto (fun x => is (covL la x y0) (covL lb x y0)) xs (k + 1) = stepS sp (x0, x1) := by rw [HSU.out]; simp
            rcases Nat.eq_zero_or_pos sp.length with hsp0 | hsp0
            · have e3 : sp = [] := List.eq_nil_of_length_eq_zero hsp0
              subst e3
              have E2 := Lib.hid e2
              clear e2 hsp0
              obtain ⟨A3, c3, rfl, _, _⟩ := Kd.R_reads HS2.out
              have hs9 := HI.out.size
              have hbxl := World.block_lt_of_cell? w0 _ CC.out.1
              simp at hbxl
              have nf1 : some Bx ≠ (Value.slice A3 0 c3).ownBlock := fun h => by have h1 := Kd.R_base HS2.out Bx h.symm; omega
              have nf2 : some gx ≠ (Value.slice A3 0 c3).ownBlock := fun h => by have h1 := Kd.R_base HS2.out gx h.symm; omega
              have nf3 : some wo.heap.size ≠ (Value.slice A3 0 c3).ownBlock := Kd.R_ne HS2.out HZ2.out (by decide)
              clear hs9 hbxl
              simp only [List.length_nil] at hbz
              go_wp2
              go_quiet (fail)
              go_wp2
              have iw : IntKind.i64.wrap ((k : Int) + 1) = (k : Int) + 1 := IntWalk.i64_in _ (by omega)
              have i0 : 0 ≤ (k : Int) + 1 := by omega
              have it : ((k : Int) + 1).toNat = k + 1 := by omega
              obtain ⟨_, inner, hown, hreps⟩ := HS2.out
              simp only [List.length_nil] at hown
              obtain ⟨t0, ti, tz0, tz1, tz2⟩ := info_parts info145i
              have HOWN := Lib.hid hown
              have HREPS := Lib.hid hreps
              clear hown hreps
              refine start_ (n := 16) (S := fun w' => w'.cell? ⟨wo.heap.size, 2, none⟩ = some (.slice A3 0 c3) ∧ w'.cell? ⟨Bx, 0, none⟩ = some (.slice (some ⟨gx, 0, none⟩) xs.length nx) ∧ w'.cell? ⟨gx, k, none⟩ = some (.int .i64 x0) ∧ w'.cell? ⟨gx, k + 1, none⟩ = some (.int .i64 x1)) (ds := [15]) #[false, false, false, false, false, false, false, false, false, false, false, false, false, false, false, false] (by kernel_rfl) rfl rfl ?_ (fun hHeld => ?_)
              · exact ⟨hbz, hcx, hx0, hx1⟩
              refine pure_ (i := 0) (N := (some 87)) (v := ?_) (a' := ?_) #[true, false, false, false, false, false, false, false, false, false, false, false, false, false, false, false] rfl rfl (by kernel_rfl) (fun _ _ _ h => h) (Or.inl ⟨by rfl, ?_⟩) ?_ ?_
              rotate_left
              · intro w'
                go_simp
                with_reducible rfl
              rotate_left
              · simp only [Act.put, List.setIfInBounds_toArray, List.set_cons_zero, List.set_cons_succ, i64_w, i32_w]
                rfl
              refine take_ (i := 1) (N := (some 88)) (v := ?_) (a' := ?_) #[true, true, false, false, false, false, false, false, false, false, false, false, false, false, false, false] rfl rfl (by kernel_rfl) (fun _ _ _ h => h) (Or.inl ⟨by rfl, ?_⟩) hHeld ?_ ?_
              rotate_left
              · rintro w' ⟨s0, s1, s2, s3⟩
                go_simp
                with_reducible rfl
              rotate_left
              · simp only [Act.put, List.setIfInBounds_toArray, List.set_cons_zero, List.set_cons_succ, i64_w, i32_w]
                rfl
              refine take_ (i := 2) (N := (some 89)) (v := ?_) (a' := ?_) #[true, true, true, false, false, false, false, false, false, false, false, false, false, false, false, false] rfl rfl (by kernel_rfl) (fun _ _ _ h => h) (Or.inl ⟨by rfl, ?_⟩) hHeld ?_ ?_
              rotate_left
              · rintro w' ⟨s0, s1, s2, s3⟩
                go_simp
                with_reducible rfl
              rotate_left
              · simp only [Act.put, List.setIfInBounds_toArray, List.set_cons_zero, List.set_cons_succ, i64_w, i32_w]
                rfl
              refine pure_ (i := 3) (N := (some 90)) (v := ?_) (a' := ?_) #[true, true, true, true, false, false, false, false, false, false, false, false, false, false, false, false] rfl rfl (by kernel_rfl) (fun _ _ _ h => h) (Or.inl ⟨by rfl, ?_⟩) ?_ ?_
              rotate_left
              · intro w'
                go_simp
                with_reducible rfl
              rotate_left
              · simp only [Act.put, List.setIfInBounds_toArray, List.set_cons_zero, List.set_cons_succ, i64_w, i32_w]
                rfl
              refine pure_ (i := 4) (N := (some 91)) (v := ?_) (a' := ?_) #[true, true, true, true, true, false, false, false, false, false, false, false, false, false, false, false] rfl rfl (by kernel_rfl) (fun _ _ _ h => h) (Or.inl ⟨by rfl, ?_⟩) ?_ ?_
              rotate_left
              · intro w'
                go_simp
                with_reducible rfl
              rotate_left
              · simp only [Act.put, List.setIfInBounds_toArray, List.set_cons_zero, List.set_cons_succ, i64_w, i32_w]
                rfl
              refine take_ (i := 5) (N := (some 92)) (v := ?_) (a' := ?_) #[true, true, true, true, true, true, false, false, false, false, false, false, false, false, false, false] rfl rfl (by kernel_rfl) (fun _ _ _ h => h) (Or.inl ⟨by rfl, ?_⟩) hHeld ?_ ?_
              rotate_left
              · rintro w' ⟨s0, s1, s2, s3⟩
                go_simp
                with_reducible rfl
              rotate_left
              · simp only [Act.put, List.setIfInBounds_toArray, List.set_cons_zero, List.set_cons_succ, i64_w, i32_w]
                rfl
              refine take_ (i := 6) (N := (some 93)) (v := ?_) (a' := ?_) #[true, true, true, true, true, true, true, false, false, false, false, false, false, false, false, false] rfl rfl (by kernel_rfl) (fun _ _ _ h => h) (Or.inl ⟨by rfl, ?_⟩) hHeld ?_ ?_
              rotate_left
              · rintro w' ⟨s0, s1, s2, s3⟩
                go_simp
                with_reducible rfl
              rotate_left
              · simp only [Act.put, List.setIfInBounds_toArray, List.set_cons_zero, List.set_cons_succ, i64_w, i32_w]
                rfl
              refine pure_ (i := 7) (N := (some 94)) (v := ?_) (a' := ?_) #[true, true, true, true, true, true, true, true, false, false, false, false, false, false, false, false] rfl rfl (by kernel_rfl) (fun _ _ _ h => h) (Or.inl ⟨by rfl, ?_⟩) ?_ ?_
              rotate_left
              · intro w'
                go_simp
                with_reducible rfl
              rotate_left
              · simp only [Act.put, List.setIfInBounds_toArray, List.set_cons_zero, List.set_cons_succ, i64_w, i32_w]
                rfl
              refine pure_ (i := 8) (N := (some 95)) (v := ?_) (a' := ?_) #[true, true, true, true, true, true, true, true, true, false, false, false, false, false, false, false] rfl rfl (by kernel_rfl) (fun _ _ _ h => h) (Or.inl ⟨by rfl, ?_⟩) ?_ ?_
              rotate_left
              · intro w'
                go_simp
                with_reducible rfl
              rotate_left
              · simp only [Act.put, List.setIfInBounds_toArray, List.set_cons_zero, List.set_cons_succ, i64_w, i32_w]
                rfl
              refine pure_ (i := 9) (N := (some 96)) (v := ?_) (a' := ?_) #[true, true, true, true, true, true, true, true, true, true, false, false, false, false, false, false] rfl rfl (by kernel_rfl) (fun _ _ _ h => h) (Or.inl ⟨by rfl, ?_⟩) ?_ ?_
              rotate_left
              · intro w'
                go_simp
                with_reducible rfl
              rotate_left
              · simp only [Act.put, List.setIfInBounds_toArray, List.set_cons_zero, List.set_cons_succ, i64_w, i32_w]
                rfl
              refine take_ (i := 10) (N := (some 97)) (v := ?_) (a' := ?_) #[true, true, true, true, true, true, true, true, true, true, true, false, false, false, false, false] rfl rfl (by kernel_rfl) (fun _ _ _ h => h) (Or.inl ⟨by rfl, ?_⟩) hHeld ?_ ?_
              rotate_left
              · rintro w' ⟨s0, s1, s2, s3⟩
                go_simp
                with_reducible rfl
              rotate_left
              · simp only [Act.put, List.setIfInBounds_toArray, List.set_cons_zero, List.set_cons_succ, i64_w, i32_w]
                rfl
              refine pure_ (i := 11) (N := (some 98)) (v := ?_) (a' := ?_) #[true, true, true, true, true, true, true, true, true, true, true, true, false, false, false, false] rfl rfl (by kernel_rfl) (fun _ _ _ h => h) (Or.inl ⟨by rfl, ?_⟩) ?_ ?_
              rotate_left
              · intro w'
                go_simp
                with_reducible rfl
              rotate_left
              · simp only [Act.put, List.setIfInBounds_toArray, List.set_cons_zero, List.set_cons_succ, i64_w, i32_w]
                rfl
              refine one_ (i := 12) (N := (some 99)) #[true, true, true, true, true, true, true, true, true, true, true, true, true, false, false, false] rfl rfl (by kernel_rfl) (by decide) (fun K hK => ?_)
              go_simp
              refine hK.out _ _ ⟨Lib.cell?_alloc_some _ hHeld.1, Lib.cell?_alloc_some _ hHeld.2.1, Lib.cell?_alloc_some _ hHeld.2.2.1, Lib.cell?_alloc_some _ hHeld.2.2.2⟩ (fun hHeld => ?_)
              clear hK K
              refine one_ (i := 13) (N := (some 100)) #[true, true, true, true, true, true, true, true, true, true, true, true, true, true, false, false] rfl rfl (by kernel_rfl) (by decide) (fun K hK => ?_)
              refine append145 (B := wo.heap.size) (n := 0) (inner := inner) (x0 := x0) (x1 := x1) rfl _ _ rfl rfl rfl ?_ ?_ ?_ ?_ ?_ ?_
              · exact pw_own_below HOWN.out (below_alloc (pw_below_drewN (Below.refl _ _) _) _)
              · exact cell_pair0 wp _ rfl
              · exact cell_pair1 wp _ rfl
              · omega
              · exact Nat.le_trans HB2.out.size (Below.size (below_alloc (pw_below_drewN (Below.refl _ wp) _) _))
              intro g2 cp2 w2 hown2 hg2 hat2 hlt2
              refine hK.out _ _ ⟨cell_grown_off hg2 nf3 hHeld.1, cell_grown_off hg2 nf1 hHeld.2.1, cell_grown_off hg2 nf2 hHeld.2.2.1, cell_grown_off hg2 nf2 hHeld.2.2.2⟩ (fun hHeld => ?_)
              clear hK K
              refine norm_ (a' := ?_) ?_ ?_
              rotate_left
              · show Act.put _ (some 100) _ = _
                simp only [Act.put, List.setIfInBounds_toArray, List.set_cons_zero, List.set_cons_succ, i64_w, i32_w]
                rfl
              refine pure_ (i := 14) (N := (some 101)) (v := ?_) (a' := ?_) #[true, true, true, true, true, true, true, true, true, true, true, true, true, true, true, false] rfl rfl (by kernel_rfl) (fun _ _ _ h => h) (Or.inl ⟨by rfl, ?_⟩) ?_ ?_
              rotate_left
              · intro w'
                go_simp
                with_reducible rfl
              rotate_left
              · simp only [Act.put, List.setIfInBounds_toArray, List.set_cons_zero, List.set_cons_succ, i64_w, i32_w]
                rfl
              refine last_ (i := 15) (N := none) #[true, true, true, true, true, true, true, true, true, true, true, true, true, true, true, true] rfl rfl (by kernel_rfl) (by decide) (fun K hK => ?_)
              have hz9 : w2.heap[wo.heap.size]? = some (.cells #[.int .i64 y0, .int .i64 y1, .slice A3 0 c3] 142 (0, 0)) := by have hz8 := HZ2.out; exact (hg2.block _ (Nat.lt_of_lt_of_le (Array.getElem?_eq_some_iff.1 HZ2.out).1 (Below.size (below_alloc (pw_below_drewN (Below.refl _ wp) _) _))) nf3).trans ((Below.block (below_alloc (pw_below_drewN (Below.refl _ wp) _) _) _ (Array.getElem?_eq_some_iff.1 HZ2.out).1).trans hz8)
              have hf9 : w2.frozen? ⟨wo.heap.size, 2, none⟩ = false := by simp [World.frozen?, hz9]
              have HZ9 := Lib.hid hz9
              clear hz9
              refine skip_ (w1 := ?_) (by rfl) rfl ?_ ?_
              rotate_left
              · go_simp
                rfl
              refine hK.out _ _ ?_
              clear hK K
              refine done_ (by kernel_rfl) ?_
              go_wp2
              have hg3 : World.grownBy ((wp.drewN (nq + 1)).alloc (.cells #[.int .i64 x0, .int .i64 x1] 145)) w2 (Value.slice A3 0 c3).ownBlock := hg2
              have hb9 : Below wo.heap.size wo (w2.setCell ⟨wo.heap.size, 2, none⟩ (.slice (some ⟨g2, 0, none⟩) (0 + 1) cp2)) := (((pw_below_drewN HB2.out (nq + 1)).alloc HB2.out.size _).grown hg3 (Nat.le_trans HB2.out.size (Below.size (below_alloc (pw_below_drewN (Below.refl _ wp) _) _))) (fun k e => Kd.R_base HS2.out k e)).setCell (Nat.le_refl _) _
              refine ⟨⟨k + 1, .slice (some ⟨g2, 0, none⟩) (0 + 1) cp2, by omega, by go_num, box_set HZ9.out, ?_, grown_of_below hb9 none, hb9⟩, by simp [intOf]; omega⟩
              rw [E2.out]
              exact Kd.R_set (app_done (sp := []) HREPS.out hown2) HZ9.out k145_ne 2 _
            · obtain ⟨m, hm⟩ : ∃ m, sp.length = m + 1 := ⟨sp.length - 1, by omega⟩
              obtain ⟨gs, cps, rfl, hgs, hgsl, cells, hcells⟩ := Kd.R_form HS2.out hsp0
              obtain ⟨ce, hcl, hM, hcc, hfr⟩ := Kd.R_elem HS2.out z145 (m : Int) (by omega) (by omega)
              rw [Int.toNat_natCast] at hM hcc hfr
              obtain rfl := k145_openM hM
              have hs0 : wp.cell? ⟨gs, m * 2, none⟩ = some (.int .i64 (sp.getD m z145).f0) := hcc 0 _ rfl
              have hs1 : wp.cell? ⟨gs, m * 2 + 1, none⟩ = some (.int .i64 (sp.getD m z145).f1) := hcc 1 _ rfl
              have hf1 : wp.frozen? ⟨gs, m * 2 + 1, none⟩ = false := hfr 1
              have hne : gs ≠ wo.heap.size := by
                intro h
                have h1 := HZ2.out
                rw [← h, hcells] at h1
                injection h1 with h1
                injection h1 with _ h2
                cases h2
              have hmle : m ≤ 40000 := by omega
              have hs9 := HI.out.size
              have hbxl := World.block_lt_of_cell? w0 _ CC.out.1
              have ne1 : ¬ Bx = gs := by simp at hbxl; omega
              have ne2 : ¬ gx = gs := by omega
              have ne3 : ¬ wo.heap.size = gs := fun h => hne h.symm
              have ne4 : ¬ gs = Bx := fun h => ne1 h.symm
              have ne5 : ¬ gs = gx := fun h => ne2 h.symm
              clear hs9 hbxl
              unfold stepS at e2
              rw [show sp.length - 1 = m by omega] at e2
              dsimp only at e2
              rw [hm] at hbz
              have HCC := Lib.hid hcc
              have Hm := Lib.hid hm
              clear hcells hcl hM hcc hfr hm
              generalize (sp.getD m z145).f0 = b0 at *
              generalize hb1 : (sp.getD m z145).f1 = b1 at *
              by_cases he : b1 = x0
              · rw [if_pos ⟨hsp0, he⟩] at e2
                have hbe : (b1 == x0) = true := by simp [he]
                have E2 := Lib.hid e2
                have He := Lib.hid he
                have Hb1 := Lib.hid hb1
                clear e2 he hb1 hsp0
                go_wp2
                go_quiet (fail)
                go_wp2
                have iw : IntKind.i64.wrap ((k : Int) + 1) = (k : Int) + 1 := IntWalk.i64_in _ (by omega)
                have i0 : 0 ≤ (k : Int) + 1 := by omega
                have it : ((k : Int) + 1).toNat = k + 1 := by omega
                have im0 : 0 ≤ (m : Int) := by omega
                have im1 : (m : Int) < (m : Int) + 1 := by omega
                have im2 : (m : Int) < ((m + 1 : Nat) : Int) := by omega
                go_region_held3 (fun w' => w'.cell? ⟨wo.heap.size, 2, none⟩ = some (.slice (some ⟨gs, 0, none⟩) (m + 1) cps) ∧ w'.cell? ⟨Bx, 0, none⟩ = some (.slice (some ⟨gx, 0, none⟩) xs.length nx) ∧ w'.cell? ⟨gx, k + 1, none⟩ = some (.int .i64 x1)) (go_keep) (first | fail)
                go_wp2
                have hb9 : Below wo.heap.size wo ((wp.drewN (nq + 1)).setCell ⟨gs, m * 2 + 1, none⟩ (.int .i64 x1)) := (pw_below_drewN HB2.out _).setCell hgs _
                refine ⟨⟨k + 1, .slice (some ⟨gs, 0, none⟩) (m + 1) cps, by omega, by go_num, ?_, ?_, grown_of_below hb9 none, hb9⟩, by simp [intOf]; omega⟩
                · rw [← Hm.out]; exact (Below.heap_setCell (wp.drewN (nq + 1)) ⟨gs, m * 2 + 1, none⟩ _ wo.heap.size ne3).trans HZ2.out
                · rw [E2.out, ← Hm.out]
                  have hR := Kd.R_drewN HS2.out (nq + 1)
                  have hs := (Kd.R_seg hR (m : Int) (by omega) (by have := Hm.out; omega) (c := [.int .i64 b0, .int .i64 b1]) (seg := [.int .i64 x1]) (j := 1) (okp := fun _ => False) rfl (by rw [Int.toNat_natCast]; exact HCC.out) (show 1 + 1 ≤ 2 by decide) (x' := ⟨b0, x1⟩) (k145_mkM _ _ _ _) (fun _ hk => hk.elim)).1
                  rw [Int.toNat_natCast] at hs
                  exact hs
              · rw [if_neg (fun h => he h.2)] at e2
                have hbe : (b1 == x0) = false := by simp [he]
                have E2 := Lib.hid e2
                have Hb1 := Lib.hid hb1
                clear e2 he hb1 hsp0
                go_wp2
                go_quiet (fail)
                go_wp2
                have iw : IntKind.i64.wrap ((k : Int) + 1) = (k : Int) + 1 := IntWalk.i64_in _ (by omega)
                have i0 : 0 ≤ (k : Int) + 1 := by omega
                have it : ((k : Int) + 1).toNat = k + 1 := by omega
                obtain ⟨_, inner, hown, hreps⟩ := HS2.out
                rw [Hm.out] at hown
                obtain ⟨t0, ti, tz0, tz1, tz2⟩ := info_parts info145i
                have HOWN := Lib.hid hown
                have HREPS := Lib.hid hreps
                clear hown hreps
                refine start_ (n := 16) (S := fun w' => w'.cell? ⟨wo.heap.size, 2, none⟩ = some (.slice (some ⟨gs, 0, none⟩) (m + 1) cps) ∧ w'.cell? ⟨Bx, 0, none⟩ = some (.slice (some ⟨gx, 0, none⟩) xs.length nx) ∧ w'.cell? ⟨gx, k, none⟩ = some (.int .i64 x0) ∧ w'.cell? ⟨gx, k + 1, none⟩ = some (.int .i64 x1)) (ds := [15]) #[false, false, false, false, false, false, false, false, false, false, false, false, false, false, false, false] (by kernel_rfl) rfl rfl ?_ (fun hHeld => ?_)
                · exact ⟨hbz, hcx, hx0, hx1⟩
                refine pure_ (i := 0) (N := (some 87)) (v := ?_) (a' := ?_) #[true, false, false, false, false, false, false, false, false, false, false, false, false, false, false, false] rfl rfl (by kernel_rfl) (fun _ _ _ h => h) (Or.inl ⟨by rfl, ?_⟩) ?_ ?_
                rotate_left
                · intro w'
                  go_simp
                  with_reducible rfl
                rotate_left
                · simp only [Act.put, List.setIfInBounds_toArray, List.set_cons_zero, List.set_cons_succ, i64_w, i32_w]
                  rfl
                refine take_ (i := 1) (N := (some 88)) (v := ?_) (a' := ?_) #[true, true, false, false, false, false, false, false, false, false, false, false, false, false, false, false] rfl rfl (by kernel_rfl) (fun _ _ _ h => h) (Or.inl ⟨by rfl, ?_⟩) hHeld ?_ ?_
                rotate_left
                · rintro w' ⟨s0, s1, s2, s3⟩
                  go_simp
                  with_reducible rfl
                rotate_left
                · simp only [Act.put, List.setIfInBounds_toArray, List.set_cons_zero, List.set_cons_succ, i64_w, i32_w]
                  rfl
                refine take_ (i := 2) (N := (some 89)) (v := ?_) (a' := ?_) #[true, true, true, false, false, false, false, false, false, false, false, false, false, false, false, false] rfl rfl (by kernel_rfl) (fun _ _ _ h => h) (Or.inl ⟨by rfl, ?_⟩) hHeld ?_ ?_
                rotate_left
                · rintro w' ⟨s0, s1, s2, s3⟩
                  go_simp
                  with_reducible rfl
                rotate_left
                · simp only [Act.put, List.setIfInBounds_toArray, List.set_cons_zero, List.set_cons_succ, i64_w, i32_w]
                  rfl
                refine pure_ (i := 3) (N := (some 90)) (v := ?_) (a' := ?_) #[true, true, true, true, false, false, false, false, false, false, false, false, false, false, false, false] rfl rfl (by kernel_rfl) (fun _ _ _ h => h) (Or.inl ⟨by rfl, ?_⟩) ?_ ?_
                rotate_left
                · intro w'
                  go_simp
                  with_reducible rfl
                rotate_left
                · simp only [Act.put, List.setIfInBounds_toArray, List.set_cons_zero, List.set_cons_succ, i64_w, i32_w]
                  rfl
                refine pure_ (i := 4) (N := (some 91)) (v := ?_) (a' := ?_) #[true, true, true, true, true, false, false, false, false, false, false, false, false, false, false, false] rfl rfl (by kernel_rfl) (fun _ _ _ h => h) (Or.inl ⟨by rfl, ?_⟩) ?_ ?_
                rotate_left
                · intro w'
                  go_simp
                  with_reducible rfl
                rotate_left
                · simp only [Act.put, List.setIfInBounds_toArray, List.set_cons_zero, List.set_cons_succ, i64_w, i32_w]
                  rfl
                refine take_ (i := 5) (N := (some 92)) (v := ?_) (a' := ?_) #[true, true, true, true, true, true, false, false, false, false, false, false, false, false, false, false] rfl rfl (by kernel_rfl) (fun _ _ _ h => h) (Or.inl ⟨by rfl, ?_⟩) hHeld ?_ ?_
                rotate_left
                · rintro w' ⟨s0, s1, s2, s3⟩
                  go_simp
                  with_reducible rfl
                rotate_left
                · simp only [Act.put, List.setIfInBounds_toArray, List.set_cons_zero, List.set_cons_succ, i64_w, i32_w]
                  rfl
                refine take_ (i := 6) (N := (some 93)) (v := ?_) (a' := ?_) #[true, true, true, true, true, true, true, false, false, false, false, false, false, false, false, false] rfl rfl (by kernel_rfl) (fun _ _ _ h => h) (Or.inl ⟨by rfl, ?_⟩) hHeld ?_ ?_
                rotate_left
                · rintro w' ⟨s0, s1, s2, s3⟩
                  go_simp
                  with_reducible rfl
                rotate_left
                · simp only [Act.put, List.setIfInBounds_toArray, List.set_cons_zero, List.set_cons_succ, i64_w, i32_w]
                  rfl
                refine pure_ (i := 7) (N := (some 94)) (v := ?_) (a' := ?_) #[true, true, true, true, true, true, true, true, false, false, false, false, false, false, false, false] rfl rfl (by kernel_rfl) (fun _ _ _ h => h) (Or.inl ⟨by rfl, ?_⟩) ?_ ?_
                rotate_left
                · intro w'
                  go_simp
                  with_reducible rfl
                rotate_left
                · simp only [Act.put, List.setIfInBounds_toArray, List.set_cons_zero, List.set_cons_succ, i64_w, i32_w]
                  rfl
                refine pure_ (i := 8) (N := (some 95)) (v := ?_) (a' := ?_) #[true, true, true, true, true, true, true, true, true, false, false, false, false, false, false, false] rfl rfl (by kernel_rfl) (fun _ _ _ h => h) (Or.inl ⟨by rfl, ?_⟩) ?_ ?_
                rotate_left
                · intro w'
                  go_simp
                  with_reducible rfl
                rotate_left
                · simp only [Act.put, List.setIfInBounds_toArray, List.set_cons_zero, List.set_cons_succ, i64_w, i32_w]
                  rfl
                refine pure_ (i := 9) (N := (some 96)) (v := ?_) (a' := ?_) #[true, true, true, true, true, true, true, true, true, true, false, false, false, false, false, false] rfl rfl (by kernel_rfl) (fun _ _ _ h => h) (Or.inl ⟨by rfl, ?_⟩) ?_ ?_
                rotate_left
                · intro w'
                  go_simp
                  with_reducible rfl
                rotate_left
                · simp only [Act.put, List.setIfInBounds_toArray, List.set_cons_zero, List.set_cons_succ, i64_w, i32_w]
                  rfl
                refine take_ (i := 10) (N := (some 97)) (v := ?_) (a' := ?_) #[true, true, true, true, true, true, true, true, true, true, true, false, false, false, false, false] rfl rfl (by kernel_rfl) (fun _ _ _ h => h) (Or.inl ⟨by rfl, ?_⟩) hHeld ?_ ?_
                rotate_left
                · rintro w' ⟨s0, s1, s2, s3⟩
                  go_simp
                  with_reducible rfl
                rotate_left
                · simp only [Act.put, List.setIfInBounds_toArray, List.set_cons_zero, List.set_cons_succ, i64_w, i32_w]
                  rfl
                refine pure_ (i := 11) (N := (some 98)) (v := ?_) (a' := ?_) #[true, true, true, true, true, true, true, true, true, true, true, true, false, false, false, false] rfl rfl (by kernel_rfl) (fun _ _ _ h => h) (Or.inl ⟨by rfl, ?_⟩) ?_ ?_
                rotate_left
                · intro w'
                  go_simp
                  with_reducible rfl
                rotate_left
                · simp only [Act.put, List.setIfInBounds_toArray, List.set_cons_zero, List.set_cons_succ, i64_w, i32_w]
                  rfl
                refine one_ (i := 12) (N := (some 99)) #[true, true, true, true, true, true, true, true, true, true, true, true, true, false, false, false] rfl rfl (by kernel_rfl) (by decide) (fun K hK => ?_)
                go_simp
                refine hK.out _ _ ⟨Lib.cell?_alloc_some _ hHeld.1, Lib.cell?_alloc_some _ hHeld.2.1, Lib.cell?_alloc_some _ hHeld.2.2.1, Lib.cell?_alloc_some _ hHeld.2.2.2⟩ (fun hHeld => ?_)
                clear hK K
                refine one_ (i := 13) (N := (some 100)) #[true, true, true, true, true, true, true, true, true, true, true, true, true, true, false, false] rfl rfl (by kernel_rfl) (by decide) (fun K hK => ?_)
                refine append145 (B := wo.heap.size) (n := m + 1) (inner := inner) (x0 := x0) (x1 := x1) rfl _ _ rfl rfl rfl ?_ ?_ ?_ ?_ ?_ ?_
                · exact pw_own_below HOWN.out (below_alloc (pw_below_drewN (Below.refl _ _) _) _)
                · exact cell_pair0 wp _ rfl
                · exact cell_pair1 wp _ rfl
                · omega
                · exact Nat.le_trans HB2.out.size (Below.size (below_alloc (pw_below_drewN (Below.refl _ wp) _) _))
                intro g2 cp2 w2 hown2 hg2 hat2 hlt2
                refine hK.out _ _ ⟨cell_grown_ne hg2 ne3 hHeld.1, cell_grown_ne hg2 ne1 hHeld.2.1, cell_grown_ne hg2 ne2 hHeld.2.2.1, cell_grown_ne hg2 ne2 hHeld.2.2.2⟩ (fun hHeld => ?_)
                clear hK K
                refine norm_ (a' := ?_) ?_ ?_
                rotate_left
                · show Act.put _ (some 100) _ = _
                  simp only [Act.put, List.setIfInBounds_toArray, List.set_cons_zero, List.set_cons_succ, i64_w, i32_w]
                  rfl
                refine pure_ (i := 14) (N := (some 101)) (v := ?_) (a' := ?_) #[true, true, true, true, true, true, true, true, true, true, true, true, true, true, true, false] rfl rfl (by kernel_rfl) (fun _ _ _ h => h) (Or.inl ⟨by rfl, ?_⟩) ?_ ?_
                rotate_left
                · intro w'
                  go_simp
                  with_reducible rfl
                rotate_left
                · simp only [Act.put, List.setIfInBounds_toArray, List.set_cons_zero, List.set_cons_succ, i64_w, i32_w]
                  rfl
                refine last_ (i := 15) (N := none) #[true, true, true, true, true, true, true, true, true, true, true, true, true, true, true, true] rfl rfl (by kernel_rfl) (by decide) (fun K hK => ?_)
                have hz9 : w2.heap[wo.heap.size]? = some (.cells #[.int .i64 y0, .int .i64 y1, .slice (some ⟨gs, 0, none⟩) (m + 1) cps] 142 (0, 0)) := by have hz8 := HZ2.out; rw [Hm.out] at hz8; exact (hg2.block _ (Nat.lt_of_lt_of_le (Array.getElem?_eq_some_iff.1 HZ2.out).1 (Below.size (below_alloc (pw_below_drewN (Below.refl _ wp) _) _))) (fun h => ne3 (Option.some.inj h))).trans ((Below.block (below_alloc (pw_below_drewN (Below.refl _ wp) _) _) _ (Array.getElem?_eq_some_iff.1 HZ2.out).1).trans hz8)
                have hf9 : w2.frozen? ⟨wo.heap.size, 2, none⟩ = false := by simp [World.frozen?, hz9]
                have HZ9 := Lib.hid hz9
                clear hz9
                refine skip_ (w1 := ?_) (by rfl) rfl ?_ ?_
                rotate_left
                · go_simp
                  rfl
                refine hK.out _ _ ?_
                clear hK K
                refine done_ (by kernel_rfl) ?_
                go_wp2
                have hg3 : World.grownBy ((wp.drewN (nq + 1)).alloc (.cells #[.int .i64 x0, .int .i64 x1] 145)) w2 (some gs) := hg2
                have hb9 : Below wo.heap.size wo (w2.setCell ⟨wo.heap.size, 2, none⟩ (.slice (some ⟨g2, 0, none⟩) (m + 1 + 1) cp2)) := (((pw_below_drewN HB2.out (nq + 1)).alloc HB2.out.size _).grown hg3 (Nat.le_trans HB2.out.size (Below.size (below_alloc (pw_below_drewN (Below.refl _ wp) _) _))) (fun k e => by injection e with e; omega)).setCell (Nat.le_refl _) _
                refine ⟨⟨k + 1, .slice (some ⟨g2, 0, none⟩) (m + 1 + 1) cp2, by omega, by go_num, box_set HZ9.out, ?_, grown_of_below hb9 none, hb9⟩, by simp [intOf]; omega⟩
                rw [E2.out]
                exact Kd.R_set (app_done HREPS.out (by rw [Hm.out]; exact hown2)) HZ9.out k145_ne 2 _
        · have e : k = less1 xs.length := by omega
          subst e
          have HS := Lib.hid hS
          have HIW := Lib.hid hIW
          have HZ := Lib.hid hz
          have HG := Lib.hid hg1
          have HB1 := Lib.hid hb1
          clear hS hIW hz hg1 hb1 hcx
          have hJ := HJ.out out wo wr none hJo HG.out (fun r e => by cases e)
          have hP : PxB w0 out (⟨y0, y1, spansUpto (fun x => is (covL la x y0) (covL lb x y0)) xs (less1 xs.length)⟩, v) wr := ⟨Kd.R_lower HS.out HI.out.size, by have h := congrArg List.length Hout.out; rw [List.length_map, List.length_take] at h; omega⟩
          obtain ⟨fn, tmps, assign, body, hy, hR⟩ := HYd.out out _ wr hJ hP
          have l0 : wr.cell? ⟨wo.heap.size, 0, none⟩ = some (.int .i64 y0) := by simp [World.cell?, HZ.out]
          have l1 : wr.cell? ⟨wo.heap.size, 1, none⟩ = some (.int .i64 y1) := by simp [World.cell?, HZ.out]
          have l2 : wr.cell? ⟨wo.heap.size, 2, none⟩ = some v := by simp [World.cell?, HZ.out]
          dsimp only [encsB] at hy
          go_wp2
          gi_wp2
          refine ⟨fun h => (by cases h), hR.mono ?_⟩
          rintro e W3 ⟨rfl, hJ3, hk3⟩
          gi_wp2
          refine ⟨⟨j + 1, _, by omega, by go_num, ?_, hJ3, ⟨hk3.below HIW.out.below, Nat.le_trans HIW.out.size hk3.size, fun q h1 h2 => (hk3.same q h1 h2).trans (HIW.out.same q h1 h2)⟩⟩, by simp [intOf]; omega⟩
          have q0 : ys.getD j 0 = y0 := by have h := Hq0.out; simpa [rdOf] using h
          have q1 : ys.getD (j + 1) 0 = y1 := by have h := Hq1.out; simpa [rdOf, show ((j : Int) + 1).toNat = j + 1 by omega] using h
          rw [List.map_append, Hout.out, bandsOf_take _ _ _ _ hlt, q0, q1]
          simp only [List.map_cons, List.map_nil, bandOf]
          rw [← spansUpto_all]
          rfl
    · have e : j = less1 ys.length := by omega
      subst e
      have Hout := Lib.hid hout
      clear hout
      gi_wp2
      go_end0
      exact ⟨⟨_, rfl⟩, out, by rw [Hout.out]; exact List.take_of_length_le (by rw [bandsOf_length]; exact Nat.le_refl _), hJo⟩
end Go.Proofs.Ytenaegjiggodkaa.PV

/-
  DERIVED: THE SHELF's CONTRACTS AT THIS DUMP, IN PLAIN WORDS (tools/lay-plain.mjs out of 'YtenaegjiggodkaaShelfB.lean', which tools/lay-shelf.mjs wrote): THE SAME DECLARATIONS UNDER THE SAME NAMES: 'import', 'namespace', 'open', 'def', 'theorem' AND NOTHING ELSE: no command of the shelf's: FOR A HAND-IN. Each laying: the table of numbers ('.._ren') and one theorem, a field a fact of the dump's own or the kernel's comparison; each contract: ONE APPLICATION.
-/
namespace Go.Proofs
open Go.Shelf
def Try.grow137_ren : Go.Shelf.Ren := ⟨fun | 4 => 137 | n => n, fun | 22 => 22 | 25 => 43 | 3 => 3 | 4 => 4 | 9 => 9 | 20 => 20 | 0 => 0 | n => n, fun | n => n⟩
theorem Try.grow137 : Go.Proofs.Lays8.n4 Try.prog Try.grow137_ren := {
  mixed := by kernel_rfl
  f4 := ⟨Try.f137.name, by decide, Try.func137.trans (congrArg some (by kernel_rfl))⟩
  t0 := Try.underlying0
  a0 := Try.isAgg0
  z0 := Try.sizeOf0
  v0 := Try.zeroValue0
  t3 := Try.underlying3
  a3 := Try.isAgg3
  z3 := Try.sizeOf3
  v3 := Try.zeroValue3
  t4 := Try.underlying4
  a4 := Try.isAgg4
  z4 := Try.sizeOf4
  v4 := Try.zeroValue4
  t9 := Try.underlying9
  a9 := Try.isAgg9
  z9 := Try.sizeOf9
  v9 := Try.zeroValue9
  t20 := Try.underlying20
  a20 := Try.isAgg20
  z20 := Try.sizeOf20
  v20 := Try.zeroValue20
  t22 := Try.underlying22
  a22 := Try.isAgg22
  z22 := Try.sizeOf22
  v22 := Try.zeroValue22 }
def Try.clone82_ren : Go.Shelf.Ren := ⟨fun | 41 => 82 | n => n, fun | 22 => 22 | 23 => 43 | 4 => 4 | n => n, fun | n => n⟩
theorem Try.clone82 : Go.Proofs.SlLaysE0.n41 Try.prog Try.clone82_ren := {
  mixed := by kernel_rfl
  f41 := ⟨Try.f82.name, by decide, Try.func82.trans (congrArg some (by kernel_rfl))⟩
  t4 := Try.underlying4
  a4 := Try.isAgg4
  z4 := Try.sizeOf4
  v4 := Try.zeroValue4
  t22 := Try.underlying22
  a22 := Try.isAgg22
  z22 := Try.sizeOf22
  v22 := Try.zeroValue22 }
end Go.Proofs

/- slices.Concat of two lists of rectangles, and slices.Clone of one. -/
namespace Go.Proofs.Ytenaegjiggodkaa.PV
open Go.RowKit Go.Proofs.YtenaegjiggodkaaW.PrintWords Go.Proofs.YtenaegjiggodkaaW.PrintLast Go.Proofs.YtenaegjiggodkaaW.PrintMore
set_option linter.unusedVariables false
set_option linter.unusedSimpArgs false

theorem info43i : (Try.prog.info? 43).map (fun i => (i.zero, i.size, i.bytes)) = some (some (.agg #[(.int .i64 0), (.int .i64 0), (.int .i64 0), (.int .i64 0)]), 4, 32) := by kernel_rfl
/-- A made row without an element. -/
theorem own_empty {w : World} {base g cap : Nat} {e : TypeId} {size : Nat} {cells : Array Value} (hb : base ≤ g) (hg : w.heap[g]? = some (.cells cells e (0, 0))) (hc : cells.size = cap * size) (hm : cap ≤ maxLen) :
    w.ownsRow base e size (.slice (some ⟨g, 0, none⟩) 0 cap) 0 [] := ⟨by simp, .inr ⟨g, cap, cells, rfl, hb, hg, Nat.zero_le _, hm, hc, by simp⟩⟩
theorem grow137_any (n : Nat) (w : World) (hn : n ≤ 1000000) :
    Calls Try.prog 137 #[.slice none 0 0, .int .i64 n] w fun e w' => ∃ v, e = .returned v ∧ w'.ownsRow w.heap.size 43 4 v 0 [] ∧ Below w.heap.size w w' := by
  rcases Nat.eq_zero_or_pos n with h0 | h0
  · subst h0
    refine (Any8.slices_Grow_room Try.grow137 none 0 0 0 w (by omega) (by omega) (by omega) (by omega)).mono ?_
    rintro e w' ⟨rfl, rfl⟩
    exact ⟨_, rfl, own_nil _ _ _ _, Below.refl _ _⟩
  · obtain ⟨i0, hi, hz0, hz1, hz2⟩ := info_parts info43i
    refine (Any8.slices_Grow_grow Try.grow137 i0 _ hi hz0 (by omega) none 0 0 n [] w (by omega) (by omega) (by rw [hz2]; omega) (by omega) (by simp) (fun _ => rfl) (fun a h => by cases h)).mono ?_
    rintro e w' ⟨rfl, rfl⟩
    refine ⟨_, rfl, ?_, ?_⟩
    · obtain ⟨cap, hcap⟩ : ∃ cap, grownCap w (0 + n) 0 (Try.grow137_ren.t 25) = cap := ⟨_, rfl⟩
      have hge := grownCap_ge w (0 + n) 0 (Try.grow137_ren.t 25)
      have hle := grownCap_le_maxLen w (0 + n) 0 (Try.grow137_ren.t 25) (by unfold maxLen; omega)
      rw [hcap] at hge hle ⊢
      refine own_empty (e := 43) (Nat.le_refl _) (heap_alloc_new w.drew _) ?_ hle
      simp only [Array.size_append, size_zeroCells]
      simp [Value.cells]
      omega
    · exact ((Below.refl _ _).drew).alloc (by simp) _

theorem K43_M {W : World} {base : Nat} {ok : Nat → Prop} : ∀ (x : S43) (cs : List Value), k43.K W x cs → k43.M W base ok x cs := fun x cs h => by
  rw [k43_open h]; exact k43_mkM _ _ _ x
/-- A cell of a block that is older than the rows of the call's own. -/
theorem cell_grown_own {α : Type} {d : Kd α} {e base : Nat} {ok : Nat → Prop} {W w1 : World} {v : Value} {xs : List α} {B o : Nat} {u : Value} (hc : W.cell? ⟨B, o, none⟩ = some u) (hB : B < base) (hg : W.grownBy w1 v.ownBlock) (hR : d.R e W base ok v xs) : w1.cell? ⟨B, o, none⟩ = some u := by
  have hlt : B < W.heap.size := World.block_lt_of_cell? W _ hc
  have hne : some B ≠ v.ownBlock := by
    intro h
    obtain ⟨inner, ho⟩ := Kd.R_own hR
    have := own_base ho B h.symm
    omega
  have hb := hg.block B hlt hne
  unfold World.cell? at hc ⊢
  simpa [hb] using hc
set_option maxHeartbeats 2000000 in
set_option maxRecDepth 100000 in
theorem concat111 (B : Nat) (Aa Ab : Option Addr) (ca cb : Nat) (la lb : List S43) (w : World) (h0 : w.cell? ⟨B, 0, none⟩ = some (.slice Aa la.length ca)) (h1 : w.cell? ⟨B, 1, none⟩ = some (.slice Ab lb.length cb))
    (hra : Kd.C k43 w Aa la.length la) (hrb : Kd.C k43 w Ab lb.length lb) (hn : la.length + lb.length ≤ 1000000) :
    Calls Try.prog 111 #[.slice (some ⟨B, 0, none⟩) 2 2] w fun e w' => ∃ v, e = .returned v ∧ Kd.R k43 43 w' w.heap.size (fun _ => True) v (la ++ lb) ∧ Below w.heap.size w w' := by
  go_enter Try.func111, Try.ntmps111
  go_wp2
  go_loop [3, 5, 11] (fun s v i => ∃ j : Nat, j ≤ 2 ∧ i = .int .i64 j ∧ s = .int .i64 (if j = 0 then 0 else if j = 1 then la.length else la.length + lb.length : Nat)) (fun _ _ i => 2 - (intOf i).toNat)
  case atStart => exact ⟨0, by omega, rfl, rfl⟩
  case round =>
    obtain ⟨j, hj, rfl, rfl⟩ := hrel
    rcases (show j = 0 ∨ j = 1 ∨ j = 2 by omega) with rfl | rfl | rfl
    · simp only [if_true]
      go_wp2
      go_round
      case rel => exact ⟨1, by omega, rfl, by simp⟩
      case measure => simp [intOf]
    · simp only [if_true]
      go_wp2
      exact ⟨⟨2, by omega, rfl, by simp⟩, by simp [intOf]⟩
    · have hg := grow137_any (la.length + lb.length) w hn
      rw [Int.natCast_add] at hg
      have HG := Lib.hid hg
      have Hra := Lib.hid hra
      have Hrb := Lib.hid hrb
      clear hg hra hrb
      go_wp2_with fail
      refine HG.out.mono ?_
      rintro e w1 ⟨v1, rfl, hO, hB⟩
      have hR : Kd.R k43 43 w1 w.heap.size (fun _ => True) v1 ([] : List S43) := ⟨fun _ _ => trivial, [], hO, Reps.none _ _⟩
      have g0 : w1.cell? ⟨B, 0, none⟩ = some (.slice Aa la.length ca) := pw_cell_below hB h0
      have g1 : w1.cell? ⟨B, 1, none⟩ = some (.slice Ab lb.length cb) := pw_cell_below hB h1
      have hblk : B < w.heap.size := World.block_lt_of_cell? w _ h0
      clear HG hO h0 h1
      go_wp2
      go_loopw [6, 8, 27] (fun v s i wr => ∃ j : Nat, j ≤ 2 ∧ i = .int .i64 j ∧ Kd.R k43 43 wr w.heap.size (fun _ => True) v (if j = 0 then [] else if j = 1 then la else la ++ lb) ∧ Below w.heap.size w wr ∧ wr.cell? ⟨B, 0, none⟩ = some (.slice Aa la.length ca) ∧ wr.cell? ⟨B, 1, none⟩ = some (.slice Ab lb.length cb)) (fun _ _ i _ => 2 - (intOf i).toNat)
      case atStart => exact ⟨0, by omega, rfl, by simpa using hR, hB, g0, g1⟩
      case round =>
        clear hR hB g0 g1
        obtain ⟨j, hj, rfl, hR, hB, g0, g1⟩ := hrel
        rcases (show j = 0 ∨ j = 1 ∨ j = 2 by omega) with rfl | rfl | rfl
        · simp only [if_true] at hR
          have hrd := Kd.C_below Hra.out hB
          have hsz := hB.size
          go_wp2_with (at_builtin; refine Kd.R_append_rows k43 (Rr := k43.K wr) (w0 := w) w.heap.size (by rfl) (.tmp 31) (.tmp 32) 22 43 (.agg #[(.int .i64 0), (.int .i64 0), (.int .i64 0), (.int .i64 0)]) 32 rfl Try.underlying22 info43i rfl (by decide) (by omega) _ [] la Aa la.length ca (fun _ => True) (fun _ => False) rfl rfl ?aO ?aR ?aM (fun _ h => h.elim) (fun _ _ => trivial) ?aB ?aS ?aL ?_)
          case aO => exact hR
          case aR => exact hrd
          case aM => exact K43_M
          case aB => exact hB
          case aS => exact hsz
          case aL => simp; omega
          intro v2 w2 hR2 hB2 hG2 _
          have q0 : w2.cell? ⟨B, 0, none⟩ = some (.slice Aa la.length ca) := cell_grown_own g0 hblk hG2 hR
          have q1 : w2.cell? ⟨B, 1, none⟩ = some (.slice Ab lb.length cb) := cell_grown_own g1 hblk hG2 hR
          clear hG2 hR hB g0 g1 hrd hsz
          go_wp2
          go_roundw
          case rel => exact ⟨1, by omega, rfl, by simpa using hR2, hB2, q0, q1⟩
          case measure => simp [intOf]
        · replace hR : Kd.R k43 43 wr w.heap.size (fun _ => True) u6 la := by simpa using hR
          have hrd := Kd.C_below Hrb.out hB
          have hsz := hB.size
          go_wp2_with (at_builtin; refine Kd.R_append_rows k43 (Rr := k43.K wr) (w0 := w) w.heap.size (by rfl) (.tmp 31) (.tmp 32) 22 43 (.agg #[(.int .i64 0), (.int .i64 0), (.int .i64 0), (.int .i64 0)]) 32 rfl Try.underlying22 info43i rfl (by decide) (by omega) _ la lb Ab lb.length cb (fun _ => True) (fun _ => False) rfl rfl ?aO ?aR ?aM (fun _ h => h.elim) (fun _ _ => trivial) ?aB ?aS ?aL ?_)
          case aO => exact hR
          case aR => exact hrd
          case aM => exact K43_M
          case aB => exact hB
          case aS => exact hsz
          case aL => omega
          intro v2 w2 hR2 hB2 hG2 _
          have q0 : w2.cell? ⟨B, 0, none⟩ = some (.slice Aa la.length ca) := cell_grown_own g0 hblk hG2 hR
          have q1 : w2.cell? ⟨B, 1, none⟩ = some (.slice Ab lb.length cb) := cell_grown_own g1 hblk hG2 hR
          clear hG2 hR hB g0 g1 hrd hsz
          go_wp2
          go_roundw
          case rel => exact ⟨2, by omega, rfl, by simpa using hR2, hB2, q0, q1⟩
          case measure => simp [intOf]
        · have hR2 : Kd.R k43 43 wr w.heap.size (fun _ => True) u6 (la ++ lb) := by simpa using hR
          clear hR g0 g1 Hra Hrb
          go_wp2
          go_ret
          exact ⟨u6, rfl, hR2, hB⟩
end Go.Proofs.Ytenaegjiggodkaa.PV

/- The contract of video's bands: it hands back an iterator with the grid in its boxes. -/
namespace Go.Proofs.Ytenaegjiggodkaa.PV
open Go.RowKit Go.Proofs.YtenaegjiggodkaaW.PrintWords Go.Proofs.YtenaegjiggodkaaW.PrintLast Go.Proofs.YtenaegjiggodkaaW.PrintMore
set_option linter.unusedVariables false
set_option linter.unusedSimpArgs false

theorem endsX_eq (l : List S43) : cutsL (endsOf (fun x => (x.f0, x.f0 + x.f2)) l) = edgesX l := rfl
theorem endsY_eq (l : List S43) : cutsL (endsOf (fun x => (x.f1, x.f1 + x.f3)) l) = edgesY l := rfl

set_option maxHeartbeats 2000000 in
set_option maxRecDepth 100000 in
theorem bands_any (Aa Ab : Option Addr) (ca cb : Nat) (la lb : List S43) (g : Nat) (lf : Array Value) (w : World) (hra : Kd.C k43 w Aa la.length la) (hca : la.length ≤ ca) (hrb : Kd.C k43 w Ab lb.length lb) (hcb : lb.length ≤ cb)
    (hok : (la ++ lb).all okR = true) (hn : (la ++ lb).length ≤ 10000) :
    Calls Try.prog 124 #[.slice Aa la.length ca, .slice Ab lb.length cb, .func (.func g) #[] lf] w fun e w' => ∃ (Bx By Bf Ba Bb : Nat) (vx vy : Value),
      e = .returned (.func (.func 141) #[] #[.pointer (some ⟨By, 0, none⟩), .pointer (some ⟨Bx, 0, none⟩), .pointer (some ⟨Bf, 0, none⟩), .pointer (some ⟨Ba, 0, none⟩), .pointer (some ⟨Bb, 0, none⟩)]) ∧
      (w.heap.size ≤ Bx ∧ w.heap.size ≤ By ∧ w.heap.size ≤ Bf ∧ w.heap.size ≤ Ba ∧ w.heap.size ≤ Bb) ∧
      (w'.cell? ⟨Bx, 0, none⟩ = some vx ∧ w'.cell? ⟨By, 0, none⟩ = some vy ∧ w'.cell? ⟨Bf, 0, none⟩ = some (.func (.func g) #[] lf) ∧ w'.cell? ⟨Ba, 0, none⟩ = some (.slice Aa la.length ca) ∧ w'.cell? ⟨Bb, 0, none⟩ = some (.slice Ab lb.length cb)) ∧
      Kd.R (Kd.int .i64) 3 w' w.heap.size (fun _ => True) vx (edgesX (la ++ lb)) ∧ Kd.R (Kd.int .i64) 3 w' w.heap.size (fun _ => True) vy (edgesY (la ++ lb)) ∧ Below w.heap.size w w' := by
  have hn' : la.length + lb.length ≤ 10000 := by simpa using hn
  obtain ⟨W0, hW0⟩ : ∃ W0, ((((w.alloc (.cells #[.slice Aa la.length ca] 22)).alloc (.cells #[.slice Ab lb.length cb] 22)).alloc (.cells #[.func (.func g) #[] lf] 75)).alloc (.cells #[.slice Aa la.length ca, .slice Ab lb.length cb] 22)) = W0 := ⟨_, rfl⟩
  have hB0 : Below w.heap.size w W0 := by rw [← hW0]; exact ((((Below.refl _ _).alloc (Nat.le_refl _) _).alloc (by simp) _).alloc (by simp; omega) _).alloc (by simp; omega) _
  have c0 : W0.cell? ⟨w.heap.size, 0, none⟩ = some (.slice Aa la.length ca) := by rw [← hW0]; simp [go_sem]
  have c1 : W0.cell? ⟨w.heap.size + 1, 0, none⟩ = some (.slice Ab lb.length cb) := by rw [← hW0]; simp [go_sem]
  have c2 : W0.cell? ⟨w.heap.size + 2, 0, none⟩ = some (.func (.func g) #[] lf) := by rw [← hW0]; simp [go_sem]
  have hs0 : W0.heap.size = w.heap.size + 4 := by rw [← hW0]; simp
  have hcc := concat111 (w.heap.size + 1 + 1 + 1) Aa Ab ca cb la lb W0 (by rw [← hW0]; simp [go_sem]) (by rw [← hW0]; simp [go_sem]) (Kd.C_below hra hB0) (Kd.C_below hrb hB0) (by omega)
  rw [← hW0] at hcc
  generalize la ++ lb = ll at hcc hok hn ⊢
  have Hcc := Lib.hid hcc
  have Hok := Lib.hid hok
  have HW0 := Lib.hid hW0
  have Hs0 := Lib.hid hs0
  have C0 := Lib.hid c0
  have C1 := Lib.hid c1
  have C2 := Lib.hid c2
  clear hra hrb hok hs0 hW0 hcc c0 c1 c2
  go_enter Try.func124, Try.ntmps124
  go_wp2_with fail
  refine Hcc.out.mono ?_
  rintro e w1 ⟨v1, rfl, hR1, hB1⟩
  rw [HW0.out] at hR1 hB1
  obtain ⟨A1, n1, rfl, hn1, hC1⟩ := Kd.R_reads hR1
  go_wp2_with fail
  have he := edges_any 139 (enters_of Try.func139 (by kernel_rfl) rfl) _ ends139 A1 n1 ll w1 hC1 hn1 Hok.out hn
  refine he.mono ?_
  clear he
  rintro e w2 ⟨vx, rfl, hR2, hB2⟩
  rw [endsX_eq] at hR2
  generalize hxs : edgesX ll = xs at hR2
  have Hxs := Lib.hid hxs
  clear hxs
  obtain ⟨Ax, nx, rfl, hnx, hCx⟩ := Kd.R_reads hR2
  obtain ⟨W3, hW3⟩ : ∃ W3, w2.alloc (.cells #[.slice Ax xs.length nx] 32) = W3 := ⟨_, rfl⟩
  have hB3 : Below w1.heap.size w1 W3 := by rw [← hW3]; exact hB2.alloc hB2.size _
  have hR3 : Kd.R (Kd.int .i64) 3 W3 w1.heap.size (fun _ => True) (.slice Ax xs.length nx) xs := by rw [← hW3]; exact Kd.R_below hR2 (below_alloc (Below.refl _ _) _)
  have c3 : W3.cell? ⟨w2.heap.size, 0, none⟩ = some (.slice Ax xs.length nx) := by rw [← hW3]; simp [go_sem]
  have he := edges_any 140 (enters_of Try.func140 (by kernel_rfl) rfl) _ ends140 A1 n1 ll W3 (Kd.C_below hC1 hB3) hn1 Hok.out hn
  rw [← hW3] at he
  have He := Lib.hid he
  have HW3 := Lib.hid hW3
  have HR3 := Lib.hid hR3
  have C3 := Lib.hid c3
  have HB3 := Lib.hid hB3
  have HB1 := Lib.hid hB1
  have hsz2 : w1.heap.size ≤ w2.heap.size := hB2.size
  have hsz3 : W3.heap.size = w2.heap.size + 1 := by rw [← hW3]; simp
  have Hsz3 := Lib.hid hsz3
  clear he hW3 hR3 c3 hC1 hR1 hR2 hCx hB2 hB3 hB1 hsz3
  go_wp2_with fail
  refine He.out.mono ?_
  rintro e w4 ⟨vy, rfl, hR4, hB4⟩
  rw [endsY_eq] at hR4
  rw [HW3.out] at hR4 hB4
  generalize hys : edgesY ll = ys at hR4
  have Hys := Lib.hid hys
  clear hys He
  obtain ⟨Ay, ny, rfl, hny, hCy⟩ := Kd.R_reads hR4
  have hB14 := HB3.out.trans (hB4.mono HB3.out.size)
  have hB04 := HB1.out.trans (hB14.mono HB1.out.size)
  have hB := hB0.trans (hB04.mono hB0.size)
  have e0 := pw_cell_below hB04 C0.out
  have e1 := pw_cell_below hB04 C1.out
  have e2 := pw_cell_below hB04 C2.out
  have e3 := pw_cell_below hB4 C3.out
  have hX := Kd.R_below HR3.out hB4
  have s1 := HB1.out.size
  have s0 := hB0.size
  have s4 := hB4.size
  have HE := Lib.hid (show _ ∧ _ ∧ _ ∧ _ from ⟨e0, e1, e2, e3⟩)
  have HX := Lib.hid hX
  have HY := Lib.hid hR4
  have HB := Lib.hid hB
  clear e0 e1 e2 e3 hX hR4 hB hB04 hB14 hB4 hCy
  go_wp2
  go_ret
  have a3 := Hsz3.out
  have a0 := Hs0.out
  refine ⟨w2.heap.size, w4.heap.size, w.heap.size + 1 + 1, w.heap.size, w.heap.size + 1, .slice Ax xs.length nx, .slice Ay ys.length ny, rfl, ⟨by omega, by omega, by omega, by omega, by omega⟩, ⟨?_, ?_, ?_, ?_, ?_⟩, ?_, ?_, ?_⟩
  · exact Lib.cell?_alloc_some _ HE.out.2.2.2
  · simp [go_sem]
  · exact Lib.cell?_alloc_some _ HE.out.2.2.1
  · exact Lib.cell?_alloc_some _ HE.out.1
  · exact Lib.cell?_alloc_some _ HE.out.2.1
  · rw [Hxs.out]; exact Kd.R_below (Kd.R_lower HX.out (by omega)) (below_alloc (Below.refl _ _) _)
  · rw [Hys.out]; exact Kd.R_below (Kd.R_lower HY.out (by omega)) (below_alloc (Below.refl _ _) _)
  · exact HB.out.alloc HB.out.size _
end Go.Proofs.Ytenaegjiggodkaa.PV

-- Printed by vprint.py (a program of this claim over the translation's own print). Lean checks it.
namespace Go.Proofs.Ytenaegjiggodkaa.PV
open Go.RowKit Go.Proofs.YtenaegjiggodkaaW.PrintWords Go.Proofs.YtenaegjiggodkaaW.PrintLast Go.Proofs.YtenaegjiggodkaaW.PrintMore
attribute [local go_sem] max2_int min2_int max_two min_two max_three min_three max_four min_four   -- for this text's walks alone
set_option linter.unusedVariables false
set_option linter.unusedSimpArgs false

theorem eqA145 (d : Nat) (w : World) (x0 y0 : Int) (x1 y1 : Int) :
    (Op.equalIn (d + 2) 145 (.agg #[.int .i64 x0, .int .i64 x1]) (.agg #[.int .i64 y0, .int .i64 y1])).run Try.prog w = .ok (x0 == y0 && (x1 == y1)) w := by
  refine eqA_of Try.underlying145 (by kernel_rfl) ?_
  refine eqf_cons (by rfl) (by go_simp; rfl) (by go_simp; rfl) (by go_simp) ?_
  exact eqf_last (by rfl) (by go_simp; rfl) (by go_simp; rfl) (by go_simp)
end Go.Proofs.Ytenaegjiggodkaa.PV

-- Printed by vprint.py (a program of this claim over the translation's own print). Lean checks it.
namespace Go.Proofs.Ytenaegjiggodkaa.PV
open Go.RowKit Go.Proofs.YtenaegjiggodkaaW.PrintWords Go.Proofs.YtenaegjiggodkaaW.PrintLast Go.Proofs.YtenaegjiggodkaaW.PrintMore
attribute [local go_sem] max2_int min2_int max_two min_two max_three min_three max_four min_four   -- for this text's walks alone
set_option linter.unusedVariables false
set_option linter.unusedSimpArgs false

attribute [local go_sem high] eqA145
/-! ### video_span: function 125 -/
def video_span.l0 : Nat → List (S145) → List (S145) → Int → Int → Option (Bool)
  | 0, _, _, _, _ => none
  | k + 1, x0, x1, x12, x13 => if x13 < x12 then (if 0 ≤ x13 then (if x13 < (x0.length : Int) then (if x13 < (x1.length : Int) then (if (!(((rd_T145 x0 x13).f0) == ((rd_T145 x1 x13).f0)) || (!(((rd_T145 x0 x13).f1) == ((rd_T145 x1 x13).f1)))) = true then (some false) else (video_span.l0 k x0 x1 x12 (wrap64 (x13 + 1)))) else (none)) else (none)) else (none)) else (some true)
def video_span.f (k : Nat) (l0 : List (S145)) (l1 : List (S145)) : Option (Bool) := if (l0.length : Int) = (l1.length : Int) then (video_span.l0 k l0 l1 (l0.length : Int) 0) else (some false)
theorem video_span.mono_l : ∀ k, (∀ y0 y1 y2 y3, LeO (video_span.l0 k y0 y1 y2 y3) (video_span.l0 (k + 1) y0 y1 y2 y3))
  | 0 => fun _ _ _ _ r h => by simp [video_span.l0] at h
  | k + 1 => by
    have ih0 := video_span.mono_l k
    · intro y0 y1 y2 y3
      unfold video_span.l0
      repeat' first
      | (with_reducible exact ih0 _ _ _ _)
      | (with_reducible exact LeO.refl _)
      | (with_reducible exact LeO.none _)
      | (with_reducible refine LeO.ite ?_ ?_)
      | (with_reducible refine LeO.bind ?_ (fun _ => ?_))
      | exact ih0 _ _ _ _
      | exact LeO.none _
      | refine LeO.ite ?_ ?_
      | refine LeO.bind ?_ (fun _ => ?_)
theorem video_span.mono : ∀ a0 a1 k, LeO (video_span.f k a0 a1) (video_span.f (k + 1) a0 a1) := by
  intro a0 a1 k
  have ih0 := video_span.mono_l k
  unfold video_span.f
  repeat' first
      | (with_reducible exact ih0 _ _ _ _)
      | (with_reducible exact LeO.refl _)
      | (with_reducible exact LeO.none _)
      | (with_reducible refine LeO.ite ?_ ?_)
      | (with_reducible refine LeO.bind ?_ (fun _ => ?_))
      | exact ih0 _ _ _ _
      | exact LeO.none _
      | refine LeO.ite ?_ ?_
      | refine LeO.bind ?_ (fun _ => ?_)
set_option maxHeartbeats 8000000 in
set_option maxRecDepth 100000 in
theorem video_span.calls (k : Nat) (A0 : Option Addr) (c0 : Nat) (l0 : List (S145)) (A1 : Option Addr) (c1 : Nat) (l1 : List (S145)) (r : Bool) (w : World) (hr0 : Kd.C k145 w A0 l0.length l0) (hc0 : l0.length ≤ c0) (hr1 : Kd.C k145 w A1 l1.length l1) (hc1 : l1.length ≤ c1) (h : video_span.f k l0 l1 = some r) :
    Calls Try.prog 125 #[.slice A0 l0.length c0, .slice A1 l1.length c1] w fun e w' => e = .returned (.bool r) ∧ Drawn0 w w' := by
  have hu145 := Try.underlying145
  have HR0 := Aside0.mk hr0
  have HC0 := Aside0.mk hc0
  clear hr0 hc0
  have HR1 := Aside0.mk hr1
  have HC1 := Aside0.mk hc1
  clear hr1 hc1
  have H : (if (l0.length : Int) = (l1.length : Int) then (video_span.l0 k l0 l1 (l0.length : Int) 0) else (some false)) = some r := h
  clear h
  by_cases c3 : (l0.length : Int) = (l1.length : Int)
  · rw [if_pos c3] at H
    have c3b0 : ((l0.length : Int) == (l1.length : Int)) = true := beq_iff_eq.mpr c3
    have c3b1 : ((l0.length : Int) != (l1.length : Int)) = false := bne_eq_false_iff_eq.mpr c3
    have c3b2 : (l0.length == l1.length) = true := by first | simpa using c3 | (simp at c3 ⊢; omega)
    clear c3
    have H' := Aside0.mk H
    clear H
    go_enter Try.func125, Try.ntmps125
    go_wp2
    repeat (go_quiet (fail); try go_wp2)
    go_loopg [13] k (fun kq v13 w' => ∃ (x13_1 : Int), v13 = .int .i64 x13_1 ∧ Aside0 (video_span.l0 kq l0 l1 (l0.length : Int) x13_1 = some r) ∧ Aside0 (kq ≤ k) ∧ Drawn0 w w')
    case atStart => exact ⟨(0), (by first | rfl | (simp; done) | (simp [*]; done)), H', ⟨Nat.le_refl _⟩, by repeat (first | exact Drawn0.refl _ | apply Drawn0.step)⟩
    case round =>
      clear H'
      try clear c1
      try clear p2
      try clear c3
      try clear c3b0
      try clear c3b1
      try clear c3b2
      obtain ⟨x13_1, rfl, HA, HK1, ⟨m1, rfl⟩⟩ := hrel
      cases gk with
      | zero => exact absurd HA.out (by simp [video_span.l0])
      | succ k1 =>
        have H := HA.out
        clear HA
        simp only [video_span.l0] at H
        by_cases c4 : x13_1 < (l0.length : Int)
        · rw [if_pos c4] at H
          have c4b0 : decide (x13_1 < (l0.length : Int)) = true := decide_eq_true c4
          clear c4
          by_cases c5 : 0 ≤ x13_1
          · rw [if_pos c5] at H
            have c5b0 : decide (0 ≤ x13_1) = true := decide_eq_true c5
            clear c5
            by_cases c6 : x13_1 < (l0.length : Int)
            · rw [if_pos c6] at H
              have c6b0 : decide (x13_1 < (l0.length : Int)) = true := decide_eq_true c6
              clear c6
              by_cases c7 : x13_1 < (l1.length : Int)
              · rw [if_pos c7] at H
                have c7b0 : decide (x13_1 < (l1.length : Int)) = true := decide_eq_true c7
                clear c7
                by_cases c8 : (!(((rd_T145 l0 x13_1).f0) == ((rd_T145 l1 x13_1).f0)) || (!(((rd_T145 l0 x13_1).f1) == ((rd_T145 l1 x13_1).f1)))) = true
                · rw [if_pos c8] at H
                  have c8b0 : (!(((rd_T145 l0 x13_1).f0) == ((rd_T145 l1 x13_1).f0)) || (!(((rd_T145 l0 x13_1).f1) == ((rd_T145 l1 x13_1).f1)))) = true := c8
                  clear c8
                  obtain rfl := Option.some.inj H
                  have p201 : 0 ≤ (x13_1 : Int) := of_decide_eq_true (by first | (with_reducible assumption) | assumption)
                  have q201 : x13_1 < (l0.length : Int) := of_decide_eq_true (by first | (with_reducible assumption) | assumption)
                  obtain ⟨ad201, e201, hx201_0, hx201_1⟩ := at_T145 HR0.out x13_1 p201 q201
                  cases e201
                  replace p201 := eq_true p201
                  replace q201 := eq_true q201
                  have p202 : 0 ≤ (x13_1 : Int) := of_decide_eq_true (by first | (with_reducible assumption) | assumption)
                  have q202 : x13_1 < (l1.length : Int) := of_decide_eq_true (by first | (with_reducible assumption) | assumption)
                  obtain ⟨ad202, e202, hx202_0, hx202_1⟩ := at_T145 HR1.out x13_1 p202 q202
                  cases e202
                  replace p202 := eq_true p202
                  replace q202 := eq_true q202
                  go_wp2
                  repeat (go_quiet (fail); try go_wp2)
                  go_ret
                  exact ⟨by first | rfl | (simp; done) | (simp [*]; done), by repeat (first | exact Drawn0.refl _ | apply Drawn0.step)⟩
                · rw [if_neg c8] at H
                  have c8b0 : (!(((rd_T145 l0 x13_1).f0) == ((rd_T145 l1 x13_1).f0)) || (!(((rd_T145 l0 x13_1).f1) == ((rd_T145 l1 x13_1).f1)))) = false := by simpa using c8
                  clear c8
                  have H' := Aside0.mk H
                  clear H
                  have p201 : 0 ≤ (x13_1 : Int) := of_decide_eq_true (by first | (with_reducible assumption) | assumption)
                  have q201 : x13_1 < (l0.length : Int) := of_decide_eq_true (by first | (with_reducible assumption) | assumption)
                  obtain ⟨ad201, e201, hx201_0, hx201_1⟩ := at_T145 HR0.out x13_1 p201 q201
                  cases e201
                  replace p201 := eq_true p201
                  replace q201 := eq_true q201
                  have p202 : 0 ≤ (x13_1 : Int) := of_decide_eq_true (by first | (with_reducible assumption) | assumption)
                  have q202 : x13_1 < (l1.length : Int) := of_decide_eq_true (by first | (with_reducible assumption) | assumption)
                  obtain ⟨ad202, e202, hx202_0, hx202_1⟩ := at_T145 HR1.out x13_1 p202 q202
                  cases e202
                  replace p202 := eq_true p202
                  replace q202 := eq_true q202
                  go_wp2
                  repeat (go_quiet (fail); try go_wp2)
                  go_roundg k1
                  case measure => have := HK1.out; omega
                  case rel => exact ⟨(wrap64 (x13_1 + 1)), (by first | rfl | (simp; done) | (simp [*]; done)), H', ⟨by have := HK1.out; omega⟩, by repeat (first | exact Drawn0.refl _ | apply Drawn0.step)⟩
              · rw [if_neg c7] at H
                exact absurd H (by simp)
            · rw [if_neg c6] at H
              exact absurd H (by simp)
          · rw [if_neg c5] at H
            exact absurd H (by simp)
        · rw [if_neg c4] at H
          have c4b0 : decide (x13_1 < (l0.length : Int)) = false := decide_eq_false c4
          clear c4
          obtain rfl := Option.some.inj H
          go_wp2
          repeat (go_quiet (fail); try go_wp2)
          go_ret
          exact ⟨by first | rfl | (simp; done) | (simp [*]; done), by repeat (first | exact Drawn0.refl _ | apply Drawn0.step)⟩
  · rw [if_neg c3] at H
    have c3b0 : ((l0.length : Int) == (l1.length : Int)) = false := beq_eq_false_iff_ne.mpr c3
    have c3b1 : ((l0.length : Int) != (l1.length : Int)) = true := bne_iff_ne.mpr c3
    have c3b2 : (l0.length == l1.length) = false := by first | simpa using c3 | (simp at c3 ⊢; omega)
    obtain rfl := Option.some.inj H
    go_enter Try.func125, Try.ntmps125
    go_wp2
    repeat (go_quiet (fail); try go_wp2)
    go_ret
    exact ⟨by first | rfl | (simp; done) | (simp [*]; done), by repeat (first | exact Drawn0.refl _ | apply Drawn0.step)⟩

end Go.Proofs.Ytenaegjiggodkaa.PV

/- The contract of video's made. -/
namespace Go.Proofs.Ytenaegjiggodkaa.PV
open Go.RowKit Go.Proofs.YtenaegjiggodkaaW.PrintWords Go.Proofs.YtenaegjiggodkaaW.PrintLast Go.Proofs.YtenaegjiggodkaaW.PrintMore Go.Proofs.YtenaegjiggodkaaRange
set_option linter.unusedVariables false
set_option linter.unusedSimpArgs false

/-- slices.Equal of spans. -/
theorem span_rounds (x0 x1 : List S145) (he : x0.length = x1.length) (hn : x0.length ≤ 9223372036854775807) : ∀ (k i : Nat), x0.length < i + k → i ≤ x0.length → video_span.l0 k x0 x1 (x0.length : Int) (i : Int) = some (decide (x0.drop i = x1.drop i))
  | 0, i, h, hi => by omega
  | k + 1, i, h, hi => by
    unfold video_span.l0
    by_cases hl : i < x0.length
    · rw [if_pos (by omega), if_pos (by omega), if_pos (by omega), if_pos (by omega)]
      have e0 : rd_T145 x0 (i : Int) = x0[i] := by simp [rd_T145, hl]
      have hl1 : i < x1.length := by omega
      have e1 : rd_T145 x1 (i : Int) = x1[i] := by simp [rd_T145, hl1]
      rw [e0, e1]
      have d0 := List.drop_eq_getElem_cons hl
      have d1 := List.drop_eq_getElem_cons hl1
      by_cases hq : x0[i] = x1[i]
      · rw [hq, if_neg (by simp)]
        have hw : wrap64 ((i : Int) + 1) = ((i + 1 : Nat) : Int) := by rw [show ((i : Int) + 1) = ((i + 1 : Nat) : Int) by simp]; unfold wrap64; omega
        rw [hw, span_rounds x0 x1 he hn k (i + 1) (by omega) (by omega), d0, d1, hq]
        generalize List.drop (i + 1) x0 = u0
        generalize List.drop (i + 1) x1 = u1
        simp
      · have : ¬ (x0[i].f0 = x1[i].f0 ∧ x0[i].f1 = x1[i].f1) := fun h => hq ((S145.eq_iff _ _).2 h)
        rw [if_pos (by simp; by_cases h0 : x0[i].f0 = x1[i].f0 <;> simp_all)]
        rw [d0, d1]
        generalize List.drop (i + 1) x0 = u0
        generalize List.drop (i + 1) x1 = u1
        simp [hq]
    · rw [if_neg (by omega)]
      rw [List.drop_eq_nil_of_le (by omega), List.drop_eq_nil_of_le (by omega)]
      simp
theorem video_span.eq (l0 l1 : List S145) (hn : l0.length ≤ 9223372036854775807) : video_span.f (l0.length + 1) l0 l1 = some (decide (l0 = l1)) := by
  unfold video_span.f
  by_cases he : l0.length = l1.length
  · rw [if_pos (by omega)]
    have := span_rounds l0 l1 he hn (l0.length + 1) 0 (by omega) (by omega)
    simpa using this
  · rw [if_neg (by omega)]
    have : l0 ≠ l1 := fun h => he (by rw [h])
    simp [this]
theorem KpB.trans {wm A B C : World} {n1 n2 : Nat} (h : KpB wm n1 n2 A B) (k : KpB wm n1 n2 B C) : KpB wm n1 n2 A C :=
  ⟨fun h0 => k.below (h.below h0), Nat.le_trans h.size k.size, fun q h1 h2 => (k.same q h1 h2).trans (h.same q h1 h2)⟩

/-- The list of bands that is made, in its box. -/
def IB (wm w0 : World) (nl : Nat) (xs : List (S142 × Value)) (W : World) : Prop :=
  ∃ v, W.heap[nl]? = some (.cells #[v] 136 (0, 0)) ∧ Kd.R k142 142 W w0.heap.size (fun _ => True) v ((xs.map Prod.fst).foldl stepB []) ∧ Below wm.heap.size wm W ∧ xs.length ≤ 40000 ∧ w0.heap.size ≤ W.heap.size
def AxB (w0 : World) (T0 : Array Value) (pre : List (S142 × Value)) (x : S142 × Value) (a' : Act) (W : World) : Prop :=
  ∃ bx, a' = { tmps := (T0.setIfInBounds 20 (.agg #[.int .i64 x.1.f0, .int .i64 x.1.f1, x.2])).setIfInBounds 9 (.pointer (some ⟨bx, 0, none⟩)), defers := [] } ∧ W.heap[bx]? = some (.cells #[.int .i64 x.1.f0, .int .i64 x.1.f1, x.2] 142 (0, 0)) ∧ Kd.R k145 145 W w0.heap.size (fun _ => True) x.2 x.1.f2 ∧ pre.length < 40000
theorem R_row {α : Type} {d : Kd α} {e base : Nat} {w w1 : World} {v : Value} {xs : List α} {row : Option Nat} (h : d.R e w base (fun _ => True) v xs) (hg : w.grownBy w1 row) (hr : ∀ r, row = some r → ∃ o : Obj, w.heap[r]? = some o ∧ o.isCells = false) : d.R e w1 base (fun _ => True) v xs :=
  Kd.R_mono (Kd.R_move (w1 := w1) (Kd.R_bound h) (fun k hk => by obtain ⟨_, _, hlt, q, _, cells, hc⟩ := hk; exact grownBy_keeps_cells hg hr hc rfl)) (fun k _ => trivial)
theorem IB.own {wm w0 : World} {nl B : Nat} (hB : wm.heap.size ≤ B) : OwnFrom B (IB wm w0 nl) := by
  rintro xs W W' row ⟨v, h1, h2, h3, h4, h5⟩ hg hr
  exact ⟨v, (grownBy_keeps_cells hg (fun r e => (hr r e).2) h1 rfl).trans h1, R_row h2 hg (fun r e => (hr r e).2), h3.grown hg h3.size (fun r e => by have := (hr r e).1; omega), h4, Nat.le_trans h5 hg.size⟩
theorem AxB.own {w0 : World} {T0 : Array Value} {B : Nat} (pre : List (S142 × Value)) (x : S142 × Value) (a' : Act) : OwnFrom B (fun (_ : Unit) W => AxB w0 T0 pre x a' W) := by
  rintro _ W W' row ⟨bx, h1, h2, h3, h4⟩ hg hr
  exact ⟨bx, h1, (grownBy_keeps_cells hg (fun r e => (hr r e).2) h2 rfl).trans h2, R_row h3 hg (fun r e => (hr r e).2), h4⟩

/-- A range over the bands. -/
theorem range_bands {F : Fence} {n : Nat} {P : Program} {g : Operand} {assign body : Code} {Q : Exit → Act → World → Prop} {a : Act} {w wm w0 : World} {nl n1 : Nat}
    (hro : F.round = none) (h1 : 1 ≤ n) {gf : Nat} {lb : Array Value} (hg : a.eval g = .func (.func gf) #[] lb) (hFg : F.fn gf) (eg : ∀ args w, (callFunc gf args).run P w = .ok (.enter gf args) w)
    {S : List (S142 × Value) → Prop} (hseq : SeqP F (n - 1) P gf lb encsB (PxB w0) (KpB wm n1 w0.heap.size) S w0) (hb0 : Below w0.heap.size w0 w) (hm : Below wm.heap.size wm w) (h0 : IB wm w0 nl [] w)
    (hassign : ∀ (l : Nat) (pre : List (S142 × Value)) (x : S142 × Value) (W : World) (K : Act → World → Prop), IB wm w0 nl pre W → PxB w0 pre x W → (∀ a' W', KeepsFrom w.heap.size W W' → KpB wm n1 w0.heap.size W W' → IB wm w0 nl pre W' → AxB w0 a.tmps pre x a' W' → K a' W') →
      assign.wpIn (F.inRound l) (n - 1 - 1) P (Exit.then K (fun _ _ _ => False)) { tmps := a.tmps.setIfInBounds 20 (.agg #[.int .i64 x.1.f0, .int .i64 x.1.f1, x.2]), defers := [] } W)
    (hbody : ∀ (l : Nat) (pre : List (S142 × Value)) (x : S142 × Value) (a' : Act) (W : World), w.heap.size ≤ l → IB wm w0 nl pre W → AxB w0 a.tmps pre x a' W → body.wpIn (F.inRound l) (n - 1 - 1) P (postP w.heap.size (KpB wm n1 w0.heap.size) (IB wm w0 nl) (pre ++ [x]) W) a' W)
    (hdone : ∀ (D : Nat) (xs : List (S142 × Value)) (W : World), w.heap.size ≤ D → S xs → IB wm w0 nl xs W → W.heap[D]? = some (.deferred (some [])) → Q .normal { a with defers := { target := .collected D, args := #[] } :: a.defers } W) :
    (Code.rangeFunc g #[20] assign body).wpIn F n P Q a w :=
  wpIn_rangeFunc_P hro h1 hg hFg eg hseq (fun h k => h.trans k)
    (fun W l o o' hl ho hc hw => ⟨fun h => h.grown (grownBy_putObj' W l o') h.size (fun r e => by cases e; exact Nat.le_trans hm.size hl), by simp, fun k _ h2 => World.putObj_heap_other (by have := hb0.size; omega)⟩)
    hb0 (fun x => rfl) (IB wm w0 nl) (IB.own hm.size) h0 (AxB w0 a.tmps) (fun pre x a' => AxB.own pre x a')
    (fun l pre x W K hi hp hk => by have h := hassign l pre x W K hi hp hk; simpa [encsB] using h) hbody hdone
theorem info142i : (Try.prog.info? 142).map (fun i => (i.zero, i.size, i.bytes)) = some (some (.agg #[(.int .i64 0), (.int .i64 0), .slice none 0 0]), 3, 40) := by kernel_rfl
theorem k142_ne : ∀ q, q ∈ 142 :: k142.E → q ≠ 136 := by intro q hq; have e : k142.E = [145] := rfl; rw [e] at hq; simp at hq; omega
theorem k145_ne2 : ∀ q, q ∈ 145 :: k145.E → q ≠ 142 := k145_ne
/-- The block of a row is one of its element's type. -/
theorem R_block {α : Type} {d : Kd α} {e base : Nat} {w : World} {ok : Nat → Prop} {v : Value} {xs : List α} (h : d.R e w base ok v xs) {g : Nat} (hg : v.ownBlock = some g) : base ≤ g ∧ ∃ cur : Array Value, w.heap[g]? = some (.cells cur e (0, 0)) := by
  have hb := Kd.R_base h g hg
  obtain ⟨_, inner, ho, _⟩ := h
  rcases ho.2 with ⟨hv, _⟩ | ⟨g', cap', cur, hv, _, hh, _⟩
  · rw [hv] at hg; simp [Value.ownBlock] at hg
  · rw [hv] at hg
    have e1 : g' = g := by simpa [Value.ownBlock] using hg
    subst e1
    exact ⟨hb, cur, hh⟩
theorem R_off {w : World} {base : Nat} {v sv : Value} {ls : List S142} {xs : List S145} (hL : Kd.R k142 142 w base (fun _ => True) v ls) (hR : Kd.R k145 145 w base (fun _ => True) sv xs) : Kd.R k145 145 w base (fun k => True ∧ some k ≠ v.ownBlock) sv xs := by
  cases hv : v.ownBlock with
  | none => exact Kd.R_mono hR (fun k _ => ⟨trivial, by simp⟩)
  | some g =>
    obtain ⟨_, cur, hc⟩ := R_block hL hv
    exact Kd.R_mono (Kd.R_types hR hc k145_ne) (fun k hk => ⟨trivial, fun h => hk.2 (Option.some.inj h)⟩)
theorem box1_set {w : World} {B : Nat} {u v : Value} {t : TypeId} (h : w.heap[B]? = some (.cells #[u] t (0, 0))) : (w.setCell ⟨B, 0, none⟩ v).heap[B]? = some (.cells #[v] t (0, 0)) := by
  obtain ⟨hlt, hk⟩ := Array.getElem?_eq_some_iff.1 h
  show (w.heap.modify B _)[B]? = _
  rw [Array.getElem?_eq_getElem (by rw [Array.size_modify]; exact hlt), Array.getElem_modify_self, hk]
  rfl
theorem setCell_size (w : World) (a : Addr) (u : Value) : (w.setCell a u).heap.size = w.heap.size := by simp [World.setCell]

/-- A round that puts a band behind. -/
theorem app_close {w w2 W wp w3 : World} {n1 : Nat} {pre : List (S142 × Value)} {xv v v1 : Value} {ls : List S142} {x : S142} {inner : List Value}
    (hn0 : w.heap.size < n1) (hn : n1 ≤ w2.heap.size) (hsz : w2.heap.size ≤ W.heap.size) (hp : Below W.heap.size W wp) (hBW : Below w.heap.size w W) (hnl : W.heap[w.heap.size]? = some (.cells #[v] 136 (0, 0)))
    (hL : Kd.R k142 142 W w2.heap.size (fun _ => True) v ls) (hR : Kd.R k145 145 W w2.heap.size (fun _ => True) xv x.f2) (hfold : ((pre ++ [(x, xv)]).map Prod.fst).foldl stepB [] = ls ++ [x]) (hpre : pre.length < 40000)
    (hreps : Reps (k142.M (wp.alloc (.cells #[.int .i64 x.f0, .int .i64 x.f1, xv] 142)) w2.heap.size (fun k => True ∧ some k ≠ v.ownBlock)) k142.sz ls inner)
    (hown : w3.ownsRow w2.heap.size 142 k142.sz v1 (ls.length + 1) (inner ++ [.int .i64 x.f0, .int .i64 x.f1, xv])) (hg : (wp.alloc (.cells #[.int .i64 x.f0, .int .i64 x.f1, xv] 142)).grownBy w3 v.ownBlock)
    (hat : v1.ownBlock = v.ownBlock ∨ v1.ownBlock = some (wp.alloc (.cells #[.int .i64 x.f0, .int .i64 x.f1, xv] 142)).heap.size) :
    KeepsFrom w2.heap.size W (w3.setCell ⟨w.heap.size, 0, none⟩ v1) ∧ KpB w n1 w2.heap.size W (w3.setCell ⟨w.heap.size, 0, none⟩ v1) ∧ IB w w2 w.heap.size (pre ++ [(x, xv)]) (w3.setCell ⟨w.heap.size, 0, none⟩ v1) := by
  obtain ⟨Wa, hWa⟩ : ∃ Wa, wp.alloc (.cells #[.int .i64 x.f0, .int .i64 x.f1, xv] 142) = Wa := ⟨_, rfl⟩
  rw [hWa] at hreps hg hat
  have hpa : Below W.heap.size W Wa := by rw [← hWa]; exact hp.alloc hp.size _
  have hown0 : ∀ g, v.ownBlock = some g → w2.heap.size ≤ g ∧ ∃ cur : Array Value, W.heap[g]? = some (.cells cur 142 (0, 0)) := fun g hg => R_block hL hg
  have hLa := Kd.R_below hL hpa
  have hRa := Kd.R_below hR hpa
  have hnl3 : w3.heap[w.heap.size]? = some (.cells #[v] 136 (0, 0)) := by
    have h1 := (hpa.block _ (Array.getElem?_eq_some_iff.1 hnl).1).trans hnl
    exact (hg.block _ (Array.getElem?_eq_some_iff.1 h1).1 (fun e => by have := (hown0 _ e.symm).1; omega)).trans h1
  have hkeep : ∀ k, k < W.heap.size → k ≠ w.heap.size → some k ≠ v.ownBlock → (w3.setCell ⟨w.heap.size, 0, none⟩ v1).heap[k]? = W.heap[k]? := fun k hk h1 h2 => by
    rw [Below.heap_setCell w3 ⟨w.heap.size, 0, none⟩ v1 k h1, hg.block k (Nat.lt_of_lt_of_le hk hpa.size) h2, hpa.block k hk]
  have hsize : W.heap.size ≤ (w3.setCell ⟨w.heap.size, 0, none⟩ v1).heap.size := by rw [setCell_size]; exact Nat.le_trans hpa.size hg.size
  have hBf : Below w.heap.size w (w3.setCell ⟨w.heap.size, 0, none⟩ v1) := ((hBW.trans (hpa.mono hBW.size)).grown hg (Nat.le_trans hBW.size hpa.size) (fun k e => by have := (hown0 _ e).1; omega)).setCell (Nat.le_refl _) _
  have hM : k142.M Wa w2.heap.size (fun k => True ∧ some k ≠ v.ownBlock) x [.int .i64 x.f0, .int .i64 x.f1, xv] := k142_mkM _ _ _ x (R_off hLa hRa)
  have hA := Kd.R_appended (fun _ _ => trivial) hreps hM (fun k hk => hk) (fun _ _ => trivial) hown hg (hat.imp_right fun h => ⟨_, h, Nat.le_refl _⟩)
  refine ⟨⟨hsize, fun k o hB hk ho => ?_⟩, ⟨fun _ => hBf, hsize, fun k h1 h2 => hkeep k (by omega) (by omega) (fun e => by have := (hown0 _ e.symm).1; omega)⟩, ?_⟩
  · refine (hkeep k (Array.getElem?_eq_some_iff.1 hk).1 (by omega) (fun e => ?_)).trans hk
    obtain ⟨_, cur, hc⟩ := hown0 _ e.symm
    rw [hk] at hc
    injection hc with hc
    rw [hc] at ho
    cases ho
  · exact ⟨v1, box1_set hnl3, by rw [hfold]; exact Kd.R_set hA hnl3 k142_ne 0 v1, hBf, by simp; omega, Nat.le_trans hsz hsize⟩
/-- A round that makes the last band taller. -/
theorem set_close {w w2 W wp : World} {n1 g o : Nat} {u : Value} {pre : List (S142 × Value)} {xv v : Value} {ls : List S142} {x : S142} {cells : Array Value}
    (hn0 : w.heap.size < n1) (hn : n1 ≤ w2.heap.size) (hsz : w2.heap.size ≤ W.heap.size) (hp : Below W.heap.size W wp) (hBW : Below w.heap.size w W) (hnl : W.heap[w.heap.size]? = some (.cells #[v] 136 (0, 0)))
    (hg : w2.heap.size ≤ g) (hgc : W.heap[g]? = some (.cells cells 142 (0, 0))) (hL : Kd.R k142 142 (wp.setCell ⟨g, o, none⟩ u) w2.heap.size (fun _ => True) v ls) (hfold : ((pre ++ [(x, xv)]).map Prod.fst).foldl stepB [] = ls) (hpre : pre.length < 40000) :
    KeepsFrom w2.heap.size W (wp.setCell ⟨g, o, none⟩ u) ∧ KpB w n1 w2.heap.size W (wp.setCell ⟨g, o, none⟩ u) ∧ IB w w2 w.heap.size (pre ++ [(x, xv)]) (wp.setCell ⟨g, o, none⟩ u) := by
  have hkeep : ∀ k, k < W.heap.size → k ≠ g → (wp.setCell ⟨g, o, none⟩ u).heap[k]? = W.heap[k]? := fun k hk h1 => by
    rw [Below.heap_setCell wp ⟨g, o, none⟩ u k h1, hp.block k hk]
  have hsize : W.heap.size ≤ (wp.setCell ⟨g, o, none⟩ u).heap.size := by rw [setCell_size]; exact hp.size
  have hBf : Below w.heap.size w (wp.setCell ⟨g, o, none⟩ u) := (hBW.trans (hp.mono hBW.size)).setCell (show w.heap.size ≤ g by omega) _
  refine ⟨⟨hsize, fun k o' hB hk ho => ?_⟩, ⟨fun _ => hBf, hsize, fun k h1 h2 => hkeep k (by omega) (by omega)⟩, ?_⟩
  · refine (hkeep k (Array.getElem?_eq_some_iff.1 hk).1 (fun e => ?_)).trans hk
    subst e
    rw [hk] at hgc
    injection hgc with hc
    rw [hc] at ho
    cases ho
  · exact ⟨v, (hkeep _ (Array.getElem?_eq_some_iff.1 hnl).1 (by omega)).trans hnl, by rw [hfold]; exact hL, hBf, by simp; omega, Nat.le_trans hsz hsize⟩
theorem far_box {W wp w3 : World} {base nl n c : Nat} {A : Option Addr} {vv : Value} {ls : List S142} {o : Obj} (hvv : vv = .slice A n c) (hp : Below W.heap.size W wp) (hnl : W.heap[nl]? = some (.cells #[.slice A n c] 136 (0, 0))) (hL : Kd.R k142 142 W base (fun _ => True) (.slice A n c) ls) (hg : (wp.alloc o).grownBy w3 vv.ownBlock) : w3.heap[nl]? = some (.cells #[vv] 136 (0, 0)) := by
  subst hvv
  have h1 := (hp.block _ (Array.getElem?_eq_some_iff.1 hnl).1).trans hnl
  have h2 := (Below.heap_alloc wp o nl (Array.getElem?_eq_some_iff.1 h1).1).trans h1
  exact (hg.block nl (Array.getElem?_eq_some_iff.1 h2).1 (fun e => by
    obtain ⟨_, cur, hc⟩ := R_block hL e.symm
    rw [hnl] at hc
    injection hc with hc
    injection hc with _ hc
    cases hc)).trans h2
theorem cells3_at {W : World} {k : Nat} {u0 u1 u2 : Value} {t : TypeId} (h : W.heap[k]? = some (.cells #[u0, u1, u2] t (0, 0))) : ∀ j u, [u0, u1, u2][j]? = some u → W.cell? ((⟨k, 0, none⟩ : Addr).add j) = some u := by
  intro j u hj
  match j, hj with
  | 0, hj => simp at hj; subst hj; simp [World.cell?, Addr.add, h]
  | 1, hj => simp at hj; subst hj; simp [World.cell?, Addr.add, h]
  | 2, hj => simp at hj; subst hj; simp [World.cell?, Addr.add, h]
  | j + 3, hj => simp at hj
theorem cells3_new (w : World) (u0 u1 u2 : Value) {t : TypeId} : ∀ j u, [u0, u1, u2][j]? = some u → (w.alloc (.cells #[u0, u1, u2] t)).cell? ((⟨w.heap.size, 0, none⟩ : Addr).add j) = some u := cells3_at (World.alloc_heap_new w _)
theorem getD_mem {α : Type} (l : List α) (i : Nat) (z : α) (h : i < l.length) : l.getD i z ∈ l := by
  rw [show l.getD i z = l[i] from by simp [h]]
  exact List.getElem_mem _
theorem outOf_take (ls : List S142) (k : Nat) (h : k < ls.length) : outOf (ls.take (k + 1)) = outOf (ls.take k) ++ outB (ls.getD k z142) := by
  rw [List.take_succ_eq_append_getElem h, show ls.getD k z142 = ls[k] from by simp [h]]
  simp only [outOf, List.flatMap_append, List.flatMap_cons, List.flatMap_nil, List.append_nil]
theorem outB_take (b : S142) (j : Nat) (h : j < b.f2.length) : (outB b).take (j + 1) = (outB b).take j ++ [⟨(b.f2.getD j z145).f0, b.f0, wrap64 ((b.f2.getD j z145).f1 - (b.f2.getD j z145).f0), wrap64 (b.f1 - b.f0)⟩] := by
  have hl : j < (outB b).length := by simpa [outB] using h
  rw [List.take_succ_eq_append_getElem hl]
  simp [outB, h]
theorem outB_length (b : S142) : (outB b).length = b.f2.length := by simp [outB]
theorem stepB_spans (l : List S142) (b : S142) (n : Nat) (hl : ∀ x ∈ l, x.f2.length ≤ n) (hb : b.f2.length ≤ n) : ∀ x ∈ stepB l b, x.f2.length ≤ n := by
  intro x hx
  unfold stepB at hx
  split at hx
  · rename_i h
    rcases List.mem_or_eq_of_mem_set hx with h1 | h1
    · exact hl x h1
    · subst h1
      have h2 : l.getD (l.length - 1) z142 ∈ l := by
        exact getD_mem l _ _ (by omega)
      show (l.getD (l.length - 1) z142).f2.length ≤ n
      exact hl _ h2
  · rcases List.mem_append.1 hx with h1 | h1
    · exact hl x h1
    · simp at h1; subst h1; exact hb
theorem fold_spans (n : Nat) : ∀ (bs l : List S142), (∀ x ∈ l, x.f2.length ≤ n) → (∀ x ∈ bs, x.f2.length ≤ n) → ∀ x ∈ bs.foldl stepB l, x.f2.length ≤ n
  | [], l, hl, _ => hl
  | b :: t, l, hl, hb => fold_spans n t (stepB l b) (stepB_spans l b n hl (hb b (by simp))) (fun x hx => hb x (by simp [hx]))
theorem bands_spans (sel : Int → Int → Bool) (xs ys : List Int) : ∀ x ∈ bandsOf sel xs ys, x.f2.length ≤ xs.length := by
  intro x hx
  unfold bandsOf at hx
  obtain ⟨p, _, rfl⟩ := List.mem_map.1 hx
  simp only [bandOf]
  have h := spansUpto_length (fun x => sel x p.1) xs (xs.length - 1)
  rw [spansUpto_all] at h
  omega
theorem outOf_len (n : Nat) : ∀ (ls : List S142), (∀ x ∈ ls, x.f2.length ≤ n) → (outOf ls).length ≤ ls.length * n
  | [], _ => by simp [outOf]
  | b :: t, h => by
    have h1 := outOf_len n t (fun x hx => h x (by simp [hx]))
    have h2 := h b (by simp)
    simp only [outOf, List.flatMap_cons, List.length_append, List.length_cons] at h1 ⊢
    rw [outB_length, Nat.succ_mul]
    omega
end Go.Proofs.Ytenaegjiggodkaa.PV

/- The walk of video's made. -/
namespace Go.Proofs.Ytenaegjiggodkaa.PV
open Go.RowKit Go.Proofs.YtenaegjiggodkaaW.PrintWords Go.Proofs.YtenaegjiggodkaaW.PrintLast Go.Proofs.YtenaegjiggodkaaW.PrintMore Go.Proofs.YtenaegjiggodkaaRange
attribute [local go_sem] Oper.semAt_some
set_option linter.unusedVariables false
set_option linter.unusedSimpArgs false
theorem insL_length (x : Int) : ∀ l : List Int, (insL x l).length ≤ l.length + 1
  | [] => by simp [insL]
  | y :: t => by
    unfold insL
    split
    · simp
    · split
      · simp
      · have := insL_length x t; simp; omega
theorem fold_ins (l : List Int) : ∀ acc : List Int, (l.foldl (fun acc x => insL x acc) acc).length ≤ acc.length + l.length := by
  induction l with
  | nil => intro acc; simp
  | cons x t ih => intro acc; simp only [List.foldl_cons, List.length_cons]; have := ih (insL x acc); have := insL_length x acc; omega
theorem flat_two (f : S43 → List Int) (hf : ∀ r, (f r).length = 2) : ∀ l : List S43, (l.flatMap f).length = 2 * l.length
  | [] => rfl
  | r :: t => by rw [List.flatMap_cons, List.length_append, hf, flat_two f hf t, List.length_cons]; omega
theorem edgesX_le (l : List S43) (h : l.length ≤ 10000) : (edgesX l).length ≤ 40000 := by
  have h1 := fold_ins ((l.filter fullR).flatMap endsX) []
  rw [flat_two _ (fun _ => rfl)] at h1
  have h2 := List.length_filter_le fullR l
  simp only [List.length_nil] at h1
  unfold edgesX cutsL
  omega
theorem edgesY_le (l : List S43) (h : l.length ≤ 10000) : (edgesY l).length ≤ 40000 := by
  have h1 := fold_ins ((l.filter fullR).flatMap endsY) []
  rw [flat_two _ (fun _ => rfl)] at h1
  have h2 := List.length_filter_le fullR l
  simp only [List.length_nil] at h1
  unfold edgesY cutsL
  omega
theorem stepB_length (l : List S142) (b : S142) : (stepB l b).length ≤ l.length + 1 := by
  unfold stepB; split <;> simp
theorem fold_stepB_length : ∀ (bs l : List S142), (bs.foldl stepB l).length ≤ l.length + bs.length
  | [], l => by simp
  | b :: t, l => by rw [List.foldl_cons, List.length_cons]; have := fold_stepB_length t (stepB l b); have := stepB_length l b; omega
theorem wpIn_region_later {id l n : Nat} {Q : Exit → Act → World → Prop} {a : Act} {w : World} {ops : List Oper} (hm : Try.prog.follows .mixedOrders = true) (hB : Region.lexB .any ops.toArray = true) (hnd : ops.toArray.all (fun o => match o.op with | .defer _ => false | _ => true) = true)
    (h : wpQuiet Try.prog ops.toArray (fun w' => ∃ p : Later w, w' = p.w) (fun a' => ∀ w', (∃ p : Later w, w' = p.w) → Q .normal a' w') ops a) : (Code.region id ops.toArray true).wpIn (Fence.wide.inRound l) n Try.prog Q a w :=
  Go.Proofs.YtenaegjiggodkaaRange.wpIn_region_quiet (C := fun w' => ∃ p : Later w, w' = p.w) hm hB hnd ⟨⟨w.drew, below_drew (Below.refl _ _)⟩, rfl⟩ (by simpa only [List.toList_toArray] using h)
set_option maxHeartbeats 4000000 in
set_option maxRecDepth 100000 in
theorem made_any (Aa Ab : Option Addr) (ca cb : Nat) (la lb : List S43) (g : Nat) (lf : Array Value) (is : Bool → Bool → Bool) (w : World) (hra : Kd.C k43 w Aa la.length la) (hca : la.length ≤ ca) (hrb : Kd.C k43 w Ab lb.length lb) (hcb : lb.length ≤ cb)
    (hok : (la ++ lb).all okR = true) (hn : (la ++ lb).length ≤ 10000) (eg : ∀ args w, (callFunc g args).run Try.prog w = .ok (.enter g args) w) (hf : Tells2 g lf is w) :
    Calls Try.prog 73 #[.slice Aa la.length ca, .slice Ab lb.length cb, .func (.func g) #[] lf] w fun e w' => ∃ v : Value, e = .returned (.tuple #[v, .int .i64 (madeR la lb is).2]) ∧ Kd.R k43 43 w' w.heap.size (fun _ => True) v (madeR la lb is).1 ∧ Below w.heap.size w w' := by
  obtain ⟨W1, hW1⟩ : ∃ W1, w.alloc (.cells #[.slice none 0 0] 136) = W1 := ⟨_, rfl⟩
  have hB1 : Below w.heap.size w W1 := by rw [← hW1]; exact (Below.refl _ _).alloc (Nat.le_refl _) _
  have hs1 : W1.heap.size = w.heap.size + 1 := by rw [← hW1]; simp
  have hl1 : W1.heap[w.heap.size]? = some (.cells #[.slice none 0 0] 136 (0, 0)) := by rw [← hW1]; exact World.alloc_heap_new w _
  have hbn := bands_any Aa Ab ca cb la lb g lf W1 (Kd.C_below hra hB1) hca (Kd.C_below hrb hB1) hcb hok hn
  have Hbn := Lib.hid hbn
  have HW1 := Lib.hid hW1
  have HB1 := Lib.hid hB1
  have Hs1 := Lib.hid hs1
  have Hl1 := Lib.hid hl1
  have Hra := Lib.hid hra
  have Hrb := Lib.hid hrb
  have Hok := Lib.hid hok
  have Hn := Lib.hid hn
  have Hf := Lib.hid hf
  clear hbn hW1 hB1 hs1 hl1 hra hrb hok hn hf
  refine (callsIn_wide (n := 1)).1 (callsIn_of_wp_marks Try.func73 rfl trivial ?_)
  simp only [Try.ntmps73, List.size_toArray, List.length_cons, List.length_nil, Nat.reduceAdd, Nat.reduceSub, Array.replicate_succ, Array.replicate_zero, List.push_toArray, List.append_toArray, List.nil_append, List.cons_append]
  rw [wpIn_wide]
  go_wp2_with fail
  rw [HW1.out]
  refine Hbn.out.mono ?_
  rintro e w2 ⟨Bx, By, Bf, Ba, Bb, vx, vy, rfl, hge, hcs, hX, hY, hB2⟩
  clear Hbn
  have hB02 := HB1.out.trans (hB2.mono HB1.out.size)
  have hseq := bands3_any (1 - 1) w w2 W1.heap.size HB1.out.size hB2.size Bx By Bf Ba Bb vx vy _ _ g lf is eg Hf.out Aa Ab ca cb la lb Hra.out hca Hrb.out hcb hge.1 hge.2.1 hge.2.2.1 hge.2.2.2.1 hge.2.2.2.2 hcs.1 hcs.2.1 hcs.2.2.1 hcs.2.2.2.1 hcs.2.2.2.2 hX hY hB02 (edgesX_le _ Hn.out) (edgesY_le _ Hn.out)
  have hl2 := (hB2.block _ (by have := Hs1.out; omega)).trans Hl1.out
  have H0 : Hid (IB w w2 w.heap.size [] w2) := Lib.hid ⟨_, hl2, Kd.R_nil _ _ _ _ _, hB02, Nat.zero_le _, Nat.le_refl _⟩
  have Hseq := Lib.hid hseq
  have HB2 := Lib.hid hB2
  have HB02 := Lib.hid hB02
  clear hseq hB2 hB02 hl2 hcs hX hY hge
  go_wp2
  refine (wpIn_wide (n := 1)).1 ?_
  refine range_bands (F := Fence.wide) (n := 1) (wm := w) (w0 := w2) (nl := w.heap.size) (n1 := W1.heap.size) rfl (by decide) (gf := 141) rfl trivial (enters_of Try.func141 (by kernel_rfl) rfl) Hseq.out (Below.refl _ _) HB02.out H0.out ?_ ?_ ?_
  · intro l pre x W K hI hP hk
    obtain ⟨⟨xf, xt, xs⟩, xv⟩ := x
    obtain ⟨hP, hpl⟩ := hP
    dsimp only at hP
    obtain ⟨A2, c2, rfl, _, _⟩ := Kd.R_reads hP
    have HI := Lib.hid hI
    have HP := Lib.hid hP
    have HK := Lib.hid hk
    clear hI hP hk Hseq H0
    gi_wp2
    obtain ⟨Wx, hWx⟩ : ∃ Wx, W.alloc (.cells #[.int .i64 xf, .int .i64 xt, .slice A2 xs.length c2] 142) = Wx := ⟨_, rfl⟩
    have hBx : Below W.heap.size W Wx := by rw [← hWx]; exact (Below.refl _ _).alloc (Nat.le_refl _) _
    have hxx : Wx.heap[W.heap.size]? = some (.cells #[.int .i64 xf, .int .i64 xt, .slice A2 xs.length c2] 142 (0, 0)) := by rw [← hWx]; exact World.alloc_heap_new W _
    rw [hWx]
    obtain ⟨v, i1, i2, i3, i4, i5⟩ := HI.out
    refine HK.out _ _ (KeepsFrom.of_grownBy (grown_of_below hBx none) (by simp)) ⟨fun h => h.trans (hBx.mono i3.size), hBx.size, fun k _ h2 => hBx.block k (by omega)⟩ ⟨v, (hBx.block _ (Array.getElem?_eq_some_iff.1 i1).1).trans i1, Kd.R_below i2 hBx, i3.trans (hBx.mono i3.size), i4, Nat.le_trans i5 hBx.size⟩ ⟨W.heap.size, ?_, hxx, Kd.R_below HP.out hBx, hpl⟩
    simp only [List.setIfInBounds_toArray, List.set_cons_zero, List.set_cons_succ]
  · intro l pre x a' W hl hI hA
    obtain ⟨bx, rfl, hbx, hR, hpre⟩ := hA
    obtain ⟨v, hnl, hL, hBW, hxl, hsz⟩ := hI
    simp only [List.setIfInBounds_toArray, List.set_cons_zero, List.set_cons_succ]
    obtain ⟨⟨xf, xt, xs⟩, xv⟩ := x
    dsimp only at hbx hR ⊢
    obtain ⟨A2, c2, rfl, hc2, hC2⟩ := Kd.R_reads hR
    obtain ⟨A, c, rfl, hc, hC⟩ := Kd.R_reads hL
    have hfold : ((pre ++ [((⟨xf, xt, xs⟩ : S142), (.slice A2 xs.length c2 : Value))]).map Prod.fst).foldl stepB [] = stepB ((pre.map Prod.fst).foldl stepB []) ⟨xf, xt, xs⟩ := by rw [List.map_append, List.foldl_append]; rfl
    have hll := fold_stepB_length (pre.map Prod.fst) []
    rw [List.length_map, List.length_nil] at hll
    generalize hls : (pre.map Prod.fst).foldl stepB [] = ls at hL hc hC hfold hll
    have hcv : W.cell? ⟨w.heap.size, 0, none⟩ = some (.slice A ls.length c) := by simp [World.cell?, hnl, hls]
    have hx0 : W.cell? ⟨bx, 0, none⟩ = some (.int .i64 xf) := by simp [World.cell?, hbx]
    have hx1 : W.cell? ⟨bx, 1, none⟩ = some (.int .i64 xt) := by simp [World.cell?, hbx]
    have hx2 : W.cell? ⟨bx, 2, none⟩ = some (.slice A2 xs.length c2) := by simp [World.cell?, hbx]
    have hnl' : W.heap[w.heap.size]? = some (.cells #[.slice A ls.length c] 136 (0, 0)) := by rw [hnl, hls]
    have HNL := Lib.hid hnl'
    have HL := Lib.hid hL
    have HR := Lib.hid hR
    have HBW := Lib.hid hBW
    have HBX := Lib.hid hbx
    have HFO := Lib.hid hfold
    have HC2 := Lib.hid hC2
    clear hnl hnl' hL hR hBW hbx hfold hC hls hC2 Hseq H0
    rcases Nat.eq_zero_or_pos ls.length with hl0 | hl0
    · obtain rfl := List.eq_nil_of_length_eq_zero hl0
      simp only [List.length_nil] at hcv
      gi_wp2
      refine wpIn_region_later (by kernel_rfl) (by kernel_rfl) (by kernel_rfl) ?_
      have G1 := fun p : Later W => p.cell hcv
      have G2 := fun p : Later W => p.cell hx0
      have G3 := fun p : Later W => p.cell hx1
      have G4 := fun p : Later W => p.cell hx2
      repeat (go_big_quiet_step (fail))
      refine wpQuiet_nil ?_
      intro _ hw'
      obtain ⟨p, hw''⟩ := hw'
      subst hw''
      have HP := Lib.hid p.below
      obtain ⟨wp, hwp⟩ : ∃ wp, p.w = wp := ⟨_, rfl⟩
      rw [hwp] at HP ⊢
      have hcv := pw_cell_below HP.out hcv
      have hx0 := pw_cell_below HP.out hx0
      have hx1 := pw_cell_below HP.out hx1
      have hx2 := pw_cell_below HP.out hx2
      clear hwp G1 G2 G3 G4
      obtain ⟨_, inner, hown, hreps⟩ := Kd.R_alloc (Kd.R_below HL.out HP.out) (.cells #[.int .i64 xf, .int .i64 xt, .slice A2 xs.length c2] 142)
      obtain ⟨t0, ti, tz0, tz1, tz2⟩ := info_parts info142i
      have hbase : w2.heap.size ≤ wp.heap.size := Nat.le_trans hsz HP.out.size
      have HREPS := Lib.hid hreps
      clear hreps
      simp only [List.length_nil] at hown
      obtain ⟨vv, hvv⟩ : ∃ vv, vv = Value.slice A 0 c := ⟨_, rfl⟩
      rw [← hvv] at hcv hown
      have hfz : wp.frozen? ⟨w.heap.size, 0, none⟩ = false := by have h := (HP.out.block _ (Array.getElem?_eq_some_iff.1 HNL.out).1).trans HNL.out; simp [World.frozen?, h]
      have HVV := Lib.hid hvv
      clear hvv
      have hnlt : w.heap.size < W.heap.size := (Array.getElem?_eq_some_iff.1 HNL.out).1
      have hz142 : (Value.agg #[(.int .i64 0), (.int .i64 0), .slice none 0 0]).cells.size = 3 := rfl
      gi_wp2_with (gi_at_builtin; refine Hid.out ?_)
      refine Lib.hid ?_
      refine wpListIn_append_own_at _ rfl _ _ 136 rfl w2.heap.size 142 t0 _ 3 40 Try.underlying136 ti tz0 tz1 tz2 rfl (by decide) vv 0 inner rfl hown ⟨wp.heap.size, 0, none⟩ 1 1 [.int .i64 xf, .int .i64 xt, .slice A2 xs.length c2] rfl rfl ?c1 ?c2 ?c3 ?c4 ?c5 ?_
      case c1 => exact cells3_new wp _ _ _
      case c2 => intro u hu; simp at hu; rcases hu with rfl | rfl | rfl <;> rfl
      case c3 => unfold maxLen; omega
      case c4 => omega
      case c5 => exact Nat.le_trans hbase (Below.size (below_alloc (Below.refl _ wp) _))
      intro v' w3 hown' hg3 hnil3 hat3
      have hb3 := far_box HVV.out HP.out HNL.out HL.out hg3
      have hf3 : w3.frozen? ⟨w.heap.size, 0, none⟩ = false := by simp [World.frozen?, hb3]
      have hc3 : w3.cell? ⟨w.heap.size, 0, none⟩ = some vv := by simp [World.cell?, hb3]
      obtain ⟨g', cap', rfl⟩ := ownsRow_succ hown'
      clear hb3
      have HO := Lib.hid hown'
      have HG := Lib.hid hg3
      have HT := Lib.hid hat3
      clear hown' hg3 hnil3 hat3
      gi_wp2
      have e := HVV.out
      subst e
      exact app_close (n1 := W1.heap.size) (x := ⟨xf, xt, xs⟩) (by have := Hs1.out; omega) HB2.out.size hsz HP.out HBW.out HNL.out HL.out HR.out (by rw [HFO.out]; rfl) hpre HREPS.out HO.out HG.out HT.out
    · obtain ⟨m, hm⟩ : ∃ m, ls.length = m + 1 := ⟨ls.length - 1, by omega⟩
      obtain ⟨gl, cpl, e1, hgl, hgll, cells, hcells⟩ := Kd.R_form HL.out hl0
      injection e1 with e1 _ e3
      subst e1; subst e3
      obtain ⟨ce, hcl, hM, hcc, hfr⟩ := Kd.R_elem HL.out z142 (m : Int) (by omega) (by omega)
      rw [Int.toNat_natCast] at hM hcc hfr
      obtain ⟨v2, rfl, hR2⟩ := k142_openM hM
      obtain ⟨A3, c3, rfl, hc3, hC3⟩ := Kd.R_reads hR2
      have hs1 : W.cell? ⟨gl, m * 3 + 1, none⟩ = some (.int .i64 (ls.getD m z142).f1) := hcc 1 _ rfl
      have hs2 : W.cell? ⟨gl, m * 3 + 2, none⟩ = some (.slice A3 (ls.getD m z142).f2.length c3) := hcc 2 _ rfl
      have hstep : stepB ls ⟨xf, xt, xs⟩ = if (ls.getD m z142).f1 = xf ∧ (ls.getD m z142).f2 = xs then ls.set m ⟨(ls.getD m z142).f0, xt, (ls.getD m z142).f2⟩ else ls ++ [⟨xf, xt, xs⟩] := by
        unfold stepB; rw [show ls.length - 1 = m by omega]; simp only [hl0, true_and]
      have Hm := Lib.hid hm
      have HCC := Lib.hid hcc
      have HFR := Lib.hid hfr
      have HCE := Lib.hid hcells
      have HR2 := Lib.hid (R_off HL.out (Kd.R_mono hR2 (fun _ _ => trivial)))
      have HNM : Hid (W.heap[w.heap.size]? = some (.cells #[.slice (some ⟨gl, 0, none⟩) (m + 1) c] 136 (0, 0))) := Lib.hid (by have h := HNL.out; rw [hm] at h; exact h)
      have HLM : Hid (Kd.R k142 142 W w2.heap.size (fun _ => True) (.slice (some ⟨gl, 0, none⟩) (m + 1) c) ls) := Lib.hid (by have h := HL.out; rw [hm] at h; exact h)
      rw [hm] at hcv
      have hml : m ≤ 40000 := by omega
      clear hcells hcl hM hcc hfr hR2 hm hl0
      have hle2 : (ls.getD m z142).f2.length ≤ 9223372036854775807 := Kd.C_max hC3
      generalize (ls.getD m z142).f0 = b0 at *
      generalize (ls.getD m z142).f1 = b1 at *
      generalize (ls.getD m z142).f2 = b2 at *
      have HST := Lib.hid hstep
      obtain ⟨bq, hbq⟩ : ∃ bq, decide (b2 = xs) = bq := ⟨_, rfl⟩
      have F1 : Hid (∀ p : Later W, Calls Try.prog 125 #[.slice A3 b2.length c3, .slice A2 xs.length c2] p.w fun e w'' => e = .returned (.bool bq) ∧ ∃ q : Later W, w'' = q.w) :=
        Lib.hid (fun p => Later.call (p := p) ((video_span.calls (b2.length + 1) A3 c3 b2 A2 c2 xs bq p.w (Kd.C_below hC3 p.below) hc3 (Kd.C_below HC2.out p.below) hc2 (by rw [video_span.eq b2 xs hle2, hbq])).mono (fun e w' h => ⟨h.1, h.2.below⟩)))
      have HC3 := Lib.hid hC3
      clear hstep hC3
      have G1 := fun p : Later W => p.cell hcv
      have G2 := fun p : Later W => p.cell hx0
      have G3 := fun p : Later W => p.cell hx1
      have G4 := fun p : Later W => p.cell hx2
      have G5 := fun p : Later W => p.cell hs1
      have G6 := fun p : Later W => p.cell hs2
      by_cases he : b1 = xf
      · have hbe : (b1 == xf) = true := by simp [he]
        have He := Lib.hid he
        clear he
        gi_wp2
        refine wpIn_region_later (by kernel_rfl) (by kernel_rfl) (by kernel_rfl) ?_
        repeat (go_big_quiet_step (first | (go_at_call 125; exact F1.out _)))
        refine wpQuiet_nil ?_
        intro _ hw'
        obtain ⟨p, hw''⟩ := hw'
        subst hw''
        cases bq
        · have HP := Lib.hid p.below
          obtain ⟨wp, hwp⟩ : ∃ wp, p.w = wp := ⟨_, rfl⟩
          rw [hwp] at HP ⊢
          have hcv := pw_cell_below HP.out hcv
          have hx0 := pw_cell_below HP.out hx0
          have hx1 := pw_cell_below HP.out hx1
          have hx2 := pw_cell_below HP.out hx2
          clear hwp G1 G2 G3 G4 G5 G6
          obtain ⟨_, inner, hown, hreps⟩ := Kd.R_alloc (Kd.R_below HL.out HP.out) (.cells #[.int .i64 xf, .int .i64 xt, .slice A2 xs.length c2] 142)
          obtain ⟨t0, ti, tz0, tz1, tz2⟩ := info_parts info142i
          have hbase : w2.heap.size ≤ wp.heap.size := Nat.le_trans hsz HP.out.size
          have HREPS := Lib.hid hreps
          clear hreps
          rw [Hm.out] at hown
          obtain ⟨vv, hvv⟩ : ∃ vv, vv = Value.slice (some ⟨gl, 0, none⟩) (m + 1) c := ⟨_, rfl⟩
          rw [← hvv] at hcv hown
          have hfz : wp.frozen? ⟨w.heap.size, 0, none⟩ = false := by have h := (HP.out.block _ (Array.getElem?_eq_some_iff.1 HNL.out).1).trans HNL.out; simp [World.frozen?, h]
          have HVV := Lib.hid hvv
          clear hvv
          have hnlt : w.heap.size < W.heap.size := (Array.getElem?_eq_some_iff.1 HNL.out).1
          have hz142 : (Value.agg #[(.int .i64 0), (.int .i64 0), .slice none 0 0]).cells.size = 3 := rfl
          gi_wp2_with (gi_at_builtin; refine Hid.out ?_)
          refine Lib.hid ?_
          refine wpListIn_append_own_at _ rfl _ _ 136 rfl w2.heap.size 142 t0 _ 3 40 Try.underlying136 ti tz0 tz1 tz2 rfl (by decide) vv (m + 1) inner rfl hown ⟨wp.heap.size, 0, none⟩ 1 1 [.int .i64 xf, .int .i64 xt, .slice A2 xs.length c2] rfl rfl ?c1 ?c2 ?c3 ?c4 ?c5 ?_
          case c1 => exact cells3_new wp _ _ _
          case c2 => intro u hu; simp at hu; rcases hu with rfl | rfl | rfl <;> rfl
          case c3 => unfold maxLen; omega
          case c4 => omega
          case c5 => exact Nat.le_trans hbase (Below.size (below_alloc (Below.refl _ wp) _))
          intro v' w3 hown' hg3 hnil3 hat3
          have hb3 := far_box HVV.out HP.out HNM.out HLM.out hg3
          have hf3 : w3.frozen? ⟨w.heap.size, 0, none⟩ = false := by simp [World.frozen?, hb3]
          have hc3 : w3.cell? ⟨w.heap.size, 0, none⟩ = some vv := by simp [World.cell?, hb3]
          obtain ⟨g', cap', rfl⟩ := ownsRow_succ hown'
          clear hb3
          have HO := Lib.hid hown'
          have HG := Lib.hid hg3
          have HT := Lib.hid hat3
          clear hown' hg3 hnil3 hat3
          gi_wp2
          have e := HVV.out
          subst e
          exact app_close (n1 := W1.heap.size) (x := ⟨xf, xt, xs⟩) (by have := Hs1.out; omega) HB2.out.size hsz HP.out HBW.out HNM.out HLM.out HR.out (by rw [HFO.out]; rw [HST.out, if_neg (fun h => of_decide_eq_false hbq h.2)]) hpre HREPS.out (by rw [Hm.out]; exact HO.out) HG.out HT.out
        · have HP := Lib.hid p.below
          obtain ⟨wp, hwp⟩ : ∃ wp, p.w = wp := ⟨_, rfl⟩
          rw [hwp] at HP ⊢
          have hcv := pw_cell_below HP.out hcv
          have hx1 := pw_cell_below HP.out hx1
          have hs1 := pw_cell_below HP.out hs1
          have hf1 : wp.frozen? ⟨gl, m * 3 + 1, none⟩ = false := by have h := (HP.out.block _ (Array.getElem?_eq_some_iff.1 HCE.out).1).trans HCE.out; simp [World.frozen?, h]
          clear hwp G1 G2 G3 G4 G5 G6
          gi_wp2
          have hR := Kd.R_below HLM.out HP.out
          have hR2' : Kd.R k145 145 wp w2.heap.size (fun k => True ∧ k ≠ gl) (.slice A3 b2.length c3) b2 := Kd.R_mono (Kd.R_below HR2.out HP.out) (fun k hk => ⟨trivial, fun e => hk.2 (by rw [e]; rfl)⟩)
          have hs := (Kd.R_seg hR (m : Int) (by omega) (by omega) (c := [.int .i64 b0, .int .i64 b1, .slice A3 b2.length c3]) (seg := [.int .i64 xt]) (j := 1) (okp := fun k => True ∧ k ≠ gl) rfl (by rw [Int.toNat_natCast]; exact fun j u hj => pw_cell_below HP.out (HCC.out j u hj)) (show 1 + 1 ≤ 3 by decide) (x' := ⟨b0, xt, b2⟩) (k142_mkM _ _ _ ⟨b0, xt, b2⟩ hR2') (fun k hk => hk)).1
          rw [Int.toNat_natCast] at hs
          exact set_close (n1 := W1.heap.size) (x := ⟨xf, xt, xs⟩) (by have := Hs1.out; omega) HB2.out.size hsz HP.out HBW.out HNM.out hgl HCE.out hs (by rw [HFO.out, HST.out, if_pos ⟨He.out, of_decide_eq_true hbq⟩]) hpre
      · have hbe : (b1 == xf) = false := by simp [he]
        have He := Lib.hid he
        clear he
        gi_wp2
        refine wpIn_region_later (by kernel_rfl) (by kernel_rfl) (by kernel_rfl) ?_
        repeat (go_big_quiet_step (first | (go_at_call 125; exact F1.out _)))
        refine wpQuiet_nil ?_
        intro _ hw'
        obtain ⟨p, hw''⟩ := hw'
        subst hw''
        have HP := Lib.hid p.below
        obtain ⟨wp, hwp⟩ : ∃ wp, p.w = wp := ⟨_, rfl⟩
        rw [hwp] at HP ⊢
        have hcv := pw_cell_below HP.out hcv
        have hx0 := pw_cell_below HP.out hx0
        have hx1 := pw_cell_below HP.out hx1
        have hx2 := pw_cell_below HP.out hx2
        clear hwp G1 G2 G3 G4 G5 G6
        obtain ⟨_, inner, hown, hreps⟩ := Kd.R_alloc (Kd.R_below HL.out HP.out) (.cells #[.int .i64 xf, .int .i64 xt, .slice A2 xs.length c2] 142)
        obtain ⟨t0, ti, tz0, tz1, tz2⟩ := info_parts info142i
        have hbase : w2.heap.size ≤ wp.heap.size := Nat.le_trans hsz HP.out.size
        have HREPS := Lib.hid hreps
        clear hreps
        rw [Hm.out] at hown
        obtain ⟨vv, hvv⟩ : ∃ vv, vv = Value.slice (some ⟨gl, 0, none⟩) (m + 1) c := ⟨_, rfl⟩
        rw [← hvv] at hcv hown
        have hfz : wp.frozen? ⟨w.heap.size, 0, none⟩ = false := by have h := (HP.out.block _ (Array.getElem?_eq_some_iff.1 HNL.out).1).trans HNL.out; simp [World.frozen?, h]
        have HVV := Lib.hid hvv
        clear hvv
        have hnlt : w.heap.size < W.heap.size := (Array.getElem?_eq_some_iff.1 HNL.out).1
        have hz142 : (Value.agg #[(.int .i64 0), (.int .i64 0), .slice none 0 0]).cells.size = 3 := rfl
        gi_wp2_with (gi_at_builtin; refine Hid.out ?_)
        refine Lib.hid ?_
        refine wpListIn_append_own_at _ rfl _ _ 136 rfl w2.heap.size 142 t0 _ 3 40 Try.underlying136 ti tz0 tz1 tz2 rfl (by decide) vv (m + 1) inner rfl hown ⟨wp.heap.size, 0, none⟩ 1 1 [.int .i64 xf, .int .i64 xt, .slice A2 xs.length c2] rfl rfl ?c1 ?c2 ?c3 ?c4 ?c5 ?_
        case c1 => exact cells3_new wp _ _ _
        case c2 => intro u hu; simp at hu; rcases hu with rfl | rfl | rfl <;> rfl
        case c3 => unfold maxLen; omega
        case c4 => omega
        case c5 => exact Nat.le_trans hbase (Below.size (below_alloc (Below.refl _ wp) _))
        intro v' w3 hown' hg3 hnil3 hat3
        have hb3 := far_box HVV.out HP.out HNM.out HLM.out hg3
        have hf3 : w3.frozen? ⟨w.heap.size, 0, none⟩ = false := by simp [World.frozen?, hb3]
        have hc3 : w3.cell? ⟨w.heap.size, 0, none⟩ = some vv := by simp [World.cell?, hb3]
        obtain ⟨g', cap', rfl⟩ := ownsRow_succ hown'
        clear hb3
        have HO := Lib.hid hown'
        have HG := Lib.hid hg3
        have HT := Lib.hid hat3
        clear hown' hg3 hnil3 hat3
        gi_wp2
        have e := HVV.out
        subst e
        exact app_close (n1 := W1.heap.size) (x := ⟨xf, xt, xs⟩) (by have := Hs1.out; omega) HB2.out.size hsz HP.out HBW.out HNM.out HLM.out HR.out (by rw [HFO.out]; rw [HST.out, if_neg (fun h => He.out h.1)]) hpre HREPS.out (by rw [Hm.out]; exact HO.out) HG.out HT.out
  · intro D xs W hD hS hI hDb
    obtain ⟨v, hnl, hL, hBW, _, hsz⟩ := hI
    rw [hS] at hL
    obtain ⟨A, c, rfl, hc, hC⟩ := Kd.R_reads hL
    generalize hls : (bandsOf (fun x y => is (covL la x y) (covL lb x y)) (edgesX (la ++ lb)) (edgesY (la ++ lb))).foldl stepB [] = ls at hL hc hC
    have hcv : W.cell? ⟨w.heap.size, 0, none⟩ = some (.slice A ls.length c) := by simp [World.cell?, hnl, hS, hls]
    have HDB := Lib.hid hDb
    have HL := Lib.hid hL
    have HC := Lib.hid hC
    have HBW := Lib.hid hBW
    have HLS := Lib.hid hls
    clear hDb hL hC hBW hls hS hnl Hseq H0
    have hll : ls.length ≤ 40000 := by
      have h1 := fold_stepB_length (bandsOf (fun x y => is (covL la x y) (covL lb x y)) (edgesX (la ++ lb)) (edgesY (la ++ lb))) []
      rw [HLS.out, bandsOf_length] at h1
      have h2 := edgesY_le _ Hn.out
      simp only [List.length_nil] at h1
      omega
    have hsp : ∀ x ∈ ls, x.f2.length ≤ 40000 := by
      rw [← HLS.out]
      exact fold_spans 40000 _ [] (by simp) (fun x hx => Nat.le_trans (bands_spans _ _ _ x hx) (edgesX_le _ Hn.out))
    have HSP := Lib.hid hsp
    clear hsp
    gi_wp2
    go_wp2
    go_loopw [11, 58] (fun vo i W' => ∃ (k : Nat), k ≤ ls.length ∧ i = .int .i64 k ∧ Kd.R k43 43 W' W.heap.size (fun _ => True) vo (outOf (ls.take k)) ∧ Below W.heap.size W W') (fun _ i _ => ls.length - (intOf i).toNat)
    case atStart => exact ⟨0, Nat.zero_le _, rfl, by simp [outOf]; exact Kd.R_nil _ _ _ _ _, Below.refl _ _⟩
    case round =>
      obtain ⟨k, hk, rfl, hO, hB⟩ := hrel
      obtain ⟨wo, rfl⟩ : ∃ wo : World, wo = wr := ⟨_, rfl⟩
      obtain ⟨vo, rfl⟩ : ∃ vo : Value, vo = u11 := ⟨_, rfl⟩
      by_cases hlt : k < ls.length
      · obtain ⟨gl, cpl, e1, hgl, hgll, cells, hcells⟩ := Kd.R_form HL.out (by omega)
        injection e1 with e1 _ e3
        subst e1; subst e3
        obtain ⟨ce, hcl, hM, hcc, hfr⟩ := Kd.R_elem HL.out z142 (k : Int) (by omega) (by omega)
        rw [Int.toNat_natCast] at hM hcc hfr
        obtain ⟨v2, rfl, hR2⟩ := k142_openM hM
        have hR2 := Kd.R_mono (ok' := fun _ => True) hR2 (fun _ _ => trivial)
        obtain ⟨A3, c3, rfl, hc3, hC3⟩ := Kd.R_reads hR2
        have hs0 : wo.cell? ⟨gl, k * 3, none⟩ = some (.int .i64 (ls.getD k z142).f0) := pw_cell_below hB (hcc 0 _ rfl)
        have hs1 : wo.cell? ⟨gl, k * 3 + 1, none⟩ = some (.int .i64 (ls.getD k z142).f1) := pw_cell_below hB (hcc 1 _ rfl)
        have hs2 : wo.cell? ⟨gl, k * 3 + 2, none⟩ = some (.slice A3 (ls.getD k z142).f2.length c3) := pw_cell_below hB (hcc 2 _ rfl)
        have hot := outOf_take ls k hlt
        have hbl := outOf_len 40000 (ls.take k) (fun x hx => HSP.out x (List.mem_of_mem_take hx))
        rw [List.length_take, Nat.min_eq_left hk] at hbl
        have hsl : (ls.getD k z142).f2.length ≤ 40000 := HSP.out _ (getD_mem ls _ _ hlt)
        generalize hbd : ls.getD k z142 = bd at *
        obtain ⟨b0, b1, b2⟩ := bd
        dsimp only at hs0 hs1 hs2 hR2 hc3 hC3 hsl
        have hltI : (k : Int) < (ls.length : Int) := by omega
        have HO := Lib.hid hO
        have HB := Lib.hid hB
        have HOT := Lib.hid hot
        have HR2 := Lib.hid hR2
        clear hO hB hot hR2 hM hcc hfr hcells hcl hbd hC3
        generalize hob : outOf (ls.take k) = ob at HO HOT hbl
        go_wp2
        obtain ⟨W3, hW3⟩ : ∃ W3, wo.alloc (.cells #[.int .i64 b0, .int .i64 b1, .slice A3 b2.length c3] 142) = W3 := ⟨_, rfl⟩
        have hO3 : Kd.R k43 43 W3 W.heap.size (fun _ => True) vo ob := by rw [← hW3]; exact Kd.R_alloc HO.out _
        have hB3 : Below W.heap.size W W3 := by rw [← hW3]; exact HB.out.alloc HB.out.size _
        have hx3 : W3.heap[wo.heap.size]? = some (.cells #[.int .i64 b0, .int .i64 b1, .slice A3 b2.length c3] 142 (0, 0)) := by rw [← hW3]; exact World.alloc_heap_new wo _
        rw [hW3]
        go_loopw [11, 65] (fun vo i W' => ∃ (j : Nat), j ≤ b2.length ∧ i = .int .i64 j ∧ Kd.R k43 43 W' W.heap.size (fun _ => True) vo (ob ++ (outB ⟨b0, b1, b2⟩).take j) ∧ Below W.heap.size W W' ∧ W'.heap[wo.heap.size]? = some (.cells #[.int .i64 b0, .int .i64 b1, .slice A3 b2.length c3] 142 (0, 0))) (fun _ i _ => b2.length - (intOf i).toNat)
        case atStart => exact ⟨0, Nat.zero_le _, rfl, by simpa using hO3, hB3, hx3⟩
        case round =>
          clear hO3 hB3 hx3 hs0 hs1 hs2
          obtain ⟨j, hj, rfl, hO, hB4, hx⟩ := hrel
          by_cases hlj : j < b2.length
          · obtain ⟨gs, cps, e1, hgs, hgsl, cells, hcells⟩ := Kd.R_form HR2.out (by omega)
            injection e1 with e1 _ e3
            subst e1; subst e3
            obtain ⟨ce, hcl, hM, hcc, hfr⟩ := Kd.R_elem HR2.out z145 (j : Int) (by omega) (by omega)
            rw [Int.toNat_natCast] at hM hcc hfr
            obtain rfl := k145_openM hM
            have hs0 : wr.cell? ⟨gs, j * 2, none⟩ = some (.int .i64 (b2.getD j z145).f0) := pw_cell_below hB4 (hcc 0 _ rfl)
            have hs1 : wr.cell? ⟨gs, j * 2 + 1, none⟩ = some (.int .i64 (b2.getD j z145).f1) := pw_cell_below hB4 (hcc 1 _ rfl)
            have hx0 : wr.cell? ⟨wo.heap.size, 0, none⟩ = some (.int .i64 b0) := by simp [World.cell?, hx]
            have hx1 : wr.cell? ⟨wo.heap.size, 1, none⟩ = some (.int .i64 b1) := by simp [World.cell?, hx]
            have hbx := (Array.getElem?_eq_some_iff.1 hx).1
            have hne1 : ¬ wo.heap.size = wr.heap.size := by omega
            have hne2 : ¬ wr.heap.size = wo.heap.size := by omega
            have hbt := outB_take ⟨b0, b1, b2⟩ j hlj
            dsimp only at hbt
            generalize b2.getD j z145 = sp at *
            obtain ⟨s0, s1⟩ := sp
            dsimp only at hs0 hs1 hbt
            have hljI : (j : Int) < (b2.length : Int) := by omega
            have hlen : (ob ++ (outB ⟨b0, b1, b2⟩).take j).length ≤ 2000000000 := by
              have h1 := List.length_take_le j (outB ⟨b0, b1, b2⟩)
              rw [List.length_append]
              omega
            have HO2 := Lib.hid hO
            have HB4 := Lib.hid hB4
            have HX := Lib.hid hx
            have HBT := Lib.hid hbt
            clear hO hB4 hx hbt hM hcc hfr hcells hcl
            generalize hoj : ob ++ (outB ⟨b0, b1, b2⟩).take j = oj at HO2 hlen
            go_wp2_with (at_builtin; refine Hid.out ?_)
            refine Lib.hid ?_
            refine Kd.R_append k43 (w0 := W) (W := wr.alloc (.cells #[.int .i64 s0, .int .i64 s1] 145)) W.heap.size rfl (.tmp 69) (.tmp 85) 22 43 (.agg #[(.int .i64 0), (.int .i64 0), (.int .i64 0), (.int .i64 0)]) 32 rfl Try.underlying22 info43 rfl (by decide) (by omega) u11 oj ⟨s0, b0, wrap64 (s1 - s0), wrap64 (b1 - b0)⟩ [.int .i64 s0, .int .i64 b0, .int .i64 (wrap64 (s1 - s0)), .int .i64 (wrap64 (b1 - b0))] (fun _ => True) (fun _ => False) ?hs ?hx (k43_mkM _ _ _ ⟨s0, b0, wrap64 (s1 - s0), wrap64 (b1 - b0)⟩) (fun _ hk => hk.elim) (fun _ _ => trivial) (Kd.R_alloc HO2.out _) (HB4.out.alloc HB4.out.size _) (Nat.le_trans HB4.out.size (Below.size (below_alloc (Below.refl _ wr) _))) (by omega) ?_
            case hs => rfl
            case hx => simp only [World.size_alloc]; rfl
            intro v1 w1 hR1 hB1 hg1 hat1
            have hx9 : w1.heap[wo.heap.size]? = some (.cells #[.int .i64 b0, .int .i64 b1, .slice (some ⟨gs, 0, none⟩) b2.length c3] 142 (0, 0)) := by
              have h1 := (Below.heap_alloc wr (.cells #[.int .i64 s0, .int .i64 s1] 145) _ (Array.getElem?_eq_some_iff.1 HX.out).1).trans HX.out
              refine (hg1.block _ (Array.getElem?_eq_some_iff.1 h1).1 (fun e => ?_)).trans h1
              obtain ⟨_, cur, hc⟩ := R_block HO2.out e.symm
              rw [HX.out] at hc
              injection hc with hc
              injection hc with _ hc
              cases hc
            have HR1 := Lib.hid hR1
            have HB1' := Lib.hid hB1
            have HX9 := Lib.hid hx9
            clear hR1 hB1 hg1 hat1 hx9
            go_wp2
            exact ⟨⟨j + 1, by omega, by go_num, by rw [HBT.out, ← List.append_assoc, hoj]; exact HR1.out, HB1'.out, HX9.out⟩, by simp [intOf]; omega⟩
          · have e : j = b2.length := by omega
            subst e
            have hfull : (outB ⟨b0, b1, b2⟩).take b2.length = outB ⟨b0, b1, b2⟩ := List.take_of_length_le (by rw [outB_length]; exact Nat.le_refl _)
            rw [hfull, ← HOT.out] at hO
            have HO2 := Lib.hid hO
            have HB4 := Lib.hid hB4
            clear hO hB4 hx
            go_wp2
            exact ⟨⟨k + 1, by omega, by go_num, HO2.out, HB4.out⟩, by simp [intOf]; omega⟩
      · have e : k = ls.length := by omega
        subst e
        rw [List.take_length] at hO
        have HO := Lib.hid hO
        have HB := Lib.hid hB
        clear hO hB
        obtain ⟨A4, c4, rfl, hc4, hC4⟩ := Kd.R_reads HO.out
        generalize hol : outOf ls = ol at HO hc4 hC4
        have hcon := contains70 126 #[] (fun r => !okR r) (enters_of Try.func126 (by kernel_rfl) rfl) A4 c4 ol wo hC4 hc4 (fun x W9 h9 => bad126 x.f0 x.f1 x.f2 x.f3 W9)
        have Hcon := Lib.hid hcon
        have HOL := Lib.hid hol
        clear hcon hol hC4
        go_wp2_with (refine Hcon.out.mono ?_; rintro e w5 ⟨rfl, hB5⟩)
        all_goals
          have hK := (hB5.block _ (Nat.lt_of_lt_of_le (Array.getElem?_eq_some_iff.1 HDB.out).1 HB.out.size)).trans ((HB.out.block _ (Array.getElem?_eq_some_iff.1 HDB.out).1).trans HDB.out)
          have hmd : madeR la lb is = toldR ol := by unfold madeR madeL gridL; rw [← HOL.out, ← HLS.out]; rfl
          have hBw : ∀ o', Below w.heap.size w (w5.putObj D o') := fun o' => ((HBW.out.trans (HB.out.mono HBW.out.size)).trans (hB5.mono (Nat.le_trans HBW.out.size HB.out.size))).grown (grownBy_putObj' w5 D o') (Nat.le_trans HBW.out.size (Nat.le_trans HB.out.size hB5.size)) (fun r e => by cases e; exact Nat.le_trans HB02.out.size hD)
          rw [hmd]
          unfold toldR
          clear Hcon
        · rename_i h1
          rw [if_pos h1]
          refine ⟨by simp, .inl ⟨_, _, rfl, run_takeDeferred hK, ?_⟩⟩
          refine ⟨_, results_tmp2 rfl _ _ _, .slice none 0 0, rfl, Kd.R_nil _ _ _ _ _, hBw _⟩
        · rename_i h1 h2
          rw [if_neg (by rw [h1]; simp), if_pos (by omega)]
          refine ⟨by simp, .inl ⟨_, _, rfl, run_takeDeferred hK, ?_⟩⟩
          refine ⟨_, results_tmp2 rfl _ _ _, .slice none 0 0, rfl, Kd.R_nil _ _ _ _ _, hBw _⟩
        · rename_i h1 h2
          rw [if_neg (by rw [h1]; simp), if_neg (by omega)]
          refine ⟨by simp, .inl ⟨_, _, rfl, run_takeDeferred hK, ?_⟩⟩
          refine ⟨_, results_tmp2 rfl _ _ _, .slice A4 ol.length c4, rfl, R_row (Kd.R_lower (Kd.R_below HO.out hB5) HBW.out.size) (grownBy_putObj' w5 D _) (fun r e => by cases e; exact ⟨_, hK, rfl⟩), hBw _⟩
end Go.Proofs.Ytenaegjiggodkaa.PV

/- The contracts of video's Region. -/
namespace Go.Proofs.Ytenaegjiggodkaa.PV
open Go.RowKit Go.Proofs.YtenaegjiggodkaaW.PrintWords Go.Proofs.YtenaegjiggodkaaW.PrintLast Go.Proofs.YtenaegjiggodkaaW.PrintMore
set_option linter.unusedVariables false
set_option linter.unusedSimpArgs false
theorem tells59 (w : World) : Tells2 59 #[] eitherB w := by
  intro a b W _
  cases a <;> cases b <;>
  · go_enter Try.func59, Try.ntmps59
    go_wp2
    go_ret
    exact ⟨rfl, Below.refl _ _⟩
theorem tells62 (w : World) : Tells2 62 #[] bothB w := by
  intro a b W _
  cases a <;> cases b <;>
  · go_enter Try.func62, Try.ntmps62
    go_wp2
    go_ret
    exact ⟨rfl, Below.refl _ _⟩
theorem tells63 (w : World) : Tells2 63 #[] firstB w := by
  intro a b W _
  cases a <;> cases b <;>
  · go_enter Try.func63, Try.ntmps63
    go_wp2
    go_ret
    exact ⟨rfl, Below.refl _ _⟩
theorem any_not {l : List S43} : (l.any fun r => !okR r) = !l.all okR := by
  induction l with
  | nil => rfl
  | cons r t ih => simp only [List.any_cons, List.all_cons, ih]; cases okR r <;> rfl
set_option maxHeartbeats 1000000 in
theorem video_Region.calls (A0 : Option Addr) (c0 : Nat) (l0 : List S43) (r1 : List S43) (r2 : Int) (w : World) (hr0 : Kd.C k43 w A0 l0.length l0) (hc0 : l0.length ≤ c0) (h : video_Region.f l0 = some (r1, r2)) :
    Calls Try.prog 20 #[.slice A0 l0.length c0] w fun e w' => ∃ v0_ : Value, e = .returned (.tuple #[v0_, .int .i64 r2]) ∧ Kd.R k43 43 w' w.heap.size (fun _ => True) v0_ r1 ∧ Below w.heap.size w w' := by
  have hcon := contains70 71 #[] (fun r => !okR r) (enters_of Try.func71 (by kernel_rfl) rfl) A0 c0 l0 w hr0 hc0 (fun x W9 h9 => bad71 x.f0 x.f1 x.f2 x.f3 W9)
  rw [any_not] at hcon
  unfold video_Region.f at h
  injection h with h
  cases hall : l0.all okR with
  | false =>
    rw [hall] at h hcon
    rw [if_neg (by simp)] at h
    injection h with e1 e2
    subst e1; subst e2
    go_enter Try.func20, Try.ntmps20
    go_wp2_with (refine hcon.mono ?_; rintro e w' ⟨rfl, hB⟩)
    go_ret2
    exact ⟨.slice none 0 0, rfl, Kd.R_nil _ _ _ _ _, hB⟩
  | true =>
    rw [hall] at h hcon
    rw [if_pos rfl] at h
    by_cases hl : 200 < l0.length
    · rw [if_pos hl] at h
      injection h with e1 e2
      subst e1; subst e2
      have hlI : (200 : Int) < (l0.length : Int) := by omega
      go_enter Try.func20, Try.ntmps20
      go_wp2_with (refine hcon.mono ?_; rintro e w' ⟨rfl, hB⟩)
      go_ret2
      exact ⟨.slice none 0 0, rfl, Kd.R_nil _ _ _ _ _, hB⟩
    · rw [if_neg hl] at h
      have hlI : ¬ (200 : Int) < (l0.length : Int) := by omega
      have hm : ∀ W : World, Below w.heap.size w W → Calls Try.prog 73 #[.slice A0 l0.length c0, .slice none 0 0, .func (.func 59) #[] #[]] W fun e w' => ∃ v : Value, e = .returned (.tuple #[v, .int .i64 r2]) ∧ Kd.R k43 43 w' W.heap.size (fun _ => True) v r1 ∧ Below W.heap.size W w' := fun W hW => by
        have := made_any A0 none c0 0 l0 [] 59 #[] eitherB W (Kd.C_below hr0 hW) hc0 (Kd.C_nil _ _) (Nat.le_refl _) (by rw [List.append_nil]; exact hall) (by rw [List.append_nil]; omega) (enters_of Try.func59 (by kernel_rfl) rfl) (tells59 W)
        rw [h] at this
        exact this
      have Hm := Lib.hid hm
      clear hm h
      go_enter Try.func20, Try.ntmps20
      go_wp2_with (first | (go_at_call 70; refine hcon.mono ?_; rintro e w1 ⟨rfl, hB⟩) | (go_at_call 73; refine (Hm.out _ hB).mono ?_; rintro e w2 ⟨v, rfl, hR, hB2⟩))
      go_ret2
      exact ⟨v, rfl, Kd.R_lower hR hB.size, hB.trans (hB2.mono hB.size)⟩
end Go.Proofs.Ytenaegjiggodkaa.PV

-- Printed by vprint.py (a program of this claim over the translation's own print). Lean checks it.
namespace Go.Proofs.Ytenaegjiggodkaa.PV
open Go.RowKit Go.Proofs.YtenaegjiggodkaaW.PrintWords Go.Proofs.YtenaegjiggodkaaW.PrintLast Go.Proofs.YtenaegjiggodkaaW.PrintMore
attribute [local go_sem] max2_int min2_int max_two min_two max_three min_three max_four min_four   -- for this text's walks alone
set_option linter.unusedVariables false
set_option linter.unusedSimpArgs false

attribute [local go_sem high] eqA43
/-! ### api_Rect_76: function 76 -/
def api_Rect_76.l0 : Nat → List (S43) → List (S43) → Int → Int → Option (Bool)
  | 0, _, _, _, _ => none
  | k + 1, x0, x1, x12, x13 => if x13 < x12 then (if 0 ≤ x13 then (if x13 < (x0.length : Int) then (if x13 < (x1.length : Int) then (if (!(((rd_T43 x0 x13).f0) == ((rd_T43 x1 x13).f0)) || (!(((rd_T43 x0 x13).f1) == ((rd_T43 x1 x13).f1)) || (!(((rd_T43 x0 x13).f2) == ((rd_T43 x1 x13).f2)) || (!(((rd_T43 x0 x13).f3) == ((rd_T43 x1 x13).f3)))))) = true then (some false) else (api_Rect_76.l0 k x0 x1 x12 (wrap64 (x13 + 1)))) else (none)) else (none)) else (none)) else (some true)
def api_Rect_76.f (k : Nat) (l0 : List (S43)) (l1 : List (S43)) : Option (Bool) := if (l0.length : Int) = (l1.length : Int) then (api_Rect_76.l0 k l0 l1 (l0.length : Int) 0) else (some false)
theorem api_Rect_76.mono_l : ∀ k, (∀ y0 y1 y2 y3, LeO (api_Rect_76.l0 k y0 y1 y2 y3) (api_Rect_76.l0 (k + 1) y0 y1 y2 y3))
  | 0 => fun _ _ _ _ r h => by simp [api_Rect_76.l0] at h
  | k + 1 => by
    have ih0 := api_Rect_76.mono_l k
    · intro y0 y1 y2 y3
      unfold api_Rect_76.l0
      repeat' first
      | (with_reducible exact ih0 _ _ _ _)
      | (with_reducible exact LeO.refl _)
      | (with_reducible exact LeO.none _)
      | (with_reducible refine LeO.ite ?_ ?_)
      | (with_reducible refine LeO.bind ?_ (fun _ => ?_))
      | exact ih0 _ _ _ _
      | exact LeO.none _
      | refine LeO.ite ?_ ?_
      | refine LeO.bind ?_ (fun _ => ?_)
theorem api_Rect_76.mono : ∀ a0 a1 k, LeO (api_Rect_76.f k a0 a1) (api_Rect_76.f (k + 1) a0 a1) := by
  intro a0 a1 k
  have ih0 := api_Rect_76.mono_l k
  unfold api_Rect_76.f
  repeat' first
      | (with_reducible exact ih0 _ _ _ _)
      | (with_reducible exact LeO.refl _)
      | (with_reducible exact LeO.none _)
      | (with_reducible refine LeO.ite ?_ ?_)
      | (with_reducible refine LeO.bind ?_ (fun _ => ?_))
      | exact ih0 _ _ _ _
      | exact LeO.none _
      | refine LeO.ite ?_ ?_
      | refine LeO.bind ?_ (fun _ => ?_)
set_option maxHeartbeats 8000000 in
set_option maxRecDepth 100000 in
theorem api_Rect_76.calls (k : Nat) (A0 : Option Addr) (c0 : Nat) (l0 : List (S43)) (A1 : Option Addr) (c1 : Nat) (l1 : List (S43)) (r : Bool) (w : World) (hr0 : Kd.C k43 w A0 l0.length l0) (hc0 : l0.length ≤ c0) (hr1 : Kd.C k43 w A1 l1.length l1) (hc1 : l1.length ≤ c1) (h : api_Rect_76.f k l0 l1 = some r) :
    Calls Try.prog 76 #[.slice A0 l0.length c0, .slice A1 l1.length c1] w fun e w' => e = .returned (.bool r) ∧ Drawn0 w w' := by
  have hu43 := Try.underlying43
  have HR0 := Aside0.mk hr0
  have HC0 := Aside0.mk hc0
  clear hr0 hc0
  have HR1 := Aside0.mk hr1
  have HC1 := Aside0.mk hc1
  clear hr1 hc1
  have H : (if (l0.length : Int) = (l1.length : Int) then (api_Rect_76.l0 k l0 l1 (l0.length : Int) 0) else (some false)) = some r := h
  clear h
  by_cases c3 : (l0.length : Int) = (l1.length : Int)
  · rw [if_pos c3] at H
    have c3b0 : ((l0.length : Int) == (l1.length : Int)) = true := beq_iff_eq.mpr c3
    have c3b1 : ((l0.length : Int) != (l1.length : Int)) = false := bne_eq_false_iff_eq.mpr c3
    have c3b2 : (l0.length == l1.length) = true := by first | simpa using c3 | (simp at c3 ⊢; omega)
    clear c3
    have H' := Aside0.mk H
    clear H
    go_enter Try.func76, Try.ntmps76
    go_wp2
    repeat (go_quiet (fail); try go_wp2)
    go_loopg [13] k (fun kq v13 w' => ∃ (x13_1 : Int), v13 = .int .i64 x13_1 ∧ Aside0 (api_Rect_76.l0 kq l0 l1 (l0.length : Int) x13_1 = some r) ∧ Aside0 (kq ≤ k) ∧ Drawn0 w w')
    case atStart => exact ⟨(0), (by first | rfl | (simp; done) | (simp [*]; done)), H', ⟨Nat.le_refl _⟩, by repeat (first | exact Drawn0.refl _ | apply Drawn0.step)⟩
    case round =>
      clear H'
      try clear c1
      try clear p2
      try clear c3
      try clear c3b0
      try clear c3b1
      try clear c3b2
      obtain ⟨x13_1, rfl, HA, HK1, ⟨m1, rfl⟩⟩ := hrel
      cases gk with
      | zero => exact absurd HA.out (by simp [api_Rect_76.l0])
      | succ k1 =>
        have H := HA.out
        clear HA
        simp only [api_Rect_76.l0] at H
        by_cases c4 : x13_1 < (l0.length : Int)
        · rw [if_pos c4] at H
          have c4b0 : decide (x13_1 < (l0.length : Int)) = true := decide_eq_true c4
          clear c4
          by_cases c5 : 0 ≤ x13_1
          · rw [if_pos c5] at H
            have c5b0 : decide (0 ≤ x13_1) = true := decide_eq_true c5
            clear c5
            by_cases c6 : x13_1 < (l0.length : Int)
            · rw [if_pos c6] at H
              have c6b0 : decide (x13_1 < (l0.length : Int)) = true := decide_eq_true c6
              clear c6
              by_cases c7 : x13_1 < (l1.length : Int)
              · rw [if_pos c7] at H
                have c7b0 : decide (x13_1 < (l1.length : Int)) = true := decide_eq_true c7
                clear c7
                by_cases c8 : (!(((rd_T43 l0 x13_1).f0) == ((rd_T43 l1 x13_1).f0)) || (!(((rd_T43 l0 x13_1).f1) == ((rd_T43 l1 x13_1).f1)) || (!(((rd_T43 l0 x13_1).f2) == ((rd_T43 l1 x13_1).f2)) || (!(((rd_T43 l0 x13_1).f3) == ((rd_T43 l1 x13_1).f3)))))) = true
                · rw [if_pos c8] at H
                  have c8b0 : (!(((rd_T43 l0 x13_1).f0) == ((rd_T43 l1 x13_1).f0)) || (!(((rd_T43 l0 x13_1).f1) == ((rd_T43 l1 x13_1).f1)) || (!(((rd_T43 l0 x13_1).f2) == ((rd_T43 l1 x13_1).f2)) || (!(((rd_T43 l0 x13_1).f3) == ((rd_T43 l1 x13_1).f3)))))) = true := c8
                  clear c8
                  obtain rfl := Option.some.inj H
                  have p246 : 0 ≤ (x13_1 : Int) := of_decide_eq_true (by first | (with_reducible assumption) | assumption)
                  have q246 : x13_1 < (l0.length : Int) := of_decide_eq_true (by first | (with_reducible assumption) | assumption)
                  obtain ⟨ad246, e246, hx246_0, hx246_1, hx246_2, hx246_3⟩ := at_T43 HR0.out x13_1 p246 q246
                  cases e246
                  replace p246 := eq_true p246
                  replace q246 := eq_true q246
                  have p247 : 0 ≤ (x13_1 : Int) := of_decide_eq_true (by first | (with_reducible assumption) | assumption)
                  have q247 : x13_1 < (l1.length : Int) := of_decide_eq_true (by first | (with_reducible assumption) | assumption)
                  obtain ⟨ad247, e247, hx247_0, hx247_1, hx247_2, hx247_3⟩ := at_T43 HR1.out x13_1 p247 q247
                  cases e247
                  replace p247 := eq_true p247
                  replace q247 := eq_true q247
                  go_wp2
                  repeat (go_quiet (fail); try go_wp2)
                  go_ret
                  exact ⟨by first | rfl | (simp; done) | (simp [*]; done), by repeat (first | exact Drawn0.refl _ | apply Drawn0.step)⟩
                · rw [if_neg c8] at H
                  have c8b0 : (!(((rd_T43 l0 x13_1).f0) == ((rd_T43 l1 x13_1).f0)) || (!(((rd_T43 l0 x13_1).f1) == ((rd_T43 l1 x13_1).f1)) || (!(((rd_T43 l0 x13_1).f2) == ((rd_T43 l1 x13_1).f2)) || (!(((rd_T43 l0 x13_1).f3) == ((rd_T43 l1 x13_1).f3)))))) = false := by simpa using c8
                  clear c8
                  have H' := Aside0.mk H
                  clear H
                  have p246 : 0 ≤ (x13_1 : Int) := of_decide_eq_true (by first | (with_reducible assumption) | assumption)
                  have q246 : x13_1 < (l0.length : Int) := of_decide_eq_true (by first | (with_reducible assumption) | assumption)
                  obtain ⟨ad246, e246, hx246_0, hx246_1, hx246_2, hx246_3⟩ := at_T43 HR0.out x13_1 p246 q246
                  cases e246
                  replace p246 := eq_true p246
                  replace q246 := eq_true q246
                  have p247 : 0 ≤ (x13_1 : Int) := of_decide_eq_true (by first | (with_reducible assumption) | assumption)
                  have q247 : x13_1 < (l1.length : Int) := of_decide_eq_true (by first | (with_reducible assumption) | assumption)
                  obtain ⟨ad247, e247, hx247_0, hx247_1, hx247_2, hx247_3⟩ := at_T43 HR1.out x13_1 p247 q247
                  cases e247
                  replace p247 := eq_true p247
                  replace q247 := eq_true q247
                  go_wp2
                  repeat (go_quiet (fail); try go_wp2)
                  go_roundg k1
                  case measure => have := HK1.out; omega
                  case rel => exact ⟨(wrap64 (x13_1 + 1)), (by first | rfl | (simp; done) | (simp [*]; done)), H', ⟨by have := HK1.out; omega⟩, by repeat (first | exact Drawn0.refl _ | apply Drawn0.step)⟩
              · rw [if_neg c7] at H
                exact absurd H (by simp)
            · rw [if_neg c6] at H
              exact absurd H (by simp)
          · rw [if_neg c5] at H
            exact absurd H (by simp)
        · rw [if_neg c4] at H
          have c4b0 : decide (x13_1 < (l0.length : Int)) = false := decide_eq_false c4
          clear c4
          obtain rfl := Option.some.inj H
          go_wp2
          repeat (go_quiet (fail); try go_wp2)
          go_ret
          exact ⟨by first | rfl | (simp; done) | (simp [*]; done), by repeat (first | exact Drawn0.refl _ | apply Drawn0.step)⟩
  · rw [if_neg c3] at H
    have c3b0 : ((l0.length : Int) == (l1.length : Int)) = false := beq_eq_false_iff_ne.mpr c3
    have c3b1 : ((l0.length : Int) != (l1.length : Int)) = true := bne_iff_ne.mpr c3
    have c3b2 : (l0.length == l1.length) = false := by first | simpa using c3 | (simp at c3 ⊢; omega)
    obtain rfl := Option.some.inj H
    go_enter Try.func76, Try.ntmps76
    go_wp2
    repeat (go_quiet (fail); try go_wp2)
    go_ret
    exact ⟨by first | rfl | (simp; done) | (simp [*]; done), by repeat (first | exact Drawn0.refl _ | apply Drawn0.step)⟩

end Go.Proofs.Ytenaegjiggodkaa.PV

/- The contracts of video's ValidRegion, joined, Union, Meet, Less. -/
namespace Go.Proofs.Ytenaegjiggodkaa.PV
open Go.RowKit Go.Proofs.YtenaegjiggodkaaW.PrintWords Go.Proofs.YtenaegjiggodkaaW.PrintLast Go.Proofs.YtenaegjiggodkaaW.PrintMore
set_option linter.unusedVariables false
set_option linter.unusedSimpArgs false
/-- slices.Equal of rectangles. -/
theorem rect_rounds (x0 x1 : List S43) (he : x0.length = x1.length) (hn : x0.length ≤ 9223372036854775807) : ∀ (k i : Nat), x0.length < i + k → i ≤ x0.length → api_Rect_76.l0 k x0 x1 (x0.length : Int) (i : Int) = some (decide (x0.drop i = x1.drop i))
  | 0, i, h, hi => by omega
  | k + 1, i, h, hi => by
    unfold api_Rect_76.l0
    by_cases hl : i < x0.length
    · rw [if_pos (by omega), if_pos (by omega), if_pos (by omega), if_pos (by omega)]
      have e0 : rd_T43 x0 (i : Int) = x0[i] := by simp [rd_T43, hl]
      have hl1 : i < x1.length := by omega
      have e1 : rd_T43 x1 (i : Int) = x1[i] := by simp [rd_T43, hl1]
      rw [e0, e1]
      have d0 := List.drop_eq_getElem_cons hl
      have d1 := List.drop_eq_getElem_cons hl1
      by_cases hq : x0[i] = x1[i]
      · rw [hq, if_neg (by simp)]
        have hw : wrap64 ((i : Int) + 1) = ((i + 1 : Nat) : Int) := by rw [show ((i : Int) + 1) = ((i + 1 : Nat) : Int) by simp]; unfold wrap64; omega
        rw [hw, rect_rounds x0 x1 he hn k (i + 1) (by omega) (by omega), d0, d1, hq]
        generalize List.drop (i + 1) x0 = u0
        generalize List.drop (i + 1) x1 = u1
        simp
      · have : ¬ (x0[i].f0 = x1[i].f0 ∧ x0[i].f1 = x1[i].f1 ∧ x0[i].f2 = x1[i].f2 ∧ x0[i].f3 = x1[i].f3) := fun h => hq ((S43.eq_iff _ _).2 h)
        rw [if_pos (by simp; by_cases h0 : x0[i].f0 = x1[i].f0 <;> by_cases h1 : x0[i].f1 = x1[i].f1 <;> by_cases h2 : x0[i].f2 = x1[i].f2 <;> simp_all)]
        rw [d0, d1]
        generalize List.drop (i + 1) x0 = u0
        generalize List.drop (i + 1) x1 = u1
        simp [hq]
    · rw [if_neg (by omega)]
      rw [List.drop_eq_nil_of_le (by omega), List.drop_eq_nil_of_le (by omega)]
      simp
theorem api_Rect_76.eq (l0 l1 : List S43) (hn : l0.length ≤ 9223372036854775807) : api_Rect_76.f (l0.length + 1) l0 l1 = some (decide (l0 = l1)) := by
  unfold api_Rect_76.f
  by_cases he : l0.length = l1.length
  · rw [if_pos (by omega)]
    have := rect_rounds l0 l1 he hn (l0.length + 1) 0 (by omega) (by omega)
    simpa using this
  · rw [if_neg (by omega)]
    have : l0 ≠ l1 := fun h => he (by rw [h])
    simp [this]
set_option maxHeartbeats 1000000 in
theorem video_ValidRegion.calls (A0 : Option Addr) (c0 : Nat) (l0 : List S43) (r : Bool) (w : World) (hr0 : Kd.C k43 w A0 l0.length l0) (hc0 : l0.length ≤ c0) (h : video_ValidRegion.f l0 = some r) :
    Calls Try.prog 22 #[.slice A0 l0.length c0] w fun e w' => e = .returned (.bool r) ∧ Below w.heap.size w w' := by
  have hcon := contains70 75 #[] (fun r => !okR r) (enters_of Try.func75 (by kernel_rfl) rfl) A0 c0 l0 w hr0 hc0 (fun x W9 h9 => bad75 x.f0 x.f1 x.f2 x.f3 W9)
  rw [any_not] at hcon
  unfold video_ValidRegion.f validRegionB at h
  injection h with h
  by_cases hl : l0.length ≤ 200
  · have hlI : ¬ (200 : Int) < (l0.length : Int) := by omega
    cases hall : l0.all okR with
    | false =>
      rw [hall] at h hcon
      rw [if_neg (by simp)] at h
      subst h
      go_enter Try.func22, Try.ntmps22
      go_wp2_with (go_at_call 70; refine hcon.mono ?_; rintro e w' ⟨rfl, hB⟩)
      go_ret
      exact ⟨rfl, hB⟩
    | true =>
      rw [hall] at h hcon
      rw [if_pos ⟨hl, rfl⟩] at h
      have hm : ∀ W : World, Below w.heap.size w W → Calls Try.prog 73 #[.slice A0 l0.length c0, .slice none 0 0, .func (.func 59) #[] #[]] W fun e w' => ∃ v : Value, e = .returned (.tuple #[v, .int .i64 (madeR l0 [] eitherB).2]) ∧ Kd.R k43 43 w' W.heap.size (fun _ => True) v (madeR l0 [] eitherB).1 ∧ Below W.heap.size W w' := fun W hW =>
        made_any A0 none c0 0 l0 [] 59 #[] eitherB W (Kd.C_below hr0 hW) hc0 (Kd.C_nil _ _) (Nat.le_refl _) (by rw [List.append_nil]; exact hall) (by rw [List.append_nil]; omega) (enters_of Try.func59 (by kernel_rfl) rfl) (tells59 W)
      generalize (madeR l0 [] eitherB).1 = m1 at hm h
      generalize (madeR l0 [] eitherB).2 = m2 at hm h
      have Hm := Lib.hid hm
      have Hr := Lib.hid hr0
      clear hm hr0
      by_cases hz : m2 = 0
      · subst hz
        go_enter Try.func22, Try.ntmps22
        go_wp2_with (first | (go_at_call 70; refine hcon.mono ?_; rintro e w1 ⟨rfl, hB⟩) | (go_at_call 73; refine (Hm.out _ hB).mono ?_; rintro e w2 ⟨v, rfl, hR, hB2⟩; obtain ⟨A2, c2, rfl, hc2, hC2⟩ := Kd.R_reads hR) | (go_at_call 76; refine (api_Rect_76.calls (m1.length + 1) A2 c2 m1 A0 c0 l0 _ w2 hC2 hc2 (Kd.C_below Hr.out (hB.trans (hB2.mono hB.size))) hc0 (api_Rect_76.eq m1 l0 (Kd.C_max hC2))).mono ?_; rintro e w3 ⟨rfl, hD⟩))
        go_ret
        exact ⟨by rw [← h]; simp, (hB.trans (hB2.mono hB.size)).trans (hD.below.mono (hB.trans (hB2.mono hB.size)).size)⟩
      · have hzb : (m2 == 0) = false := by simp [hz]
        go_enter Try.func22, Try.ntmps22
        go_wp2_with (first | (go_at_call 70; refine hcon.mono ?_; rintro e w1 ⟨rfl, hB⟩) | (go_at_call 73; refine (Hm.out _ hB).mono ?_; rintro e w2 ⟨v, rfl, hR, hB2⟩; obtain ⟨A2, c2, rfl, hc2, hC2⟩ := Kd.R_reads hR))
        go_ret
        exact ⟨by rw [← h]; simp [hz], hB.trans (hB2.mono hB.size)⟩
  · have hlI : (200 : Int) < (l0.length : Int) := by omega
    rw [if_neg (fun h => hl h.1)] at h
    subst h
    go_enter Try.func22, Try.ntmps22
    go_wp2
    go_ret
    exact ⟨rfl, Below.refl _ _⟩
theorem valid_parts {l : List S43} (h : validRegionB l = true) : l.length ≤ 200 ∧ l.all okR = true := by
  unfold validRegionB at h
  split at h
  · assumption
  · cases h
/-- Of two regions; what is chosen is told by a function value. -/
theorem joined_any (A0 : Option Addr) (c0 : Nat) (l0 : List S43) (A1 : Option Addr) (c1 : Nat) (l1 : List S43) (g : Nat) (is : Bool → Bool → Bool) (w : World) (hr0 : Kd.C k43 w A0 l0.length l0) (hc0 : l0.length ≤ c0) (hr1 : Kd.C k43 w A1 l1.length l1) (hc1 : l1.length ≤ c1)
    (eg : ∀ args w, (callFunc g args).run Try.prog w = .ok (.enter g args) w) (hf : ∀ W, Tells2 g #[] is W) :
    Calls Try.prog 58 #[.slice A0 l0.length c0, .slice A1 l1.length c1, .func (.func g) #[] #[]] w fun e w' => ∃ v : Value, e = .returned (.tuple #[v, .int .i64 (joinedR l0 l1 is).2]) ∧ Kd.R k43 43 w' w.heap.size (fun _ => True) v (joinedR l0 l1 is).1 ∧ Below w.heap.size w w' := by
  have hv0 := video_ValidRegion.calls A0 c0 l0 (validRegionB l0) w hr0 hc0 rfl
  have hv1 : ∀ W : World, Below w.heap.size w W → Calls Try.prog 22 #[.slice A1 l1.length c1] W fun e w' => e = .returned (.bool (validRegionB l1)) ∧ Below W.heap.size W w' := fun W hW => video_ValidRegion.calls A1 c1 l1 (validRegionB l1) W (Kd.C_below hr1 hW) hc1 rfl
  have hm : validRegionB l0 = true → validRegionB l1 = true → ∀ W : World, Below w.heap.size w W → Calls Try.prog 73 #[.slice A0 l0.length c0, .slice A1 l1.length c1, .func (.func g) #[] #[]] W fun e w' => ∃ v : Value, e = .returned (.tuple #[v, .int .i64 (madeR l0 l1 is).2]) ∧ Kd.R k43 43 w' W.heap.size (fun _ => True) v (madeR l0 l1 is).1 ∧ Below W.heap.size W w' := fun h0 h1 W hW => by
    obtain ⟨n0, o0⟩ := valid_parts h0
    obtain ⟨n1, o1⟩ := valid_parts h1
    exact made_any A0 A1 c0 c1 l0 l1 g #[] is W (Kd.C_below hr0 hW) hc0 (Kd.C_below hr1 hW) hc1 (by rw [List.all_append, o0, o1]; rfl) (by rw [List.length_append]; omega) eg (hf W)
  unfold joinedR
  have Hm := Lib.hid hm
  have Hv0 := Lib.hid hv0
  have Hv1 := Lib.hid hv1
  clear hm hv0 hv1 hf
  cases hb0 : validRegionB l0 with
  | false =>
    rw [if_neg (by simp)]
    have H := Hv0.out
    rw [hb0] at H
    go_enter Try.func58, Try.ntmps58
    go_wp2_with (go_at_call 22; refine H.mono ?_; rintro e w' ⟨rfl, hB⟩)
    go_ret2
    exact ⟨.slice none 0 0, rfl, Kd.R_nil _ _ _ _ _, hB⟩
  | true =>
    cases hb1 : validRegionB l1 with
    | false =>
      rw [if_neg (by simp)]
      have H := Hv0.out
      rw [hb0] at H
      have H1 := Hv1.out
      rw [hb1] at H1
      go_enter Try.func58, Try.ntmps58
      go_wp2_with (first | (go_at_call 22; refine (H1 _ hB).mono ?_; rintro e w2 ⟨rfl, hB2⟩) | (go_at_call 22; refine H.mono ?_; rintro e w1 ⟨rfl, hB⟩))
      go_ret2
      exact ⟨.slice none 0 0, rfl, Kd.R_nil _ _ _ _ _, hB.trans (hB2.mono hB.size)⟩
    | true =>
      rw [if_pos ⟨rfl, rfl⟩]
      have H := Hv0.out
      rw [hb0] at H
      have H1 := Hv1.out
      rw [hb1] at H1
      have H2 := Hm.out hb0 hb1
      go_enter Try.func58, Try.ntmps58
      go_wp2_with (first | (go_at_call 22; refine (H1 _ hB).mono ?_; rintro e w2 ⟨rfl, hB2⟩; have hB3 := hB.trans (hB2.mono hB.size)) | (go_at_call 22; refine H.mono ?_; rintro e w1 ⟨rfl, hB⟩) | (go_at_call 73; refine (H2 _ hB3).mono ?_; rintro e w3 ⟨v, rfl, hR, hB4⟩))
      go_ret2
      exact ⟨v, rfl, Kd.R_lower hR hB3.size, hB3.trans (hB4.mono hB3.size)⟩
theorem video_Union.calls (A0 : Option Addr) (c0 : Nat) (l0 : List S43) (A1 : Option Addr) (c1 : Nat) (l1 : List S43) (r1 : List S43) (r2 : Int) (w : World) (hr0 : Kd.C k43 w A0 l0.length l0) (hc0 : l0.length ≤ c0) (hr1 : Kd.C k43 w A1 l1.length l1) (hc1 : l1.length ≤ c1) (h : video_Union.f l0 l1 = some (r1, r2)) :
    Calls Try.prog 12 #[.slice A0 l0.length c0, .slice A1 l1.length c1] w fun e w' => ∃ v0_ : Value, e = .returned (.tuple #[v0_, .int .i64 r2]) ∧ Kd.R k43 43 w' w.heap.size (fun _ => True) v0_ r1 ∧ Below w.heap.size w w' := by
  have hj := joined_any A0 c0 l0 A1 c1 l1 59 eitherB w hr0 hc0 hr1 hc1 (enters_of Try.func59 (by kernel_rfl) rfl) tells59
  unfold video_Union.f at h
  injection h with h
  rw [h] at hj
  have Hj := Lib.hid hj
  clear hj h hr0 hr1
  go_enter Try.func12, Try.ntmps12
  go_wp2_with (go_at_call 58; refine Hj.out.mono ?_; rintro e w' ⟨v, rfl, hR, hB⟩)
  go_ret2
  exact ⟨v, rfl, hR, hB⟩
theorem video_Meet.calls (A0 : Option Addr) (c0 : Nat) (l0 : List S43) (A1 : Option Addr) (c1 : Nat) (l1 : List S43) (r1 : List S43) (r2 : Int) (w : World) (hr0 : Kd.C k43 w A0 l0.length l0) (hc0 : l0.length ≤ c0) (hr1 : Kd.C k43 w A1 l1.length l1) (hc1 : l1.length ≤ c1) (h : video_Meet.f l0 l1 = some (r1, r2)) :
    Calls Try.prog 15 #[.slice A0 l0.length c0, .slice A1 l1.length c1] w fun e w' => ∃ v0_ : Value, e = .returned (.tuple #[v0_, .int .i64 r2]) ∧ Kd.R k43 43 w' w.heap.size (fun _ => True) v0_ r1 ∧ Below w.heap.size w w' := by
  have hj := joined_any A0 c0 l0 A1 c1 l1 62 bothB w hr0 hc0 hr1 hc1 (enters_of Try.func62 (by kernel_rfl) rfl) tells62
  unfold video_Meet.f at h
  injection h with h
  rw [h] at hj
  have Hj := Lib.hid hj
  clear hj h hr0 hr1
  go_enter Try.func15, Try.ntmps15
  go_wp2_with (go_at_call 58; refine Hj.out.mono ?_; rintro e w' ⟨v, rfl, hR, hB⟩)
  go_ret2
  exact ⟨v, rfl, hR, hB⟩
theorem video_Less.calls (A0 : Option Addr) (c0 : Nat) (l0 : List S43) (A1 : Option Addr) (c1 : Nat) (l1 : List S43) (r1 : List S43) (r2 : Int) (w : World) (hr0 : Kd.C k43 w A0 l0.length l0) (hc0 : l0.length ≤ c0) (hr1 : Kd.C k43 w A1 l1.length l1) (hc1 : l1.length ≤ c1) (h : video_Less.f l0 l1 = some (r1, r2)) :
    Calls Try.prog 16 #[.slice A0 l0.length c0, .slice A1 l1.length c1] w fun e w' => ∃ v0_ : Value, e = .returned (.tuple #[v0_, .int .i64 r2]) ∧ Kd.R k43 43 w' w.heap.size (fun _ => True) v0_ r1 ∧ Below w.heap.size w w' := by
  have hj := joined_any A0 c0 l0 A1 c1 l1 63 firstB w hr0 hc0 hr1 hc1 (enters_of Try.func63 (by kernel_rfl) rfl) tells63
  unfold video_Less.f at h
  injection h with h
  rw [h] at hj
  have Hj := Lib.hid hj
  clear hj h hr0 hr1
  go_enter Try.func16, Try.ntmps16
  go_wp2_with (go_at_call 58; refine Hj.out.mono ?_; rintro e w' ⟨v, rfl, hR, hB⟩)
  go_ret2
  exact ⟨v, rfl, hR, hB⟩
end Go.Proofs.Ytenaegjiggodkaa.PV

/- The contract of video's around. -/
namespace Go.Proofs.Ytenaegjiggodkaa.PV
open Go.RowKit Go.Proofs.YtenaegjiggodkaaW.PrintWords Go.Proofs.YtenaegjiggodkaaW.PrintLast Go.Proofs.YtenaegjiggodkaaW.PrintMore
set_option linter.unusedVariables false
set_option linter.unusedSimpArgs false
theorem edgesX_pos {l : List S43} (h : l.any fullR = true) : 0 < (edgesX l).length := by
  obtain ⟨r, hr, hf⟩ := List.any_eq_true.1 h
  have hm : r.f0 ∈ edgesX l := by
    unfold edgesX
    rw [mem_cutsL]
    exact List.mem_flatMap.2 ⟨r, List.mem_filter.2 ⟨hr, hf⟩, by simp [endsX]⟩
  exact List.length_pos_of_mem hm
theorem edgesY_pos {l : List S43} (h : l.any fullR = true) : 0 < (edgesY l).length := by
  obtain ⟨r, hr, hf⟩ := List.any_eq_true.1 h
  have hm : r.f1 ∈ edgesY l := by
    unfold edgesY
    rw [mem_cutsL]
    exact List.mem_flatMap.2 ⟨r, List.mem_filter.2 ⟨hr, hf⟩, by simp [endsY]⟩
  exact List.length_pos_of_mem hm
/-- A row of numbers that is not empty: where it lies, its first and its last. -/
theorem row_ends {w : World} {base : Nat} {v : Value} {xs : List Int} (h : Kd.R (Kd.int .i64) 3 w base (fun _ => True) v xs) (hn : 0 < xs.length) :
    ∃ g c m, v = .slice (some ⟨g, 0, none⟩) (m + 1) c ∧ xs.length = m + 1 ∧ base ≤ g ∧ w.cell? ⟨g, 0, none⟩ = some (.int .i64 (xs.getD 0 0)) ∧ w.cell? ⟨g, m, none⟩ = some (.int .i64 (xs.getD m 0)) := by
  obtain ⟨g, c, rfl, hg, hgl, cells, hcells⟩ := Kd.R_form h hn
  obtain ⟨m, hm⟩ : ∃ m, xs.length = m + 1 := ⟨xs.length - 1, by omega⟩
  have h0 := (Kd.R_cell (0 : Int) h (0 : Int) (by omega) (by omega)).1
  have h1 := (Kd.R_cell (0 : Int) h (m : Int) (by omega) (by omega)).1
  rw [Int.toNat_natCast] at h1
  refine ⟨g, c, m, by rw [hm], hm, hg, ?_, ?_⟩
  · simpa [rdOf] using h0
  · simpa [rdOf] using h1
set_option maxHeartbeats 2000000 in
set_option maxRecDepth 100000 in
theorem video_around.calls (A0 : Option Addr) (c0 : Nat) (l0 : List S43) (r1 r2 r3 r4 : Int) (w : World) (hr0 : Kd.C k43 w A0 l0.length l0) (hc0 : l0.length ≤ c0) (h : video_around.f l0 = some (r1, r2, r3, r4)) :
    Calls Try.prog 79 #[.slice A0 l0.length c0] w fun e w' => e = .returned (.agg #[.int .i64 r1, .int .i64 r2, .int .i64 r3, .int .i64 r4]) ∧ Below w.heap.size w w' := by
  unfold video_around.f at h
  by_cases hl : l0.length = 0
  · rw [if_pos hl] at h
    injection h with h
    injection h with e1 h
    injection h with e2 h
    injection h with e3 e4
    subst e1; subst e2; subst e3; subst e4
    have hlI : (l0.length : Int) = 0 := by omega
    rw [hl] at *
    go_enter Try.func79, Try.ntmps79
    go_wp2
    refine bodyPost_ret (results_cell_row rfl _ _ w.heap.size 43 #[.int .i64 0, .int .i64 0, .int .i64 0, .int .i64 0] (0, 0) _ rfl ?_ Try.underlying43 rfl (by kernel_rfl)) rfl ⟨rfl, ?_⟩
    · exact World.alloc_heap_new w _
    · exact (Below.refl _ _).alloc (Nat.le_refl _) _
  · rw [if_neg hl] at h
    split at h
    · rename_i hh
      obtain ⟨hn, hok, hany⟩ := hh
      injection h with h
      injection h with e1 h
      injection h with e2 h
      injection h with e3 e4
      obtain ⟨W0, hW0⟩ : ∃ W0, w.alloc (.cells #[.int .i64 0, .int .i64 0, .int .i64 0, .int .i64 0] 43) = W0 := ⟨_, rfl⟩
      have hB0 : Below w.heap.size w W0 := by rw [← hW0]; exact (Below.refl _ _).alloc (Nat.le_refl _) _
      have hbx : W0.heap[w.heap.size]? = some (.cells #[.int .i64 0, .int .i64 0, .int .i64 0, .int .i64 0] 43 (0, 0)) := by rw [← hW0]; exact World.alloc_heap_new w _
      have hx := edges_any 129 (enters_of Try.func129 (by kernel_rfl) rfl) _ ends129 A0 c0 l0 W0 (Kd.C_below hr0 hB0) hc0 hok hn
      have hlb : (l0.length == 0) = false := by simp [hl]
      have hlI : ¬ (l0.length : Int) = 0 := by omega
      have Hx := Lib.hid hx
      have HW0 := Lib.hid hW0
      have Hr := Lib.hid hr0
      clear hx hW0 hr0
      go_enter Try.func79, Try.ntmps79
      go_wp2_with fail
      rw [HW0.out]
      refine Hx.out.mono ?_
      rintro e W1 ⟨vx, rfl, hR1, hB1⟩
      rw [endsX_eq] at hR1
      obtain ⟨gx, cx, mx, rfl, hlx, hgx, hx0, hx1⟩ := row_ends hR1 (edgesX_pos hany)
      have hy := edges_any 130 (enters_of Try.func130 (by kernel_rfl) rfl) _ ends130 A0 c0 l0 W1 (Kd.C_below Hr.out (hB0.trans (hB1.mono hB0.size))) hc0 hok hn
      have Hy := Lib.hid hy
      clear hy
      go_wp2_with fail
      refine Hy.out.mono ?_
      rintro e W2 ⟨vy, rfl, hR2, hB2⟩
      rw [endsY_eq] at hR2
      obtain ⟨gy, cy, my, rfl, hly, hgy, hy0, hy1⟩ := row_ends hR2 (edgesY_pos hany)
      have hx0 := pw_cell_below hB2 hx0
      have hx1 := pw_cell_below hB2 hx1
      have hbx2 := (hB2.block _ (Nat.lt_of_lt_of_le (Array.getElem?_eq_some_iff.1 hbx).1 hB1.size)).trans ((hB1.block _ (Array.getElem?_eq_some_iff.1 hbx).1).trans hbx)
      have hs0 : W0.heap.size = w.heap.size + 1 := by rw [← HW0.out]; simp
      have hf0 : W2.frozen? ⟨w.heap.size, 0, none⟩ = false := by simp [World.frozen?, hbx2]
      have hf1 : W2.frozen? ⟨w.heap.size, 1, none⟩ = false := by simp [World.frozen?, hbx2]
      have hf2 : W2.frozen? ⟨w.heap.size, 2, none⟩ = false := by simp [World.frozen?, hbx2]
      have hf3 : W2.frozen? ⟨w.heap.size, 3, none⟩ = false := by simp [World.frozen?, hbx2]
      have cb0 : W2.cell? ⟨w.heap.size, 0, none⟩ = some (.int .i64 0) := by simp [World.cell?, hbx2]
      have cb1 : W2.cell? ⟨w.heap.size, 1, none⟩ = some (.int .i64 0) := by simp [World.cell?, hbx2]
      have cb2 : W2.cell? ⟨w.heap.size, 2, none⟩ = some (.int .i64 0) := by simp [World.cell?, hbx2]
      have cb3 : W2.cell? ⟨w.heap.size, 3, none⟩ = some (.int .i64 0) := by simp [World.cell?, hbx2]
      have nx1 : ¬ gx = w.heap.size := by omega
      have nx2 : ¬ w.heap.size = gx := by omega
      have ny1 : ¬ gy = w.heap.size := by have := hB1.size; omega
      have ny2 : ¬ w.heap.size = gy := by have := hB1.size; omega
      have hbx4 := edgesX_le l0 hn
      have hby4 := edgesY_le l0 hn
      have iwx : IntKind.i64.wrap (mx : Int) = (mx : Int) := IntWalk.i64_in _ (by omega)
      have iwy : IntKind.i64.wrap (my : Int) = (my : Int) := IntWalk.i64_in _ (by omega)
      have i0x : 0 ≤ (mx : Int) := by omega
      have i0y : 0 ≤ (my : Int) := by omega
      have hmx2 : (mx : Int) < (mx : Int) + 1 := by omega
      have hmy2 : (my : Int) < (my : Int) + 1 := by omega
      clear hbx4 hby4
      simp only [aroundR] at e1 e2 e3 e4
      rw [hlx, Nat.add_sub_cancel] at e3
      rw [hly, Nat.add_sub_cancel] at e4
      generalize (edgesX l0).getD 0 0 = x0 at *
      generalize (edgesX l0).getD mx 0 = x1 at *
      generalize (edgesY l0).getD 0 0 = y0 at *
      generalize (edgesY l0).getD my 0 = y1 at *
      have hmx : (mx : Int) < ((mx + 1 : Nat) : Int) := by omega
      have hmy : (my : Int) < ((my + 1 : Nat) : Int) := by omega
      have hBX := Lib.hid hbx2
      have hBB := Lib.hid (hB0.trans ((hB1.trans (hB2.mono hB1.size)).mono hB0.size))
      clear Hx Hy hR1 hR2 hbx hbx2 hB1 hB2
      go_wp2
      go_region_held3 (fun w' => w'.cell? ⟨gx, 0, none⟩ = some (.int .i64 x0) ∧ w'.cell? ⟨gx, mx, none⟩ = some (.int .i64 x1) ∧ w'.cell? ⟨gy, 0, none⟩ = some (.int .i64 y0) ∧ w'.cell? ⟨gy, my, none⟩ = some (.int .i64 y1)) (go_keep) (first | fail)
      go_wp2
      refine bodyPost_ret (results_cell_row rfl _ _ w.heap.size 43 #[.int .i64 r1, .int .i64 r2, .int .i64 (wrap64 (x1 - r1)), .int .i64 (wrap64 (y1 - r2))] (0, 0) _ rfl ?_ Try.underlying43 rfl (by kernel_rfl)) rfl ⟨by rw [← e3, ← e4, e1, e2], ?_⟩
      · simp only [i64_w]
        refine blk_drew ?_
        refine blk_put (cs := #[.int .i64 r1, .int .i64 r2, .int .i64 (wrap64 (x1 - r1)), .int .i64 0]) ?_ 3 _ rfl
        refine blk_put (cs := #[.int .i64 r1, .int .i64 r2, .int .i64 0, .int .i64 0]) ?_ 2 _ rfl
        refine blk_put (cs := #[.int .i64 r1, .int .i64 0, .int .i64 0, .int .i64 0]) ?_ 1 _ rfl
        refine blk_put (cs := #[.int .i64 0, .int .i64 0, .int .i64 0, .int .i64 0]) ?_ 0 _ rfl
        exact hBX.out
      · exact below_drew ((((hBB.out.setCell (Nat.le_refl _) _).setCell (Nat.le_refl _) _).setCell (Nat.le_refl _) _).setCell (Nat.le_refl _) _)
    · cases h
end Go.Proofs.Ytenaegjiggodkaa.PV

/- The contracts of video's regions, all together. -/

-- Printed by vprint.py (a program of this claim over the translation's own print). Lean checks it.
namespace Go.Proofs.Ytenaegjiggodkaa.PV
open Go.RowKit Go.Proofs.YtenaegjiggodkaaW.PrintWords Go.Proofs.YtenaegjiggodkaaW.PrintLast Go.Proofs.YtenaegjiggodkaaW.PrintMore
attribute [local go_sem] max2_int min2_int max_two min_two max_three min_three max_four min_four   -- for this text's walks alone
set_option linter.unusedVariables false
set_option linter.unusedSimpArgs false

attribute [local go_sem high] eqA43
/-! ### continuolaw25_awake: function 10 -/
def continuolaw25_awake.j0 : Nat → Bool → Option (Bool)
  | 0, _ => none
  | k + 1, x24 => if x24 = true then (some false) else ((video_Convert.f k 1 0 2 2 (⟨#[97, 98, 99, 100]⟩ : ByteArray) 1).bind fun bt237 => (if bt237.2.2.2.2.2 = 0 then (if (bt237.2.2.2.2.1.size : Int) = 16 then (if 0 ≤ 2 then (if 2 ≤ (bt237.2.2.2.2.1.size : Int) then (if (bt237.2.2.2.2.1.extract 0 2).toList = ([97, 98] : List UInt8) then (if 4 ≤ 6 then (if 6 ≤ (bt237.2.2.2.2.1.size : Int) then (some ((bt237.2.2.2.2.1.extract 4 6).toList == ([99, 100] : List UInt8))) else (none)) else (none)) else (some false)) else (none)) else (none)) else (some false)) else (some false)))
def continuolaw25_awake.f (k : Nat)  : Option (Bool) := (video_Region.f (([(⟨0, 0, 2, 2⟩ : S43), (⟨1, 1, 2, 2⟩ : S43)] : List (S43)))).bind fun bt232 => (if bt232.2 = 0 then (if (bt232.1.length : Int) = 3 then (if 1 < (bt232.1.length : Int) then (continuolaw25_awake.j0 k (!(((rd_T43 bt232.1 1).f0) == 0) || (!(((rd_T43 bt232.1 1).f1) == 1) || (!(((rd_T43 bt232.1 1).f2) == 3) || (!(((rd_T43 bt232.1 1).f3) == 1)))))) else (none)) else (continuolaw25_awake.j0 k true)) else (continuolaw25_awake.j0 k true))
theorem continuolaw25_awake.mono_l : ∀ k, (∀ y0, LeO (continuolaw25_awake.j0 k y0) (continuolaw25_awake.j0 (k + 1) y0))
  | 0 => fun _ r h => by simp [continuolaw25_awake.j0] at h
  | k + 1 => by
    have ih0 := continuolaw25_awake.mono_l k
    · intro y0
      unfold continuolaw25_awake.j0
      repeat' first
      | (with_reducible exact ih0 _)
      | (with_reducible exact video_Convert.mono _ _ _ _ _ _ _)
      | (with_reducible exact LeO.refl _)
      | (with_reducible exact LeO.none _)
      | (with_reducible refine LeO.ite ?_ ?_)
      | (with_reducible refine LeO.bind ?_ (fun _ => ?_))
      | exact ih0 _
      | exact video_Convert.mono _ _ _ _ _ _ _
      | exact LeO.none _
      | refine LeO.ite ?_ ?_
      | refine LeO.bind ?_ (fun _ => ?_)
theorem continuolaw25_awake.mono : ∀ k, LeO (continuolaw25_awake.f k ) (continuolaw25_awake.f (k + 1) ) := by
  intro  k
  have ih0 := continuolaw25_awake.mono_l k
  unfold continuolaw25_awake.f
  repeat' first
      | (with_reducible exact ih0 _)
      | (with_reducible exact video_Convert.mono _ _ _ _ _ _ _)
      | (with_reducible exact LeO.refl _)
      | (with_reducible exact LeO.none _)
      | (with_reducible refine LeO.ite ?_ ?_)
      | (with_reducible refine LeO.bind ?_ (fun _ => ?_))
      | exact ih0 _
      | exact video_Convert.mono _ _ _ _ _ _ _
      | exact LeO.none _
      | refine LeO.ite ?_ ?_
      | refine LeO.bind ?_ (fun _ => ?_)
set_option maxHeartbeats 8000000 in
set_option maxRecDepth 100000 in
theorem continuolaw25_awake.calls (k : Nat)  (r : Bool) (w : World) (h : continuolaw25_awake.f k  = some r) :
    Calls Try.prog 10 #[] w fun e w' => e = .returned (.bool r) ∧ Below w.heap.size w w' := by
  have hu43 := Try.underlying43
  have hu49 := Try.underlying49
  have HB := Aside0.mk (Below.refl w.heap.size w)
  have H : ((video_Region.f (([(⟨0, 0, 2, 2⟩ : S43), (⟨1, 1, 2, 2⟩ : S43)] : List (S43)))).bind fun bt232 => (if bt232.2 = 0 then (if (bt232.1.length : Int) = 3 then (if 1 < (bt232.1.length : Int) then (continuolaw25_awake.j0 k (!(((rd_T43 bt232.1 1).f0) == 0) || (!(((rd_T43 bt232.1 1).f1) == 1) || (!(((rd_T43 bt232.1 1).f2) == 3) || (!(((rd_T43 bt232.1 1).f3) == 1)))))) else (none)) else (continuolaw25_awake.j0 k true)) else (continuolaw25_awake.j0 k true))) = some r := h
  clear h
  obtain ⟨y229, hy229⟩ : ∃ y_ : List (S43), y_ = (([(⟨0, 0, 2, 2⟩ : S43), (⟨1, 1, 2, 2⟩ : S43)] : List (S43))) := ⟨_, rfl⟩
  replace H : ((video_Region.f y229).bind fun bt232 => (if bt232.2 = 0 then (if (bt232.1.length : Int) = 3 then (if 1 < (bt232.1.length : Int) then (continuolaw25_awake.j0 k (!(((rd_T43 bt232.1 1).f0) == 0) || (!(((rd_T43 bt232.1 1).f1) == 1) || (!(((rd_T43 bt232.1 1).f2) == 3) || (!(((rd_T43 bt232.1 1).f3) == 1)))))) else (none)) else (continuolaw25_awake.j0 k true)) else (continuolaw25_awake.j0 k true))) = some r := by first | (rw [hy229]; with_reducible exact H) | (have H2_ := (Option.bind_some _ _).symm.trans H; rw [hy229]; with_reducible exact H2_) | (have H2_ := (Option.bind_some _ _).symm.trans H; with_reducible exact H2_) | with_reducible exact H | (rw [hy229]; exact H) | exact H
  have Ny229 := Aside0.mk hy229
  clear hy229
  replace H := Option.bind_eq_some_iff.mp H
  obtain ⟨⟨t232, t233⟩, A10, H⟩ := H
  replace H : (if t233 = 0 then (if (t232.length : Int) = 3 then (if 1 < (t232.length : Int) then (continuolaw25_awake.j0 k (!(((rd_T43 t232 1).f0) == 0) || (!(((rd_T43 t232 1).f1) == 1) || (!(((rd_T43 t232 1).f2) == 3) || (!(((rd_T43 t232 1).f3) == 1)))))) else (none)) else (continuolaw25_awake.j0 k true)) else (continuolaw25_awake.j0 k true)) = some r := H
  have A1 := Aside0.mk A10
  clear A10
  have HC2 := Aside0.mk H
  clear H
  go_enter Try.func10, Try.ntmps10
  go_upto_region 2 with (first | ((with_reducible refine gate_dst (N := 7) rfl ?_); (try (refine gate_guard (by rfl) ?_; dsimp only)); refine Kd.R_lit k43 _ 43 ?hg (N := 7) ?hd (xs := ([(⟨0, 0, 2, 2⟩ : S43), (⟨1, 1, 2, 2⟩ : S43)] : List (S43))) (inner := [.int .i64 0, .int .i64 0, .int .i64 2, .int .i64 2, .int .i64 1, .int .i64 1, .int .i64 2, .int .i64 2]) (ok := fun _ => True) (okp := fun _ => True) ?hr ?hp (fun _ hk => hk) trivial (Below.refl _ _) (Nat.le_refl _) (by simp) ?_; (case hd => rfl); (case hg => rfl); (case hr => first | (go_simp; done) | (go_simp; rfl)); (case hp => exact (Reps.c4 (show Kd.M k43 _ _ _ (⟨0, 0, 2, 2⟩ : S43) [.int .i64 0, .int .i64 0, .int .i64 2, .int .i64 2] from (k43_mkM _ _ _ (⟨0, 0, 2, 2⟩ : S43) )) (Reps.c4 (show Kd.M k43 _ _ _ (⟨1, 1, 2, 2⟩ : S43) [.int .i64 1, .int .i64 1, .int .i64 2, .int .i64 2] from (k43_mkM _ _ _ (⟨1, 1, 2, 2⟩ : S43) )) (Reps.none _ _)))); intro v230 w3 ho4 hb hg_ hnew_; clear hg_ hnew_; (first | rw [← Ny229.out] at ho4 | (simp only [Int.reduceToNat] at ho4; rw [← Ny229.out] at ho4)); have n0_ := Aside0.mk (Kd.R_lower ho4 (below_size (by repeat (first | (with_reducible first | exact HB.out | apply below_alloc | apply pw_below_drewN | apply below_drew1) | exact HB.out)))); have n1_ := Aside0.mk (below_step (by repeat (first | (with_reducible first | exact HB.out | apply below_alloc | apply pw_below_drewN | apply below_drew1) | exact HB.out)) hb); clear HB; have HO231 := n0_; have HB := n1_; clear n0_ n1_; clear hb ho4; obtain ⟨Ao5, co5, eo5⟩ := Kd.R_slice HO231.out; subst eo5) | ((with_reducible refine gate_callee (f := 20) rfl ?_); refine goesL_ (some 8) rfl rfl Try.func20 (by kernel_rfl) rfl #[.slice Ao5 y229.length co5] rfl (by (try simp only [List.map_toArray, List.map_cons, List.map_nil]); first | done | rfl | (simp only [List.length_drop, List.length_take]; rfl)) ?_; (with_reducible refine (video_Region.calls _ _ y229 t232 t233 _ ?side1 ?side2 A1.out).mono ?_); (case side1 => repeat (first | exact (Kd.R_reads' HO231.out).2.2 | (with_reducible refine Kd.C_alloc ?_ _) | (with_reducible refine Kd.C_drewN ?_ _) | (with_reducible refine Kd.C_drew ?_))); (case side2 => exact (Kd.R_reads' HO231.out).2.1); rintro e w6 ⟨v234, rfl, ho0, hb⟩; refine ⟨_, rfl, ?_⟩; have n0_ := Aside0.mk (Kd.R_elder' (by (with_reducible repeat (first | apply Kd.R_alloc | apply Kd.R_drewN | apply Kd.R_drew)); exact HO231.out) (Kd.R_base ho0) hb); have n1_ := Aside0.mk (Kd.R_lower (Kd.R_new' ho0 (Kd.R_lt (by (with_reducible repeat (first | apply Kd.R_alloc | apply Kd.R_drewN | apply Kd.R_drew)); exact HO231.out))) (below_size (by repeat (first | (with_reducible first | exact HB.out | apply below_alloc | apply pw_below_drewN | apply below_drew1) | exact HB.out)))); have n2_ := Aside0.mk (below_step (by repeat (first | (with_reducible first | exact HB.out | apply below_alloc | apply pw_below_drewN | apply below_drew1) | exact HB.out)) hb); clear HO231; clear HB; have HO231 := n0_; have HO235 := n1_; have HB := n2_; clear n0_ n1_ n2_; (try clear hb); (try clear hb2); (try clear hk); (try clear hi); (try clear ho0)))
  (try simp only [Act.put, List.setIfInBounds_toArray, List.set_cons_zero, List.set_cons_succ])
  go_cut [24] (fun v24 wc => ∃ (kq : Nat) (x24_1 : Bool), v24 = .bool x24_1 ∧ Aside0 (continuolaw25_awake.j0 kq x24_1 = some r) ∧ Aside0 (kq ≤ k) ∧ Aside0 (Below w.heap.size w wc))
  case first =>
    have H := HC2.out
    clear HC2
    by_cases c7 : t233 = 0
    · rw [if_pos c7] at H
      have c7b0 : (t233 == 0) = true := beq_iff_eq.mpr c7
      have c7b1 : (t233 != 0) = false := bne_eq_false_iff_eq.mpr c7
      clear c7
      (first | rw [c7b0] | (simp only [i64_w, i32_w]; rw [c7b0]) | skip)
      by_cases c8 : (t232.length : Int) = 3
      · rw [if_pos c8] at H
        have c8b0 : ((t232.length : Int) == 3) = true := beq_iff_eq.mpr c8
        have c8b1 : ((t232.length : Int) != 3) = false := bne_eq_false_iff_eq.mpr c8
        clear c8
        by_cases c9 : 1 < (t232.length : Int)
        · rw [if_pos c9] at H
          have c9b0 : decide (1 < (t232.length : Int)) = true := decide_eq_true c9
          have c9b1 : decide (1 < t232.length) = true := decide_eq_true (by omega)
          clear c9
          have H' := Aside0.mk H
          clear H
          obtain ⟨Ao10, co10, eo10⟩ := Kd.R_slice HO235.out
          subst eo10
          have p236 : 0 ≤ (1 : Int) := (by omega)
          have q236 : 1 < (t232.length : Int) := of_decide_eq_true (by first | (with_reducible assumption) | assumption)
          obtain ⟨ad236, e236, hx236_0, hx236_1, hx236_2, hx236_3⟩ := at_T43 (Kd.R_reads' HO235.out).2.2 1 p236 q236
          cases e236
          (try simp only [show (1 : Int).toNat = 1 from rfl, Nat.reduceMul, Nat.reduceEqDiff, Go.Addr.add, ↓reduceIte] at hx236_0)
          (try simp only [show (1 : Int).toNat = 1 from rfl, Nat.reduceMul, Nat.reduceEqDiff, Go.Addr.add, ↓reduceIte] at hx236_1)
          (try simp only [show (1 : Int).toNat = 1 from rfl, Nat.reduceMul, Nat.reduceEqDiff, Go.Addr.add, ↓reduceIte] at hx236_2)
          (try simp only [show (1 : Int).toNat = 1 from rfl, Nat.reduceMul, Nat.reduceEqDiff, Go.Addr.add, ↓reduceIte] at hx236_3)
          have qi236 : (1 < t232.length) = True := eq_true (by omega)
          (try rw [show ((1 : Int)).toNat = 1 from rfl] at hx236_0)
          (try rw [show 1 * 4 = 4 from rfl] at hx236_0)
          (try rw [show ((1 : Int)).toNat = 1 from rfl] at hx236_1)
          (try rw [show 1 * 4 = 4 from rfl] at hx236_1)
          (try rw [show ((1 : Int)).toNat = 1 from rfl] at hx236_2)
          (try rw [show 1 * 4 = 4 from rfl] at hx236_2)
          (try rw [show ((1 : Int)).toNat = 1 from rfl] at hx236_3)
          (try rw [show 1 * 4 = 4 from rfl] at hx236_3)
          replace p236 := eq_true p236
          replace q236 := eq_true q236
          go_wp2
          go_meet
          case rel => exact ⟨_, ((!(((rd_T43 t232 1).f0) == 0) || (!(((rd_T43 t232 1).f1) == 1) || (!(((rd_T43 t232 1).f2) == 3) || (!(((rd_T43 t232 1).f3) == 1)))))), (by first | rfl | (simp; done) | (simp [*]; done)), H', ⟨by first | omega | exact Nat.le_refl _⟩, ⟨by repeat (first | (with_reducible first | exact HB.out | apply below_alloc | apply pw_below_drewN | apply below_drew1) | exact HB.out)⟩⟩
        · rw [if_neg c9] at H
          exact absurd H (by simp)
      · rw [if_neg c8] at H
        have c8b0 : ((t232.length : Int) == 3) = false := beq_eq_false_iff_ne.mpr c8
        have c8b1 : ((t232.length : Int) != 3) = true := bne_iff_ne.mpr c8
        have H' := Aside0.mk H
        clear H
        obtain ⟨Ao11, co11, eo11⟩ := Kd.R_slice HO235.out
        subst eo11
        go_wp2
        go_meet
        case rel => exact ⟨_, (true), (by first | rfl | (simp; done) | (simp [*]; done)), H', ⟨by first | omega | exact Nat.le_refl _⟩, ⟨by repeat (first | (with_reducible first | exact HB.out | apply below_alloc | apply pw_below_drewN | apply below_drew1) | exact HB.out)⟩⟩
    · rw [if_neg c7] at H
      have c7b0 : (t233 == 0) = false := beq_eq_false_iff_ne.mpr c7
      have c7b1 : (t233 != 0) = true := bne_iff_ne.mpr c7
      (first | rw [c7b0] | (simp only [i64_w, i32_w]; rw [c7b0]) | skip)
      have H' := Aside0.mk H
      clear H
      go_wp2
      go_meet
      case rel => exact ⟨_, (true), (by first | rfl | (simp; done) | (simp [*]; done)), H', ⟨by first | omega | exact Nat.le_refl _⟩, ⟨by repeat (first | (with_reducible first | exact HB.out | apply below_alloc | apply pw_below_drewN | apply below_drew1) | exact HB.out)⟩⟩
  case rest =>
    clear HC2
    try clear c1
    try clear c2
    try clear p2
    try clear q2
    try clear hx2
    try clear qi2
    try clear c4
    try clear c7
    try clear c7b0
    try clear c7b1
    try clear c8
    try clear c8b0
    try clear c8b1
    try clear c9
    try clear c9b0
    try clear c9b1
    try clear c10
    try clear hx236_0
    try clear hx236_1
    try clear hx236_2
    try clear hx236_3
    try clear p236
    try clear q236
    obtain ⟨kq, x24_1, rfl, HA, HJ1, HB⟩ := hcut
    cases kq with
    | zero => exact absurd HA.out (by simp [continuolaw25_awake.j0])
    | succ kj1 =>
      have H := HA.out
      clear HA
      simp only [continuolaw25_awake.j0] at H
      by_cases c12 : x24_1 = true
      · subst c12
        have H1 : (some false) = some r := by rw [if_pos rfl] at H; exact H
        clear H
        have H := H1
        clear H1
        obtain rfl := Option.some.inj H
        go_wp2
        go_ret
        exact ⟨by first | rfl | (simp [errW_none, errW_some] <;> rfl) | (simp [*, errW_none, errW_some] <;> rfl), by repeat (first | (with_reducible first | exact HB.out | apply below_alloc | apply pw_below_drewN | apply below_drew1) | exact HB.out)⟩
      · replace c12 := Bool.eq_false_iff.mpr c12
        subst c12
        have H1 : ((video_Convert.f kj1 1 0 2 2 (⟨#[97, 98, 99, 100]⟩ : ByteArray) 1).bind fun bt237 => (if bt237.2.2.2.2.2 = 0 then (if (bt237.2.2.2.2.1.size : Int) = 16 then (if 0 ≤ 2 then (if 2 ≤ (bt237.2.2.2.2.1.size : Int) then (if (bt237.2.2.2.2.1.extract 0 2).toList = ([97, 98] : List UInt8) then (if 4 ≤ 6 then (if 6 ≤ (bt237.2.2.2.2.1.size : Int) then (some ((bt237.2.2.2.2.1.extract 4 6).toList == ([99, 100] : List UInt8))) else (none)) else (none)) else (some false)) else (none)) else (none)) else (some false)) else (some false))) = some r := by rw [if_neg (show ¬ (false = true) by decide)] at H; exact H
        clear H
        have H := H1
        clear H1
        replace H := Option.bind_eq_some_iff.mp H
        obtain ⟨⟨t237, t238, t239, t240, t241, t242⟩, A130, H⟩ := H
        replace H : (if t242 = 0 then (if (t241.size : Int) = 16 then (if 0 ≤ 2 then (if 2 ≤ (t241.size : Int) then (if (t241.extract 0 2).toList = ([97, 98] : List UInt8) then (if 4 ≤ 6 then (if 6 ≤ (t241.size : Int) then (some ((t241.extract 4 6).toList == ([99, 100] : List UInt8))) else (none)) else (none)) else (some false)) else (none)) else (none)) else (some false)) else (some false)) = some r := H
        have A13 := Aside0.mk A130
        clear A130
        by_cases c14 : t242 = 0
        · rw [if_pos c14] at H
          have c14b0 : (t242 == 0) = true := beq_iff_eq.mpr c14
          have c14b1 : (t242 != 0) = false := bne_eq_false_iff_eq.mpr c14
          clear c14
          by_cases c15 : (t241.size : Int) = 16
          · rw [if_pos c15] at H
            have c15b0 : ((t241.size : Int) == 16) = true := beq_iff_eq.mpr c15
            have c15b1 : ((t241.size : Int) != 16) = false := bne_eq_false_iff_eq.mpr c15
            clear c15
            by_cases c16 : 0 ≤ 2
            · rw [if_pos c16] at H
              have c16b0 := eq_true c16
              have c16b1 : decide (0 ≤ 2) = true := decide_eq_true c16
              clear c16
              by_cases c17 : 2 ≤ (t241.size : Int)
              · rw [if_pos c17] at H
                have c17b0 := eq_true c17
                have c17b1 : decide (2 ≤ (t241.size : Int)) = true := decide_eq_true c17
                clear c17
                by_cases c18 : (t241.extract 0 2).toList = ([97, 98] : List UInt8)
                · rw [if_pos c18] at H
                  have c18b0 : ((t241.extract 0 2).toList == ([97, 98] : List UInt8)) = true := beq_iff_eq.mpr c18
                  have c18b1 : ((t241.extract 0 2).toList != ([97, 98] : List UInt8)) = false := bne_eq_false_iff_eq.mpr c18
                  clear c18
                  by_cases c19 : 4 ≤ 6
                  · rw [if_pos c19] at H
                    have c19b0 := eq_true c19
                    have c19b1 : decide (4 ≤ 6) = true := decide_eq_true c19
                    clear c19
                    by_cases c20 : 6 ≤ (t241.size : Int)
                    · rw [if_pos c20] at H
                      have c20b0 := eq_true c20
                      have c20b1 : decide (6 ≤ (t241.size : Int)) = true := decide_eq_true c20
                      clear c20
                      obtain rfl := Option.some.inj H
                      go_wp2_with (first | ((with_reducible refine gate_callee (f := 42) rfl ?_); refine goesL_ (some 27) rfl rfl Try.func42 (by kernel_rfl) rfl #[.agg #[.int .i64 1, .int .i64 0, .int .i64 2, .int .i64 2, .string (⟨#[97, 98, 99, 100]⟩ : ByteArray)], .int .i64 1] rfl (by (try simp only [List.map_toArray, List.map_cons, List.map_nil]); first | done | rfl | (simp only [List.length_drop, List.length_take]; rfl)) ?_; (with_reducible refine (video_Convert.calls kj1 1 0 2 2 (⟨#[97, 98, 99, 100]⟩ : ByteArray) 1 t237 t238 t239 t240 t241 t242 _ A13.out).mono ?_); rintro e w21 ⟨rfl, hb⟩; refine ⟨_, rfl, ?_⟩; have n0_ := Aside0.mk (below_step (by repeat (first | (with_reducible first | exact HB.out | apply below_alloc | apply pw_below_drewN | apply below_drew1) | exact HB.out)) hb); clear HB; have HB := n0_; clear n0_; (try clear hb); (try clear hb2); (try clear hk); (try clear hi)) | ((with_reducible refine gate_dst (N := 3) rfl ?_); (try (refine gate_guard (by rfl) ?_; dsimp only)); refine box_event ?hg (N := 3) ?hd (cs := #[.int .i64 0, .int .i64 0, .int .i64 0, .int .i64 0, .string (⟨#[]⟩ : ByteArray)]) (t := 49) ?hr ?_; (case hd => rfl); (case hg => rfl); (case hr => first | (go_simp; done) | (go_simp; rfl)); intro gb243 hg w22 hbox hb; have n0_ := Aside0.mk (below_step (by repeat (first | (with_reducible first | exact HB.out | apply below_alloc | apply pw_below_drewN | apply below_drew1) | exact HB.out)) hb); have n1_ := Aside0.mk (hbox); have n2_ := Aside0.mk ((by rw [hg]; exact (below_size (by repeat (first | (with_reducible first | exact HB.out | apply below_alloc | apply pw_below_drewN | apply below_drew1) | exact HB.out))) : w.heap.size ≤ gb243)); have n3_ := Aside0.mk ((by rw [hg]; exact (below_size (by repeat (first | (with_reducible first | exact HB.out | apply below_alloc | apply pw_below_drewN | apply below_drew1) | exact HB.out))) : w.heap.size ≤ gb243)); clear HB; have HB := n0_; have BK243 := n1_; have GW243 := n2_; have GE243 := n3_; clear n0_ n1_ n2_ n3_; clear hb hbox hg; have hcz23_0 : w22.cell? ⟨gb243, 0, none⟩ = some (.int .i64 0) := (blk_cell BK243.out 0).trans rfl; have hcz23_1 : w22.cell? ⟨gb243, 1, none⟩ = some (.int .i64 0) := (blk_cell BK243.out 1).trans rfl; have hcz23_2 : w22.cell? ⟨gb243, 2, none⟩ = some (.int .i64 0) := (blk_cell BK243.out 2).trans rfl; have hcz23_3 : w22.cell? ⟨gb243, 3, none⟩ = some (.int .i64 0) := (blk_cell BK243.out 3).trans rfl; have hcz23_4 : w22.cell? ⟨gb243, 4, none⟩ = some (.string (⟨#[]⟩ : ByteArray)) := (blk_cell BK243.out 4).trans rfl; have hfz23_0 := blk_frozen BK243.out 0; have hfz23_1 := blk_frozen BK243.out 1; have hfz23_2 := blk_frozen BK243.out 2; have hfz23_3 := blk_frozen BK243.out 3; have hfz23_4 := blk_frozen BK243.out 4))
                      go_ret
                      exact ⟨by first | rfl | (simp [errW_none, errW_some] <;> rfl) | (simp [*, errW_none, errW_some] <;> rfl), by repeat (first | (with_reducible first | exact HB.out | apply below_alloc | apply pw_below_drewN | apply below_drew1 | refine below_set ?_ GE243.out) | exact HB.out)⟩
                    · rw [if_neg c20] at H
                      exact absurd H (by simp)
                  · rw [if_neg c19] at H
                    exact absurd H (by simp)
                · rw [if_neg c18] at H
                  have c18b0 : ((t241.extract 0 2).toList == ([97, 98] : List UInt8)) = false := beq_eq_false_iff_ne.mpr c18
                  have c18b1 : ((t241.extract 0 2).toList != ([97, 98] : List UInt8)) = true := bne_iff_ne.mpr c18
                  obtain rfl := Option.some.inj H
                  go_wp2_with (first | ((with_reducible refine gate_callee (f := 42) rfl ?_); refine goesL_ (some 27) rfl rfl Try.func42 (by kernel_rfl) rfl #[.agg #[.int .i64 1, .int .i64 0, .int .i64 2, .int .i64 2, .string (⟨#[97, 98, 99, 100]⟩ : ByteArray)], .int .i64 1] rfl (by (try simp only [List.map_toArray, List.map_cons, List.map_nil]); first | done | rfl | (simp only [List.length_drop, List.length_take]; rfl)) ?_; (with_reducible refine (video_Convert.calls kj1 1 0 2 2 (⟨#[97, 98, 99, 100]⟩ : ByteArray) 1 t237 t238 t239 t240 t241 t242 _ A13.out).mono ?_); rintro e w24 ⟨rfl, hb⟩; refine ⟨_, rfl, ?_⟩; have n0_ := Aside0.mk (below_step (by repeat (first | (with_reducible first | exact HB.out | apply below_alloc | apply pw_below_drewN | apply below_drew1) | exact HB.out)) hb); clear HB; have HB := n0_; clear n0_; (try clear hb); (try clear hb2); (try clear hk); (try clear hi)) | ((with_reducible refine gate_dst (N := 3) rfl ?_); (try (refine gate_guard (by rfl) ?_; dsimp only)); refine box_event ?hg (N := 3) ?hd (cs := #[.int .i64 0, .int .i64 0, .int .i64 0, .int .i64 0, .string (⟨#[]⟩ : ByteArray)]) (t := 49) ?hr ?_; (case hd => rfl); (case hg => rfl); (case hr => first | (go_simp; done) | (go_simp; rfl)); intro gb243 hg w25 hbox hb; have n0_ := Aside0.mk (below_step (by repeat (first | (with_reducible first | exact HB.out | apply below_alloc | apply pw_below_drewN | apply below_drew1) | exact HB.out)) hb); have n1_ := Aside0.mk (hbox); have n2_ := Aside0.mk ((by rw [hg]; exact (below_size (by repeat (first | (with_reducible first | exact HB.out | apply below_alloc | apply pw_below_drewN | apply below_drew1) | exact HB.out))) : w.heap.size ≤ gb243)); have n3_ := Aside0.mk ((by rw [hg]; exact (below_size (by repeat (first | (with_reducible first | exact HB.out | apply below_alloc | apply pw_below_drewN | apply below_drew1) | exact HB.out))) : w.heap.size ≤ gb243)); clear HB; have HB := n0_; have BK243 := n1_; have GW243 := n2_; have GE243 := n3_; clear n0_ n1_ n2_ n3_; clear hb hbox hg; have hcz26_0 : w25.cell? ⟨gb243, 0, none⟩ = some (.int .i64 0) := (blk_cell BK243.out 0).trans rfl; have hcz26_1 : w25.cell? ⟨gb243, 1, none⟩ = some (.int .i64 0) := (blk_cell BK243.out 1).trans rfl; have hcz26_2 : w25.cell? ⟨gb243, 2, none⟩ = some (.int .i64 0) := (blk_cell BK243.out 2).trans rfl; have hcz26_3 : w25.cell? ⟨gb243, 3, none⟩ = some (.int .i64 0) := (blk_cell BK243.out 3).trans rfl; have hcz26_4 : w25.cell? ⟨gb243, 4, none⟩ = some (.string (⟨#[]⟩ : ByteArray)) := (blk_cell BK243.out 4).trans rfl; have hfz26_0 := blk_frozen BK243.out 0; have hfz26_1 := blk_frozen BK243.out 1; have hfz26_2 := blk_frozen BK243.out 2; have hfz26_3 := blk_frozen BK243.out 3; have hfz26_4 := blk_frozen BK243.out 4))
                  go_ret
                  exact ⟨by first | rfl | (simp [errW_none, errW_some] <;> rfl) | (simp [*, errW_none, errW_some] <;> rfl), by repeat (first | (with_reducible first | exact HB.out | apply below_alloc | apply pw_below_drewN | apply below_drew1 | refine below_set ?_ GE243.out) | exact HB.out)⟩
              · rw [if_neg c17] at H
                exact absurd H (by simp)
            · rw [if_neg c16] at H
              exact absurd H (by simp)
          · rw [if_neg c15] at H
            have c15b0 : ((t241.size : Int) == 16) = false := beq_eq_false_iff_ne.mpr c15
            have c15b1 : ((t241.size : Int) != 16) = true := bne_iff_ne.mpr c15
            obtain rfl := Option.some.inj H
            go_wp2_with (first | ((with_reducible refine gate_callee (f := 42) rfl ?_); refine goesL_ (some 27) rfl rfl Try.func42 (by kernel_rfl) rfl #[.agg #[.int .i64 1, .int .i64 0, .int .i64 2, .int .i64 2, .string (⟨#[97, 98, 99, 100]⟩ : ByteArray)], .int .i64 1] rfl (by (try simp only [List.map_toArray, List.map_cons, List.map_nil]); first | done | rfl | (simp only [List.length_drop, List.length_take]; rfl)) ?_; (with_reducible refine (video_Convert.calls kj1 1 0 2 2 (⟨#[97, 98, 99, 100]⟩ : ByteArray) 1 t237 t238 t239 t240 t241 t242 _ A13.out).mono ?_); rintro e w27 ⟨rfl, hb⟩; refine ⟨_, rfl, ?_⟩; have n0_ := Aside0.mk (below_step (by repeat (first | (with_reducible first | exact HB.out | apply below_alloc | apply pw_below_drewN | apply below_drew1) | exact HB.out)) hb); clear HB; have HB := n0_; clear n0_; (try clear hb); (try clear hb2); (try clear hk); (try clear hi)) | ((with_reducible refine gate_dst (N := 3) rfl ?_); (try (refine gate_guard (by rfl) ?_; dsimp only)); refine box_event ?hg (N := 3) ?hd (cs := #[.int .i64 0, .int .i64 0, .int .i64 0, .int .i64 0, .string (⟨#[]⟩ : ByteArray)]) (t := 49) ?hr ?_; (case hd => rfl); (case hg => rfl); (case hr => first | (go_simp; done) | (go_simp; rfl)); intro gb243 hg w28 hbox hb; have n0_ := Aside0.mk (below_step (by repeat (first | (with_reducible first | exact HB.out | apply below_alloc | apply pw_below_drewN | apply below_drew1) | exact HB.out)) hb); have n1_ := Aside0.mk (hbox); have n2_ := Aside0.mk ((by rw [hg]; exact (below_size (by repeat (first | (with_reducible first | exact HB.out | apply below_alloc | apply pw_below_drewN | apply below_drew1) | exact HB.out))) : w.heap.size ≤ gb243)); have n3_ := Aside0.mk ((by rw [hg]; exact (below_size (by repeat (first | (with_reducible first | exact HB.out | apply below_alloc | apply pw_below_drewN | apply below_drew1) | exact HB.out))) : w.heap.size ≤ gb243)); clear HB; have HB := n0_; have BK243 := n1_; have GW243 := n2_; have GE243 := n3_; clear n0_ n1_ n2_ n3_; clear hb hbox hg; have hcz29_0 : w28.cell? ⟨gb243, 0, none⟩ = some (.int .i64 0) := (blk_cell BK243.out 0).trans rfl; have hcz29_1 : w28.cell? ⟨gb243, 1, none⟩ = some (.int .i64 0) := (blk_cell BK243.out 1).trans rfl; have hcz29_2 : w28.cell? ⟨gb243, 2, none⟩ = some (.int .i64 0) := (blk_cell BK243.out 2).trans rfl; have hcz29_3 : w28.cell? ⟨gb243, 3, none⟩ = some (.int .i64 0) := (blk_cell BK243.out 3).trans rfl; have hcz29_4 : w28.cell? ⟨gb243, 4, none⟩ = some (.string (⟨#[]⟩ : ByteArray)) := (blk_cell BK243.out 4).trans rfl; have hfz29_0 := blk_frozen BK243.out 0; have hfz29_1 := blk_frozen BK243.out 1; have hfz29_2 := blk_frozen BK243.out 2; have hfz29_3 := blk_frozen BK243.out 3; have hfz29_4 := blk_frozen BK243.out 4))
            go_ret
            exact ⟨by first | rfl | (simp [errW_none, errW_some] <;> rfl) | (simp [*, errW_none, errW_some] <;> rfl), by repeat (first | (with_reducible first | exact HB.out | apply below_alloc | apply pw_below_drewN | apply below_drew1 | refine below_set ?_ GE243.out) | exact HB.out)⟩
        · rw [if_neg c14] at H
          have c14b0 : (t242 == 0) = false := beq_eq_false_iff_ne.mpr c14
          have c14b1 : (t242 != 0) = true := bne_iff_ne.mpr c14
          obtain rfl := Option.some.inj H
          go_wp2_with (first | ((with_reducible refine gate_callee (f := 42) rfl ?_); refine goesL_ (some 27) rfl rfl Try.func42 (by kernel_rfl) rfl #[.agg #[.int .i64 1, .int .i64 0, .int .i64 2, .int .i64 2, .string (⟨#[97, 98, 99, 100]⟩ : ByteArray)], .int .i64 1] rfl (by (try simp only [List.map_toArray, List.map_cons, List.map_nil]); first | done | rfl | (simp only [List.length_drop, List.length_take]; rfl)) ?_; (with_reducible refine (video_Convert.calls kj1 1 0 2 2 (⟨#[97, 98, 99, 100]⟩ : ByteArray) 1 t237 t238 t239 t240 t241 t242 _ A13.out).mono ?_); rintro e w30 ⟨rfl, hb⟩; refine ⟨_, rfl, ?_⟩; have n0_ := Aside0.mk (below_step (by repeat (first | (with_reducible first | exact HB.out | apply below_alloc | apply pw_below_drewN | apply below_drew1) | exact HB.out)) hb); clear HB; have HB := n0_; clear n0_; (try clear hb); (try clear hb2); (try clear hk); (try clear hi)) | ((with_reducible refine gate_dst (N := 3) rfl ?_); (try (refine gate_guard (by rfl) ?_; dsimp only)); refine box_event ?hg (N := 3) ?hd (cs := #[.int .i64 0, .int .i64 0, .int .i64 0, .int .i64 0, .string (⟨#[]⟩ : ByteArray)]) (t := 49) ?hr ?_; (case hd => rfl); (case hg => rfl); (case hr => first | (go_simp; done) | (go_simp; rfl)); intro gb243 hg w31 hbox hb; have n0_ := Aside0.mk (below_step (by repeat (first | (with_reducible first | exact HB.out | apply below_alloc | apply pw_below_drewN | apply below_drew1) | exact HB.out)) hb); have n1_ := Aside0.mk (hbox); have n2_ := Aside0.mk ((by rw [hg]; exact (below_size (by repeat (first | (with_reducible first | exact HB.out | apply below_alloc | apply pw_below_drewN | apply below_drew1) | exact HB.out))) : w.heap.size ≤ gb243)); have n3_ := Aside0.mk ((by rw [hg]; exact (below_size (by repeat (first | (with_reducible first | exact HB.out | apply below_alloc | apply pw_below_drewN | apply below_drew1) | exact HB.out))) : w.heap.size ≤ gb243)); clear HB; have HB := n0_; have BK243 := n1_; have GW243 := n2_; have GE243 := n3_; clear n0_ n1_ n2_ n3_; clear hb hbox hg; have hcz32_0 : w31.cell? ⟨gb243, 0, none⟩ = some (.int .i64 0) := (blk_cell BK243.out 0).trans rfl; have hcz32_1 : w31.cell? ⟨gb243, 1, none⟩ = some (.int .i64 0) := (blk_cell BK243.out 1).trans rfl; have hcz32_2 : w31.cell? ⟨gb243, 2, none⟩ = some (.int .i64 0) := (blk_cell BK243.out 2).trans rfl; have hcz32_3 : w31.cell? ⟨gb243, 3, none⟩ = some (.int .i64 0) := (blk_cell BK243.out 3).trans rfl; have hcz32_4 : w31.cell? ⟨gb243, 4, none⟩ = some (.string (⟨#[]⟩ : ByteArray)) := (blk_cell BK243.out 4).trans rfl; have hfz32_0 := blk_frozen BK243.out 0; have hfz32_1 := blk_frozen BK243.out 1; have hfz32_2 := blk_frozen BK243.out 2; have hfz32_3 := blk_frozen BK243.out 3; have hfz32_4 := blk_frozen BK243.out 4))
          go_ret
          exact ⟨by first | rfl | (simp [errW_none, errW_some] <;> rfl) | (simp [*, errW_none, errW_some] <;> rfl), by repeat (first | (with_reducible first | exact HB.out | apply below_alloc | apply pw_below_drewN | apply below_drew1 | refine below_set ?_ GE243.out) | exact HB.out)⟩

end Go.Proofs.Ytenaegjiggodkaa.PV

/- The example that every law asks: it is as the law says. -/
namespace Go.Proofs.Ytenaegjiggodkaa.PV
open Go.RowKit Go.Proofs.YtenaegjiggodkaaW.PrintWords Go.Proofs.YtenaegjiggodkaaW.PrintLast Go.Proofs.YtenaegjiggodkaaW.PrintMore
set_option maxRecDepth 100000 in
theorem awake_true : continuolaw25_awake.f 20 = some true := by kernel_rfl
theorem awake10 (w : World) : Calls Try.prog 10 #[] w fun e w' => e = .returned (.bool true) ∧ Below w.heap.size w w' := continuolaw25_awake.calls 20 true w awake_true
end Go.Proofs.Ytenaegjiggodkaa.PV

/- The law VideoAgrees, walked. -/
namespace Go.Proofs.Ytenaegjiggodkaa.PV
open Go.RowKit Go.Proofs.YtenaegjiggodkaaW.PrintWords Go.Proofs.YtenaegjiggodkaaW.PrintLast Go.Proofs.YtenaegjiggodkaaW.PrintMore
set_option linter.unusedVariables false
set_option linter.unusedSimpArgs false
def elPx (a b : List S34) (k : Nat) : S34 := if k < a.length then a.getD k z34 else b.getD (k - a.length) z34
theorem small_of {a b : List S34} (ha : a.length ≤ 30) (hb : b.length ≤ 30) (h : ∀ k, k < a.length + b.length → (elPx a b k).f1.length ≤ 30) : smallPx a ∧ smallPx b := by
  refine ⟨⟨ha, fun p hp => ?_⟩, ⟨hb, fun p hp => ?_⟩⟩
  · obtain ⟨k, hk, rfl⟩ := List.getElem_of_mem hp
    have := h k (by omega)
    unfold elPx at this
    rw [if_pos hk, List.getD_eq_getElem?_getD, List.getElem?_eq_getElem hk] at this
    exact this
  · obtain ⟨k, hk, rfl⟩ := List.getElem_of_mem hp
    have := h (a.length + k) (by omega)
    unfold elPx at this
    rw [if_neg (by omega), show a.length + k - a.length = k by omega, List.getD_eq_getElem?_getD, List.getElem?_eq_getElem hk] at this
    exact this
theorem agreeR_one (a b : List S34) : (agreeR a b).2.1 = [] ∨ ∃ m, (agreeR a b).2.1 = [m] := by
  unfold agreeR
  split
  · exact .inl rfl
  · split
    · exact .inl rfl
    · split
      · exact .inr ⟨_, rfl⟩
      · exact .inl rfl
set_option maxHeartbeats 2000000 in
theorem agrees4 (A0 : Option Addr) (c0 : Nat) (l0 : List S34) (A1 : Option Addr) (c1 : Nat) (l1 : List S34) (w : World) (hr0 : Kd.C k34 w A0 l0.length l0) (hc0 : l0.length ≤ c0) (hr1 : Kd.C k34 w A1 l1.length l1) (hc1 : l1.length ≤ c1) :
    Calls Try.prog 4 #[.slice A0 l0.length c0, .slice A1 l1.length c1] w fun e w' => e = .returned (.bool true) ∧ Below w.heap.size w w' := by
  have hm0 : l0.length ≤ 9223372036854775807 := hr0.2.1
  have hm1 : l1.length ≤ 9223372036854775807 := hr1.2.1
  have Hr0 := Lib.hid hr0
  have Hr1 := Lib.hid hr1
  clear hr0 hr1
  go_enter Try.func4, Try.ntmps4
  go_wp2_with fail
  refine (awake10 _).mono ?_
  rintro e w1 ⟨rfl, hB1⟩
  by_cases h0 : 30 < l0.length
  · have h0b : decide ((30 : Int) < (l0.length : Int)) = true := by simp; omega
    go_wp2
    go_ret
    exact ⟨rfl, hB1⟩
  · by_cases h1 : 30 < l1.length
    · go_wp2
      go_ret
      exact ⟨rfl, hB1⟩
    · go_wp2
      go_loopw [5] (fun i wr => ∃ j : Nat, j ≤ l0.length + l1.length ∧ i = .int .i64 j ∧ (∀ k, k < j → (elPx l0 l1 k).f1.length ≤ 30) ∧ Below w.heap.size w wr) (fun i _ => l0.length + l1.length - (intOf i).toNat)
      case atStart => exact ⟨0, Nat.zero_le _, rfl, fun k hk => absurd hk (Nat.not_lt_zero _), hB1⟩
      case round =>
        clear hB1
        obtain ⟨j, hj, rfl, hall, hB⟩ := hrel
        by_cases hlt : j < l0.length + l1.length
        · have hnx : (elPx l0 l1 j).f1.length ≤ 30 → ∀ k, k < j + 1 → (elPx l0 l1 k).f1.length ≤ 30 := fun hh k hk => by
            by_cases e : k = j
            · subst e; exact hh
            · exact hall k (by omega)
          unfold elPx at hnx
          have Hall := Lib.hid hall
          by_cases hla : j < l0.length
          · rw [if_pos hla] at hnx
            obtain ⟨ad, A2, c2, e0, g1, g2, g3, g4⟩ := at_T34 (Kd.C_below Hr0.out hB) j (by omega) (by omega)
            obtain rfl := e0
            simp only [Int.toNat_natCast] at g1 g2
            rw [rd34_nat] at g1 g2 g3 g4
            generalize l0.getD j z34 = x at *
            obtain ⟨f, ms⟩ := x
            have hml : ms.length ≤ 9223372036854775807 := g4.2.1
            dsimp only at g1 g2 hnx
            have Hnx := Lib.hid hnx
            have q1 : (wr.alloc (.cells #[.int .i64 0, .slice none 0 0] 34)).cell? (ad.add (j * 2)) = _ := pw_cell_below (below_alloc (Below.refl _ _) _) g1
            have q2 : (wr.alloc (.cells #[.int .i64 0, .slice none 0 0] 34)).cell? ⟨(ad.add (j * 2)).block, (ad.add (j * 2)).off + 1, none⟩ = _ := pw_cell_below (below_alloc (Below.refl _ _) _) g2
            clear g1 g2 g3 g4 hnx hall
            by_cases hl : 30 < ms.length
            · go_wp2
              go_ret
              exact ⟨rfl, hB.alloc hB.size _⟩
            · go_wp2
              go_roundw
              case rel => exact ⟨j + 1, by omega, by go_num, Hnx.out (by omega), hB.alloc hB.size _⟩
              case measure => simp [intOf]; omega
          · rw [if_neg hla] at hnx
            have hjk : j - l0.length < l1.length := by omega
            obtain ⟨ad, A2, c2, e0, g1, g2, g3, g4⟩ := at_T34 (Kd.C_below Hr1.out hB) ((j - l0.length : Nat) : Int) (by omega) (by omega)
            obtain rfl := e0
            simp only [Int.toNat_natCast] at g1 g2
            rw [rd34_nat] at g1 g2 g3 g4
            generalize l1.getD (j - l0.length) z34 = x at *
            obtain ⟨f, ms⟩ := x
            have hml : ms.length ≤ 9223372036854775807 := g4.2.1
            dsimp only at g1 g2 hnx
            have Hnx := Lib.hid hnx
            have hlb : decide ((j : Int) < (l0.length : Int)) = false := by simp; omega
            obtain ⟨k, rfl⟩ : ∃ k, j = l0.length + k := ⟨j - l0.length, by omega⟩
            rw [Nat.add_sub_cancel_left] at g1 g2
            rw [Nat.add_sub_cancel_left] at hjk
            have q1 : (wr.alloc (.cells #[.int .i64 0, .slice none 0 0] 34)).cell? (ad.add (k * 2)) = _ := pw_cell_below (below_alloc (Below.refl _ _) _) g1
            have q2 : (wr.alloc (.cells #[.int .i64 0, .slice none 0 0] 34)).cell? ⟨(ad.add (k * 2)).block, (ad.add (k * 2)).off + 1, none⟩ = _ := pw_cell_below (below_alloc (Below.refl _ _) _) g2
            clear g1 g2 g3 g4 hnx hall
            by_cases hl : 30 < ms.length
            · go_wp2
              go_ret
              exact ⟨rfl, hB.alloc hB.size _⟩
            · go_wp2
              go_roundw
              case rel => exact ⟨l0.length + k + 1, by omega, by go_num, Hnx.out (by omega), hB.alloc hB.size _⟩
              case measure => simp [intOf]; omega
        · have e : j = l0.length + l1.length := by omega
          subst e
          obtain ⟨hs0, hs1⟩ := small_of (by omega) (by omega) hall
          obtain ⟨k, hk⟩ := agree_ref l0 l1 hs0 hs1
          have ho := agreeR_one l0 l1
          have ha := agree18 A0 c0 l0 A1 c1 l1 wr (Kd.C_below Hr0.out hB) hc0 (Kd.C_below Hr1.out hB) hc1
          have hb := fun (W : World) (hW : Below wr.heap.size wr W) (r1 : Int) (r2 : List Int) (r3 : Int) h => continuoref25_Agree.calls k A0 c0 l0 A1 c1 l1 r1 r2 r3 W (Kd.C_below (Kd.C_below Hr0.out hB) hW) hc0 (Kd.C_below (Kd.C_below Hr1.out hB) hW) hc1 h
          rw [hk] at hb
          generalize agreeR l0 l1 = R at *
          obtain ⟨r1, r2, r3⟩ := R
          unfold AgreeQ at ha
          dsimp only at ha ho
          have hb2 := fun W hW => hb W hW r1 r2 r3 rfl
          have Ha := Lib.hid ha
          have Hb := Lib.hid hb2
          have Ho := Lib.hid ho
          clear ha hb hb2 ho hk hs0 hs1 hall
          go_wp2_with fail
          refine Ha.out.mono ?_
          rintro e w2 ⟨v1, rfl, hR1, hB2⟩
          obtain ⟨X1, d1, rfl, hd1, hC1⟩ := Kd.R_reads hR1
          have hBa : Below wr.heap.size wr (w2.alloc (.cells #[.int .i64 r1, .slice X1 r2.length d1] 34)) := hB2.alloc hB2.size _
          have hC1a := Kd.C_below hC1 (below_alloc (Below.refl _ _) (.cells #[.int .i64 r1, .slice X1 r2.length d1] 34))
          have hz7 : (w2.alloc (.cells #[.int .i64 r1, .slice X1 r2.length d1] 34)).heap[w2.heap.size]? = some (.cells #[.int .i64 r1, .slice X1 r2.length d1] 34 (0, 0)) := heap_alloc_new w2 _
          go_wp2_with fail
          generalize w2.alloc (.cells #[.int .i64 r1, .slice X1 r2.length d1] 34) = W7 at *
          have hl7 : w2.heap.size < W7.heap.size := (Array.getElem?_eq_some_iff.1 hz7).1
          generalize w2.heap.size = B7 at *
          refine (Hb.out _ hBa).mono ?_
          rintro e w3 ⟨v2, rfl, hR2, hB3⟩
          obtain ⟨X2, d2, rfl, hd2, hC2⟩ := Kd.R_reads hR2
          have hz7' := (hB3.block _ hl7).trans hz7
          have hC1b := Kd.C_below hC1a hB3
          have hB4 := (hB.trans (hBa.mono hB.size)).trans (hB3.mono (Nat.le_trans hB.size hBa.size))
          clear hR1 hR2 hB hB2 hBa hB3 hC1 hC1a hz7 Ha Hb Hr0 Hr1
          have hl9 : B7 < w3.heap.size := (Array.getElem?_eq_some_iff.1 hz7').1
          have hz7a := (Deep.blk_alloc_lt w3 (.cells #[.int .i64 r1, .slice X2 r2.length d2] 34) B7 hl9).trans hz7'
          have a0 : (w3.alloc (.cells #[.int .i64 r1, .slice X2 r2.length d2] 34)).cell? ⟨B7, 0, none⟩ = some (.int .i64 r1) := by simp [World.cell?, hz7a]
          have a1 : (w3.alloc (.cells #[.int .i64 r1, .slice X2 r2.length d2] 34)).cell? ⟨B7, 1, none⟩ = some (.slice X1 r2.length d1) := by simp [World.cell?, hz7a]
          have hz9 : (w3.alloc (.cells #[.int .i64 r1, .slice X2 r2.length d2] 34)).heap[w3.heap.size]? = some (.cells #[.int .i64 r1, .slice X2 r2.length d2] 34 (0, 0)) := heap_alloc_new w3 _
          have a2 : (w3.alloc (.cells #[.int .i64 r1, .slice X2 r2.length d2] 34)).cell? ⟨w3.heap.size, 0, none⟩ = some (.int .i64 r1) := (blk_cell hz9 0).trans rfl
          have a3 : (w3.alloc (.cells #[.int .i64 r1, .slice X2 r2.length d2] 34)).cell? ⟨w3.heap.size, 1, none⟩ = some (.slice X2 r2.length d2) := (blk_cell hz9 1).trans rfl
          have hC1c := Kd.C_below hC1b (below_alloc (Below.refl _ _) (.cells #[.int .i64 r1, .slice X2 r2.length d2] 34))
          have hC2c := Kd.C_below hC2 (below_alloc (Below.refl _ _) (.cells #[.int .i64 r1, .slice X2 r2.length d2] 34))
          have hB5 := hB4.alloc hB4.size (.cells #[.int .i64 r1, .slice X2 r2.length d2] 34)
          have e1 : (r1 == r1) = true := beq_self_eq_true r1
          have e3 : (r3 == r3) = true := beq_self_eq_true r3
          clear hz7' hz7a hC1b hC2 hB4 hz9
          go_wp2
          generalize w3.alloc (.cells #[.int .i64 r1, .slice X2 r2.length d2] 34) = W9 at *
          rcases Ho.out with ho | ⟨m, ho⟩
          · subst ho
            clear hC1c hC2c
            go_quiet (fail)
            go_wp2
            go_ret
            exact ⟨rfl, pw_below_drewN hB5 _⟩
          · subst ho
            obtain ⟨ad1, rfl, m1⟩ := Kd.at_int hC1c 0 (by omega) (by simp)
            obtain ⟨ad2, rfl, m2⟩ := Kd.at_int hC2c 0 (by omega) (by simp)
            have em : (m == m) = true := beq_self_eq_true m
            have m1a : W9.cell? (ad1.add 0) = some (.int .i64 m) := m1
            have m2a : W9.cell? (ad2.add 0) = some (.int .i64 m) := m2
            have m1b : W9.cell? ad1 = some (.int .i64 m) := m1
            have m2b : W9.cell? ad2 = some (.int .i64 m) := m2
            clear m1 m2
            clear hC1c hC2c
            go_quiet (fail)
            go_wp2
            go_ret
            exact ⟨rfl, pw_below_drewN hB5 _⟩
/-- VideoAgrees, walked: as its row asks for it. -/
theorem agrees_walk (A0 : Option Addr) (c0 : Nat) (l0 : List S34) (A1 : Option Addr) (c1 : Nat) (l1 : List S34) (w : World) (hr0 : Kd.C k34 w A0 l0.length l0) (hc0 : l0.length ≤ c0) (_h0 : l0.length ≤ maxLen) (_o0 : ∀ x ∈ l0, (Lit.int .i64 x.f0).wf = true ∧ x.f1.length ≤ maxLen ∧ ∀ n ∈ x.f1, (Lit.int .i64 n).wf = true)
    (hr1 : Kd.C k34 w A1 l1.length l1) (hc1 : l1.length ≤ c1) (_h1 : l1.length ≤ maxLen) (_o1 : ∀ x ∈ l1, (Lit.int .i64 x.f0).wf = true ∧ x.f1.length ≤ maxLen ∧ ∀ n ∈ x.f1, (Lit.int .i64 n).wf = true) :
    Calls Try.prog 4 #[.slice A0 l0.length c0, .slice A1 l1.length c1] w fun e w' => e = .returned (.bool true) ∧ Below w.heap.size w w' := agrees4 A0 c0 l0 A1 c1 l1 w hr0 hc0 hr1 hc1
end Go.Proofs.Ytenaegjiggodkaa.PV

/- What an argument that reads as data holds: of each kind that the video laws take. -/
namespace Go.Proofs.Ytenaegjiggodkaa.PV
open Go.RowKit Go.Proofs.YtenaegjiggodkaaW.PrintWords Go.Proofs.YtenaegjiggodkaaW.PrintLast Go.Proofs.YtenaegjiggodkaaW.PrintMore
open Go.ChangeShapes Go.WideShapes Go.Deep
set_option linter.unusedVariables false
set_option linter.unusedSimpArgs false
/-- What reads as data of type t is of kind d. -/
def Opens {α : Type} (d : Kd α) (t : TypeId) (ok : α → Prop) : Prop :=
  ∀ {H : Type} (enc : TypeId × Value → H) (w : World) (base : Nat) (spare : Nat → Bool) (held : Bool) (fuel : Nat) (cs : List Value) (x : DataW H × List MemPlace), DataW.trod enc Try.prog w base spare held fuel t cs = some x → ∃ v, d.K w v cs ∧ ok v
theorem opens_int {t : TypeId} {k : IntKind} (ht : Try.prog.underlying t = some (.int k)) : Opens (Kd.int k) t (fun n => (Lit.int k n).wf = true) := by
  intro H enc w base spare held fuel cs x h
  obtain ⟨n, rfl, _, hw⟩ := DataW.trod_int ht h
  exact ⟨n, rfl, hw⟩
theorem opens_string {t : TypeId} (ht : Try.prog.underlying t = some .string) : Opens Kd.string t (fun s => s.size ≤ maxLen) := by
  intro H enc w base spare held fuel cs x h
  obtain ⟨s, rfl, _, hw⟩ := DataW.trod_string ht h
  exact ⟨s, rfl, hw⟩
theorem list_of {α : Type} {Q : Nat → α → Prop} : ∀ (n : Nat), (∀ i, i < n → ∃ v, Q i v) → ∃ l : List α, l.length = n ∧ ∀ i v, l[i]? = some v → Q i v
  | 0, _ => ⟨[], rfl, fun i v h => by simp at h⟩
  | n + 1, h => by
    obtain ⟨l, hl, hq⟩ := list_of n (fun i hi => h i (by omega))
    obtain ⟨v, hv⟩ := h n (by omega)
    refine ⟨l ++ [v], by simp [hl], fun i u hu => ?_⟩
    rcases Nat.lt_or_ge i n with hi | hi
    · rw [List.getElem?_append_left (by omega)] at hu
      exact hq i u hu
    · rw [List.getElem?_append_right (by omega)] at hu
      have hi2 : i = n := by
        rcases Nat.eq_or_lt_of_le hi with e | e
        · exact e.symm
        · rw [List.getElem?_eq_none (by simp; omega)] at hu; cases hu
      subst hi2
      rw [hl, Nat.sub_self] at hu
      simp at hu
      subst hu
      exact hv
theorem opens_slice {α : Type} {d : Kd α} {t e : TypeId} {ok : α → Prop} (ht : Try.prog.underlying t = some (.slice e)) (hC : Try.prog.cellsOf e = d.sz) (h : Opens d e ok) : Opens (Kd.slice e d) t (fun xs => xs.length ≤ maxLen ∧ ∀ x ∈ xs, ok x) := by
  intro H enc w base spare held fuel cs x hx
  rcases open_slice ht hx with ⟨rfl, _⟩ | ⟨a, len, cap, m, n, D, Pl, rfl, hb, hl, hm, hmm, _, hi⟩
  · exact ⟨[], ⟨none, 0, rfl, Nat.le_refl _, rfl, by simp, fun h => by simp at h⟩, by simp [maxLen], fun x hx => by simp at hx⟩
  · have hlen : len ≤ m := by rw [hmm]; split <;> omega
    obtain ⟨l, hll, hq⟩ := list_of (Q := fun i v => (∃ cs', w.cells? base (a.add (i * Try.prog.cellsOf e)) (Try.prog.cellsOf e) = some cs' ∧ d.K w v cs') ∧ ok v) len (fun i hi2 => by
      obtain ⟨cs', hc, ht'⟩ := hi i (by omega)
      obtain ⟨v, hv, ho⟩ := h enc w base spare held n cs' _ ht'
      exact ⟨v, ⟨cs', hc, hv⟩, ho⟩)
    subst hll
    have hm' : cap ≤ 9223372036854775807 := hm
    refine ⟨l, ⟨some a, cap, rfl, hl, rfl, by omega, fun _ => ⟨a, rfl, fun j p hj => ?_⟩⟩, Nat.le_trans hl hm, fun x hx => ?_⟩
    · obtain ⟨⟨cs', hc, hv⟩, _⟩ := hq j p hj
      obtain ⟨_, hcl, hat⟩ := World.cells?_some hc
      refine ⟨cs', by rw [hcl, hC], hv, fun i u hu => ?_⟩
      have hil : i < cs'.length := (List.getElem?_eq_some_iff.1 hu).1
      have := hat i (by omega)
      rw [Deep.add_add, hC] at this
      rw [this, hu]
    · obtain ⟨i, hi2, rfl⟩ := List.getElem_of_mem hx
      exact (hq i _ (List.getElem?_eq_getElem hi2)).2
theorem len2 {α : Type} {l : List α} (h : l.length = 2) : ∃ a b, l = [a, b] := by
  match l, h with
  | [a, b], _ => exact ⟨a, b, rfl⟩
theorem len4 {α : Type} {l : List α} (h : l.length = 4) : ∃ a b c d, l = [a, b, c, d] := by
  match l, h with
  | [a, b, c, d], _ => exact ⟨a, b, c, d, rfl⟩
theorem len5 {α : Type} {l : List α} (h : l.length = 5) : ∃ a b c d e, l = [a, b, c, d, e] := by
  match l, h with
  | [a, b, c, d, e], _ => exact ⟨a, b, c, d, e, rfl⟩
theorem cells3 : Try.prog.cellsOf 3 = 1 := by kernel_rfl
theorem cells9 : Try.prog.cellsOf 9 = 1 := by kernel_rfl
theorem cells32 : Try.prog.cellsOf 32 = 1 := by kernel_rfl
theorem cells43 : Try.prog.cellsOf 43 = 4 := by kernel_rfl
theorem cells49 : Try.prog.cellsOf 49 = 5 := by kernel_rfl
theorem cells34 : Try.prog.cellsOf 34 = 2 := by kernel_rfl
theorem cells114 : Try.prog.cellsOf 114 = 5 := by kernel_rfl
abbrev wf64 (n : Int) : Prop := (Lit.int .i64 n).wf = true
theorem opens43 : Opens k43 43 (fun r => wf64 r.f0 ∧ wf64 r.f1 ∧ wf64 r.f2 ∧ wf64 r.f3) := by
  intro H enc w base spare held fuel cs x h
  obtain ⟨xs, n, _, _, hc, hlen, hg⟩ := DataW.trod_struct Try.underlying43 h
  rw [cells43] at hc
  obtain ⟨c0, c1, c2, c3, rfl⟩ := len4 hc
  obtain ⟨y0, y1, y2, y3, rfl⟩ := len4 hlen
  have g0 : DataW.trod enc Try.prog w base spare held n 3 (List.take (Try.prog.cellsOf 3) (List.drop 0 [c0, c1, c2, c3])) = some y0 := hg 0 _ rfl
  have g1 : DataW.trod enc Try.prog w base spare held n 3 (List.take (Try.prog.cellsOf 3) (List.drop 1 [c0, c1, c2, c3])) = some y1 := hg 1 _ rfl
  have g2 : DataW.trod enc Try.prog w base spare held n 3 (List.take (Try.prog.cellsOf 3) (List.drop 2 [c0, c1, c2, c3])) = some y2 := hg 2 _ rfl
  have g3 : DataW.trod enc Try.prog w base spare held n 3 (List.take (Try.prog.cellsOf 3) (List.drop 3 [c0, c1, c2, c3])) = some y3 := hg 3 _ rfl
  rw [cells3] at g0
  rw [cells3] at g1
  rw [cells3] at g2
  rw [cells3] at g3
  obtain ⟨n0, e0, w0⟩ := opens_int Try.underlying3 enc w base spare held n _ _ g0
  obtain ⟨n1, e1, w1⟩ := opens_int Try.underlying3 enc w base spare held n _ _ g1
  obtain ⟨n2, e2, w2⟩ := opens_int Try.underlying3 enc w base spare held n _ _ g2
  obtain ⟨n3, e3, w3⟩ := opens_int Try.underlying3 enc w base spare held n _ _ g3
  exact ⟨⟨n0, n1, n2, n3⟩, ⟨_, [c1, c2, c3], rfl, e0, _, [c2, c3], rfl, e1, _, [c3], rfl, e2, e3⟩, w0, w1, w2, w3⟩
theorem opens34 : Opens k34 34 (fun r => wf64 r.f0 ∧ r.f1.length ≤ maxLen ∧ ∀ n ∈ r.f1, wf64 n) := by
  intro H enc w base spare held fuel cs x h
  obtain ⟨xs, n, _, _, hc, hlen, hg⟩ := DataW.trod_struct Try.underlying34 h
  rw [cells34] at hc
  obtain ⟨c0, c1, rfl⟩ := len2 hc
  obtain ⟨y0, y1, rfl⟩ := len2 hlen
  have g0 : DataW.trod enc Try.prog w base spare held n 3 (List.take (Try.prog.cellsOf 3) (List.drop 0 [c0, c1])) = some y0 := hg 0 _ rfl
  have g1 : DataW.trod enc Try.prog w base spare held n 32 (List.take (Try.prog.cellsOf 32) (List.drop 1 [c0, c1])) = some y1 := hg 1 _ rfl
  rw [cells3] at g0
  rw [cells32] at g1
  obtain ⟨n0, e0, w0⟩ := opens_int Try.underlying3 enc w base spare held n _ _ g0
  obtain ⟨n1, e1, w1⟩ := opens_slice Try.underlying32 cells3 (opens_int Try.underlying3) enc w base spare held n _ _ g1
  exact ⟨⟨n0, n1⟩, ⟨_, [c1], rfl, e0, e1⟩, w0, w1⟩
theorem opens49 : Opens k49 49 (fun r => wf64 r.f0 ∧ wf64 r.f1 ∧ wf64 r.f2 ∧ wf64 r.f3 ∧ r.f4.size ≤ maxLen) := by
  intro H enc w base spare held fuel cs x h
  obtain ⟨xs, n, _, _, hc, hlen, hg⟩ := DataW.trod_struct Try.underlying49 h
  rw [cells49] at hc
  obtain ⟨c0, c1, c2, c3, c4, rfl⟩ := len5 hc
  obtain ⟨y0, y1, y2, y3, y4, rfl⟩ := len5 hlen
  have g0 : DataW.trod enc Try.prog w base spare held n 3 (List.take (Try.prog.cellsOf 3) (List.drop 0 [c0, c1, c2, c3, c4])) = some y0 := hg 0 _ rfl
  have g1 : DataW.trod enc Try.prog w base spare held n 3 (List.take (Try.prog.cellsOf 3) (List.drop 1 [c0, c1, c2, c3, c4])) = some y1 := hg 1 _ rfl
  have g2 : DataW.trod enc Try.prog w base spare held n 3 (List.take (Try.prog.cellsOf 3) (List.drop 2 [c0, c1, c2, c3, c4])) = some y2 := hg 2 _ rfl
  have g3 : DataW.trod enc Try.prog w base spare held n 3 (List.take (Try.prog.cellsOf 3) (List.drop 3 [c0, c1, c2, c3, c4])) = some y3 := hg 3 _ rfl
  have g4 : DataW.trod enc Try.prog w base spare held n 9 (List.take (Try.prog.cellsOf 9) (List.drop 4 [c0, c1, c2, c3, c4])) = some y4 := hg 4 _ rfl
  rw [cells3] at g0
  rw [cells3] at g1
  rw [cells3] at g2
  rw [cells3] at g3
  rw [cells9] at g4
  obtain ⟨n0, e0, w0⟩ := opens_int Try.underlying3 enc w base spare held n _ _ g0
  obtain ⟨n1, e1, w1⟩ := opens_int Try.underlying3 enc w base spare held n _ _ g1
  obtain ⟨n2, e2, w2⟩ := opens_int Try.underlying3 enc w base spare held n _ _ g2
  obtain ⟨n3, e3, w3⟩ := opens_int Try.underlying3 enc w base spare held n _ _ g3
  obtain ⟨n4, e4, w4⟩ := opens_string Try.underlying9 enc w base spare held n _ _ g4
  exact ⟨⟨n0, n1, n2, n3, n4⟩, ⟨_, [c1, c2, c3, c4], rfl, e0, _, [c2, c3, c4], rfl, e1, _, [c3, c4], rfl, e2, _, [c4], rfl, e3, e4⟩, w0, w1, w2, w3, w4⟩
theorem opens114 : Opens k114 114 (fun r => (wf64 r.f0.f0 ∧ wf64 r.f0.f1 ∧ wf64 r.f0.f2 ∧ wf64 r.f0.f3) ∧ r.f1.size ≤ maxLen) := by
  intro H enc w base spare held fuel cs x h
  obtain ⟨xs, n, _, _, hc, hlen, hg⟩ := DataW.trod_struct Try.underlying114 h
  rw [cells114] at hc
  obtain ⟨c0, c1, c2, c3, c4, rfl⟩ := len5 hc
  obtain ⟨y0, y1, rfl⟩ := len2 hlen
  have g0 : DataW.trod enc Try.prog w base spare held n 43 (List.take (Try.prog.cellsOf 43) (List.drop 0 [c0, c1, c2, c3, c4])) = some y0 := hg 0 _ rfl
  have g1 : DataW.trod enc Try.prog w base spare held n 9 (List.take (Try.prog.cellsOf 9) (List.drop 4 [c0, c1, c2, c3, c4])) = some y1 := hg 1 _ rfl
  rw [cells43] at g0
  rw [cells9] at g1
  obtain ⟨n0, e0, w0⟩ := opens43 enc w base spare held n _ _ g0
  obtain ⟨n1, e1, w1⟩ := opens_string Try.underlying9 enc w base spare held n _ _ g1
  exact ⟨⟨n0, n1⟩, ⟨[c0, c1, c2, c3], [c4], rfl, e0, e1⟩, w0, w1⟩
/-- A slice argument. -/
theorem open_rows {α : Type} {d : Kd α} {t e : TypeId} {ok : α → Prop} (ht : Try.prog.underlying t = some (.slice e)) (hC : Try.prog.cellsOf e = d.sz) (h : Opens d e ok) {H : Type} {enc : TypeId × Value → H} {w : World} {base : Nat} {spare : Nat → Bool} {held : Bool} {A : Option Addr} {len cap : Nat} {y : DataW H} {p : List MemPlace}
    (hr : DataW.Trod enc Try.prog w base spare held t (.slice A len cap) y p) : ∃ l : List α, len = l.length ∧ l.length ≤ cap ∧ d.C w A l.length l ∧ l.length ≤ maxLen ∧ ∀ x ∈ l, ok x := by
  obtain ⟨fuel, hf⟩ := hr
  obtain ⟨l, hk, ho⟩ := opens_slice ht hC h enc w base spare held fuel _ _ hf
  obtain ⟨A', c', e', hc, hC'⟩ := hk
  have e2 : [Value.slice A len cap] = [Value.slice A' l.length c'] := by simpa [Value.cells] using e'
  injection e2 with e2
  injection e2 with e3 e4 e5
  subst e3; subst e4; subst e5
  exact ⟨l, rfl, hc, hC', ho.1, ho.2⟩
set_option maxRecDepth 100000 in
/-- A picture by value. -/
theorem open_picture {H : Type} {enc : TypeId × Value → H} {w : World} {base b0 : Nat} {r : Reach} {spare : Nat → Bool} {held : Bool} {v : Value} {y : DataW H} {p : List MemPlace} (hv : Value.okWide Try.prog w r b0 49 v) (hr : DataW.Trod enc Try.prog w base spare held 49 v y p) :
    ∃ a b c d s, v = .agg #[.int .i64 a, .int .i64 b, .int .i64 c, .int .i64 d, .string s] ∧ wf64 a ∧ wf64 b ∧ wf64 c ∧ wf64 d ∧ s.size ≤ maxLen := by
  obtain ⟨cs, rfl, hsz⟩ := okWide_struct Try.underlying49 hv
  obtain ⟨fuel, hf⟩ := hr
  obtain ⟨q, hk, ho⟩ := opens49 enc w base spare held fuel _ _ hf
  obtain ⟨c0, r0, e0, h0, c1, r1, e1, h1, c2, r2, e2, h2, c3, r3, e3, h3, h4⟩ := hk
  have h0' : c0 = [.int .i64 q.f0] := h0
  have h1' : c1 = [.int .i64 q.f1] := h1
  have h2' : c2 = [.int .i64 q.f2] := h2
  have h3' : c3 = [.int .i64 q.f3] := h3
  have h4' : r3 = [.string q.f4] := h4
  subst e1; subst h0'
  refine ⟨q.f0, q.f1, q.f2, q.f3, q.f4, ?_, ho⟩
  rw [e2, e3, h1', h2', h3', h4'] at e0
  obtain ⟨l⟩ := cs
  have e0' : l = _ := e0
  rw [e0']
  rfl
end Go.Proofs.Ytenaegjiggodkaa.PV
