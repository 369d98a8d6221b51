/- Walks of geom: what its functions tell of rectangles. -/
import Derived.Test.YtkahhglgebhfbaaProg
import Derived.WalkKit
import Derived.WalkSpells
import Derived.WalkLawsBesides
import Derived.Deep.QuietTactic
import Derived.BigQuiet
import Derived.Deep.RegionHeld3
import Derived.Deep.DeepCutAuto
import Derived.Deep.DrawnRows
import Derived.KernelRfl
import Derived.Lib.Hide
namespace Go.Proofs.Ytkahhglgebhfbaa
open Go.RowKit
set_option linter.unusedSimpArgs false
set_option linter.unusedVariables false

theorem bcell {W w1 : World} (hb : Below W.heap.size W w1) : (∀ b o, b < W.heap.size → w1.cell? ⟨b, o, none⟩ = W.cell? ⟨b, o, none⟩) ∧ (∀ b o, b < W.heap.size → w1.frozen? ⟨b, o, none⟩ = W.frozen? ⟨b, o, none⟩) :=
  ⟨fun b o h => hb.cell (p := ⟨b, o, none⟩) h, fun b o h => hb.frozen (p := ⟨b, o, none⟩) h⟩
theorem below_call {w W w1 : World} (h : Below w.heap.size w W) (hb : Below W.heap.size W w1) : Below w.heap.size w w1 := h.trans (hb.mono h.size)
theorem below_al {w W : World} (h : Below w.heap.size w W) (o : Obj) : Below w.heap.size w (W.alloc o) := h.alloc h.size o
theorem below_dr {w W : World} (h : Below w.heap.size w W) : Below w.heap.size w W.drew := h.drew
theorem below_dn {w W : World} (h : Below w.heap.size w W) (n : Nat) : Below w.heap.size w (W.drewN n) := ⟨h.os, h.tape, h.output, h.size, h.block⟩
theorem below_set {w W : World} (h : Below w.heap.size w W) {p : Addr} (hp : w.heap.size ≤ p.block) (u : Value) : Below w.heap.size w (W.setCell p u) := h.setCell hp u

structure Blk (w : World) (g : Nat) (t : TypeId) (cs : Array Value) : Prop where mk :: (out : w.heap[g]? = some (.cells cs t (0, 0)))
section
variable {w w' : World} {g : Nat} {t : TypeId} {cs : Array Value}
theorem Blk.lt (h : Blk w g t cs) : g < w.heap.size := by
  rcases Nat.lt_or_ge g w.heap.size with hlt | hge
  · exact hlt
  · have h := h.out; rw [Array.getElem?_eq_none hge] at h; cases h
theorem Blk.cell (h : Blk w g t cs) : ∀ i, w.cell? ⟨g, i, none⟩ = cs[i]? := fun i => cell_of_row w g i cs t (0, 0) h.out
theorem Blk.frozen (h : Blk w g t cs) : ∀ i, w.frozen? ⟨g, i, none⟩ = false := by
  intro i
  have h := h.out
  simp [World.frozen?, h]
theorem Blk.new' (w : World) (t : TypeId) (cs : Array Value) {g : Nat} (h : g = w.heap.size) : Blk (w.alloc (.cells cs t)) g t cs := by subst h; exact ⟨heap_alloc_new w _⟩
theorem Blk.drew (h : Blk w g t cs) : Blk w.drew g t cs := ⟨h.out⟩
theorem Blk.drewN (h : Blk w g t cs) (n : Nat) : Blk (w.drewN n) g t cs := ⟨h.out⟩
theorem Blk.alloc (h : Blk w g t cs) (o : Obj) : Blk (w.alloc o) g t cs := ⟨(Below.heap_alloc w o g h.lt).trans h.out⟩
theorem Blk.set_ (h : Blk w g t cs) (i : Nat) (u : Value) : Blk (w.setCell ⟨g, i, none⟩ u) g t (cs.setIfInBounds i u) := by
  have h := h.out
  exact ⟨by simp [World.setCell, Array.getElem?_modify, h]⟩
theorem Blk.set2 {a b u v : Value} (h : Blk w g t #[a, b]) : Blk ((w.setCell ⟨g, 0, none⟩ u).setCell ⟨g, 1, none⟩ v) g t #[u, v] := (h.set_ 0 u).set_ 1 v
theorem Blk.set4 {a b c d u v x y : Value} (h : Blk w g t #[a, b, c, d]) : Blk ((((w.setCell ⟨g, 0, none⟩ u).setCell ⟨g, 1, none⟩ v).setCell ⟨g, 2, none⟩ x).setCell ⟨g, 3, none⟩ y) g t #[u, v, x, y] := (((h.set_ 0 u).set_ 1 v).set_ 2 x).set_ 3 y
theorem Blk.set2e {u v : Value} (h : ∃ cs, Blk w g t cs ∧ cs.size = 2) : Blk ((w.setCell ⟨g, 0, none⟩ u).setCell ⟨g, 1, none⟩ v) g t #[u, v] := by
  obtain ⟨⟨cs⟩, h, hs⟩ := h
  match cs, hs with
  | [a, b], _ => exact h.set2
theorem Blk.set4e {u v x y : Value} (h : ∃ cs, Blk w g t cs ∧ cs.size = 4) : Blk ((((w.setCell ⟨g, 0, none⟩ u).setCell ⟨g, 1, none⟩ v).setCell ⟨g, 2, none⟩ x).setCell ⟨g, 3, none⟩ y) g t #[u, v, x, y] := by
  obtain ⟨⟨cs⟩, h, hs⟩ := h
  match cs, hs with
  | [a, b, c, d], _ => exact h.set4
theorem Blk.far (h : Blk w g t cs) {p : Addr} (hp : g ≠ p.block) (u : Value) : Blk (w.setCell p u) g t cs := ⟨(Below.heap_setCell w p u g hp).trans h.out⟩
theorem Blk.below {B : Nat} (h : Blk w g t cs) (hb : Below B w w') (hg : g < B) : Blk w' g t cs := ⟨(hb.block g hg).trans h.out⟩
theorem Blk.call (h : Blk w g t cs) (hb : Below w.heap.size w w') : Blk w' g t cs := ⟨(hb.block g h.lt).trans h.out⟩
end
theorem Blk.use {Q : Prop} {w : World} {g : Nat} {t : TypeId} {cs : Array Value} (h : Blk w g t cs) (k : Blk w g t cs → (∀ i, w.cell? ⟨g, i, none⟩ = cs[i]?) → (∀ i, w.frozen? ⟨g, i, none⟩ = false) → g < w.heap.size → g ≤ w.heap.size → g ≤ w.heap.size + 1 → Q) : Q := k h h.cell h.frozen h.lt (Nat.le_of_lt h.lt) (by have := h.lt; omega)
theorem ret_bool {a b : Bool} (h : a = b) : Ending.returned (.bool a) = .returned (.bool b) := by rw [h]
theorem bool_eq {a b : Bool} (h : a = true ↔ b = true) : a = b := by cases a <;> cases b <;> simp_all

theorem max_ints (ats : Array TypeId) (ty : TypeId) (k k' : IntKind) (x y : Int) : Builtin.max_ ats ty #[.int k x, .int k' y] = (pure (.int k (max x y)) : Sem Value) := by
  have e : max x y = if x < y then y else x := by split <;> omega
  rw [e]; simp only [Builtin.max_, List.foldlM_cons, List.foldlM_nil, Builtin.max2, gt_iff_lt]; rfl
theorem min_ints (ats : Array TypeId) (ty : TypeId) (k k' : IntKind) (x y : Int) : Builtin.min_ ats ty #[.int k x, .int k' y] = (pure (.int k (min x y)) : Sem Value) := by
  have e : min x y = if y < x then y else x := by split <;> omega
  rw [e]; simp only [Builtin.min_, List.foldlM_cons, List.foldlM_nil, Builtin.min2]; rfl

/-- A row of places lies on the plane. -/
def sideB (a n : Int) : Bool := decide (-32768 ≤ a ∧ a ≤ 32767 ∧ 0 ≤ n ∧ n ≤ 32768 - a)
def rightB (x y w h : Int) : Bool := sideB x w && sideB y h
def emptyB (x y w h : Int) : Bool := !rightB x y w h || w == 0 || h == 0

set_option maxHeartbeats 400000 in
theorem side_any (a n : Int) (w : World) : Calls Try.prog 88 #[.int .i64 a, .int .i64 n] w fun e w' => e = .returned (.bool (sideB a n)) ∧ w = w' := by
  go_enter Try.func88, Try.ntmps88
  go_wp2
  all_goals (go_ret; refine ⟨ret_bool (bool_eq ?_), rfl⟩; simp only [sideB, decide_eq_true_eq, Bool.false_eq_true, false_iff]; omega)

set_option maxHeartbeats 400000 in
theorem right_any (x y n m : Int) (w : World) : Calls Try.prog 51 #[.agg #[.int .i64 x, .int .i64 y, .int .i64 n, .int .i64 m]] w fun e w' => e = .returned (.bool (rightB x y n m)) ∧ Below w.heap.size w w' := by
  go_enter Try.func51, Try.ntmps51
  go_wp2_with (go_at_call 88; refine (side_any _ _ _).mono ?_; rintro e w' ⟨rfl, rfl⟩)
  all_goals (go_ret; refine ⟨ret_bool ?_, by (repeat (first | (with_reducible exact Below.refl _ _) | (with_reducible refine below_al ?_ _) | (with_reducible refine below_dr ?_) | (with_reducible refine below_dn ?_ _) | (with_reducible refine below_set ?_ (by first | rfl | (simp; done) | (simp; omega)) _) | (with_reducible refine below_call ?_ (by with_reducible assumption))))⟩; simp [rightB, *])

set_option maxHeartbeats 400000 in
theorem empty_any (x y n m : Int) (w : World) : Calls Try.prog 37 #[.agg #[.int .i64 x, .int .i64 y, .int .i64 n, .int .i64 m]] w fun e w' => e = .returned (.bool (emptyB x y n m)) ∧ Below w.heap.size w w' := by
  go_enter Try.func37, Try.ntmps37
  go_wp2_with (go_at_call 51; refine (right_any _ _ _ _ _).mono ?_; rintro e w1 ⟨rfl, hb_w1⟩; have hz_w1 := hb_w1.size; (try simp only [World.size_alloc, World.size_setCell, World.size_drew, World.heap_drewN] at hz_w1); (try ((refine Blk.use (w := w1) (g := w.heap.size) (t := 23) (cs := #[.int .i64 x, .int .i64 y, .int .i64 n, .int .i64 m]) ?hblk (fun hk0_w1 hc0_w1 hf0_w1 hl0_w1 hm0_w1 hn0_w1 => ?_)); (case hblk => ((repeat (first | (with_reducible assumption) | (with_reducible refine Blk.drew ?_) | (with_reducible refine Blk.drewN ?_ _) | (with_reducible exact Blk.new' _ _ _ (by first | rfl | (simp; done) | (simp; omega))) | (with_reducible refine Blk.alloc ?_ _) | ((with_reducible refine Blk.set2e ?_); exact ⟨_, by with_reducible assumption, rfl⟩) | ((with_reducible refine Blk.set4e ?_); exact ⟨_, by with_reducible assumption, rfl⟩) | (with_reducible refine Blk.call ?_ (by with_reducible assumption)) | (with_reducible refine Blk.chg ?_ (by with_reducible assumption) (by first | assumption | (simp; omega) | omega)) | (with_reducible refine Blk.far ?_ (by first | rfl | (simp; done) | (simp; omega)) _))); done)))))
  all_goals (go_ret; refine ⟨ret_bool ?_, by (repeat (first | (with_reducible exact Below.refl _ _) | (with_reducible refine below_al ?_ _) | (with_reducible refine below_dr ?_) | (with_reducible refine below_dn ?_ _) | (with_reducible refine below_set ?_ (by first | rfl | (simp; done) | (simp; omega)) _) | (with_reducible refine below_call ?_ (by with_reducible assumption))))⟩; simp_all [emptyB])

set_option maxHeartbeats 400000 in
theorem end_any (x y n m : Int) (w : World) : Calls Try.prog 71 #[.agg #[.int .i64 x, .int .i64 y, .int .i64 n, .int .i64 m]] w fun e w' => e = .returned (.agg #[.int .i64 (wrap64 (x + n)), .int .i64 (wrap64 (y + m))]) ∧ Below w.heap.size w w' := by
  go_enter Try.func71, Try.ntmps71
  go_wp2
  refine bodyPost_ret (v := .agg #[.int .i64 (wrap64 (x + n)), .int .i64 (wrap64 (y + m))]) (by simp [results, Try.results71, go_sem]) rfl ⟨rfl, by (repeat (first | (with_reducible exact Below.refl _ _) | (with_reducible refine below_al ?_ _) | (with_reducible refine below_dr ?_) | (with_reducible refine below_dn ?_ _) | (with_reducible refine below_set ?_ (by first | rfl | (simp; done) | (simp; omega)) _) | (with_reducible refine below_call ?_ (by with_reducible assumption))))⟩

/-- The rectangle from one place up to ahead of another one. -/
def btwR (x y u v : Int) : Int × Int × Int × Int := if x ≥ u ∨ y ≥ v ∨ emptyB x y (wrap64 (u - x)) (wrap64 (v - y)) = true then (0, 0, 0, 0) else (x, y, wrap64 (u - x), wrap64 (v - y))

set_option maxHeartbeats 400000 in
theorem between_any (x y u v : Int) (w : World) : Calls Try.prog 72 #[.agg #[.int .i64 x, .int .i64 y], .agg #[.int .i64 u, .int .i64 v]] w fun e w' =>
    e = .returned (.agg #[.int .i64 (btwR x y u v).1, .int .i64 (btwR x y u v).2.1, .int .i64 (btwR x y u v).2.2.1, .int .i64 (btwR x y u v).2.2.2]) ∧ Below w.heap.size w w' := by
  go_enter Try.func72, Try.ntmps72
  go_wp2_with (go_at_call 37; refine (empty_any _ _ _ _ _).mono ?_; rintro e w1 ⟨rfl, hb_w1⟩; have hz_w1 := hb_w1.size; (try simp only [World.size_alloc, World.size_setCell, World.size_drew, World.heap_drewN] at hz_w1); (try ((refine Blk.use (w := w1) (g := w.heap.size) (t := 47) (cs := #[.int .i64 x, .int .i64 y]) ?hblk (fun hk0_w1 hc0_w1 hf0_w1 hl0_w1 hm0_w1 hn0_w1 => ?_)); (case hblk => ((repeat (first | (with_reducible assumption) | (with_reducible refine Blk.drew ?_) | (with_reducible refine Blk.drewN ?_ _) | (with_reducible exact Blk.new' _ _ _ (by first | rfl | (simp; done) | (simp; omega))) | (with_reducible refine Blk.alloc ?_ _) | ((with_reducible refine Blk.set2e ?_); exact ⟨_, by with_reducible assumption, rfl⟩) | ((with_reducible refine Blk.set4e ?_); exact ⟨_, by with_reducible assumption, rfl⟩) | (with_reducible refine Blk.call ?_ (by with_reducible assumption)) | (with_reducible refine Blk.chg ?_ (by with_reducible assumption) (by first | assumption | (simp; omega) | omega)) | (with_reducible refine Blk.far ?_ (by first | rfl | (simp; done) | (simp; omega)) _))); done)))); (try ((refine Blk.use (w := w1) (g := w.heap.size + 1) (t := 47) (cs := #[.int .i64 u, .int .i64 v]) ?hblk (fun hk1_w1 hc1_w1 hf1_w1 hl1_w1 hm1_w1 hn1_w1 => ?_)); (case hblk => ((repeat (first | (with_reducible assumption) | (with_reducible refine Blk.drew ?_) | (with_reducible refine Blk.drewN ?_ _) | (with_reducible exact Blk.new' _ _ _ (by first | rfl | (simp; done) | (simp; omega))) | (with_reducible refine Blk.alloc ?_ _) | ((with_reducible refine Blk.set2e ?_); exact ⟨_, by with_reducible assumption, rfl⟩) | ((with_reducible refine Blk.set4e ?_); exact ⟨_, by with_reducible assumption, rfl⟩) | (with_reducible refine Blk.call ?_ (by with_reducible assumption)) | (with_reducible refine Blk.chg ?_ (by with_reducible assumption) (by first | assumption | (simp; omega) | omega)) | (with_reducible refine Blk.far ?_ (by first | rfl | (simp; done) | (simp; omega)) _))); done)))); (try ((refine Blk.use (w := w1) (g := w.heap.size + 1 + 1) (t := 23) (cs := #[.int .i64 0, .int .i64 0, .int .i64 0, .int .i64 0]) ?hblk (fun hk2_w1 hc2_w1 hf2_w1 hl2_w1 hm2_w1 hn2_w1 => ?_)); (case hblk => ((repeat (first | (with_reducible assumption) | (with_reducible refine Blk.drew ?_) | (with_reducible refine Blk.drewN ?_ _) | (with_reducible exact Blk.new' _ _ _ (by first | rfl | (simp; done) | (simp; omega))) | (with_reducible refine Blk.alloc ?_ _) | ((with_reducible refine Blk.set2e ?_); exact ⟨_, by with_reducible assumption, rfl⟩) | ((with_reducible refine Blk.set4e ?_); exact ⟨_, by with_reducible assumption, rfl⟩) | (with_reducible refine Blk.call ?_ (by with_reducible assumption)) | (with_reducible refine Blk.chg ?_ (by with_reducible assumption) (by first | assumption | (simp; omega) | omega)) | (with_reducible refine Blk.far ?_ (by first | rfl | (simp; done) | (simp; omega)) _))); done)))); (try ((refine Blk.use (w := w1) (g := w.heap.size + 1 + 1 + 1) (t := 23) (cs := #[.int .i64 x, .int .i64 y, .int .i64 (wrap64 (u - x)), .int .i64 (wrap64 (v - y))]) ?hblk (fun hk3_w1 hc3_w1 hf3_w1 hl3_w1 hm3_w1 hn3_w1 => ?_)); (case hblk => ((repeat (first | (with_reducible assumption) | (with_reducible refine Blk.drew ?_) | (with_reducible refine Blk.drewN ?_ _) | (with_reducible exact Blk.new' _ _ _ (by first | rfl | (simp; done) | (simp; omega))) | (with_reducible refine Blk.alloc ?_ _) | ((with_reducible refine Blk.set2e ?_); exact ⟨_, by with_reducible assumption, rfl⟩) | ((with_reducible refine Blk.set4e ?_); exact ⟨_, by with_reducible assumption, rfl⟩) | (with_reducible refine Blk.call ?_ (by with_reducible assumption)) | (with_reducible refine Blk.chg ?_ (by with_reducible assumption) (by first | assumption | (simp; omega) | omega)) | (with_reducible refine Blk.far ?_ (by first | rfl | (simp; done) | (simp; omega)) _))); done)))))
  all_goals (refine bodyPost_ret (v := .agg #[.int .i64 (btwR x y u v).1, .int .i64 (btwR x y u v).2.1, .int .i64 (btwR x y u v).2.2.1, .int .i64 (btwR x y u v).2.2.2]) ?_ rfl ⟨rfl, by (repeat (first | (with_reducible exact Below.refl _ _) | (with_reducible refine below_al ?_ _) | (with_reducible refine below_dr ?_) | (with_reducible refine below_dn ?_ _) | (with_reducible refine below_set ?_ (by first | rfl | (simp; done) | (simp; omega)) _) | (with_reducible refine below_call ?_ (by with_reducible assumption))))⟩)
  all_goals first
    | (have e : btwR x y u v = (0, 0, 0, 0) := if_pos (by first | exact Or.inl ‹_› | exact Or.inr (Or.inl ‹_›) | (rcases ‹(u ≤ x ∨ v ≤ y) ∨ _› with (h | h) | h <;> simp [h]))
       simp [results, Try.results72, go_sem, e, *]; done)
    | (have e : btwR x y u v = (x, y, wrap64 (u - x), wrap64 (v - y)) := if_neg (by simp_all; done)
       simp [results, Try.results72, go_sem, e, *]; done)
    | skip

end Go.Proofs.Ytkahhglgebhfbaa
