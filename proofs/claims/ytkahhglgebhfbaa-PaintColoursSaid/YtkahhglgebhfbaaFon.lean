/- Walks of font: signs, and texts that are cut. -/
import Derived.Test.YtkahhglgebhfbaaIma
namespace Go.Proofs.Ytkahhglgebhfbaa
open Go.RowKit
set_option linter.unusedSimpArgs false
set_option linter.unusedVariables false
attribute [local go_sem] max_ints min_ints

/-- Has a byte a sign of its own? -/
def signB (c : Int) : Bool := decide (32 < c ∧ c < 127)

set_option maxHeartbeats 400000 in
theorem sign_any (c : Int) (w : World) : Calls Try.prog 144 #[.int .u8 c] w fun e w' => e = .returned (.bool (signB c)) ∧ w = w' := by
  go_enter Try.func144, Try.ntmps144
  go_wp2
  all_goals (go_ret; refine ⟨ret_bool ?_, rfl⟩; unfold signB)
  all_goals first | (rw [decide_eq_decide]; omega) | (symm; rw [decide_eq_false_iff_not]; omega)

/-- A row of the sign that all others have. -/
def boxB (row : Int) : Int := if row = 2 ∨ row = 13 then 126 else if 2 < row ∧ row < 13 then 66 else 0

theorem ret_int {k : IntKind} {a b : Int} (h : a = b) : Ending.returned (.int k a) = .returned (.int k b) := by rw [h]

set_option maxHeartbeats 400000 in
theorem box_any (row : Int) (w : World) : Calls Try.prog 145 #[.int .i64 row] w fun e w' => e = .returned (.int .u8 (boxB row)) ∧ w = w' := by
  unfold boxB
  by_cases h2 : row = 2
  · subst h2
    go_enter Try.func145, Try.ntmps145
    go_wp2
    go_ret
    exact ⟨rfl, rfl⟩
  · by_cases h13 : row = 13
    · subst h13
      go_enter Try.func145, Try.ntmps145
      go_wp2
      go_ret
      exact ⟨rfl, rfl⟩
    · rw [if_neg (by omega)]
      have a2 : (row == 2) = false := by simpa using h2
      have a13 : (row == 13) = false := by simpa using h13
      clear h2 h13
      go_enter Try.func145, Try.ntmps145
      go_wp2
      all_goals (go_ret; refine ⟨ret_int ?_, rfl⟩)
      all_goals first | rfl | omega | (split <;> omega)

/-- A row of a sign of its own. -/
def bigB (c row : Int) : Int := Go.bits .or .u8 (Go.bits .and .i64 (wrap64 (c * 31 + row * 53 + wrap64 (c / 8 * row))) 126 % 256) (2 ^ (1 + (c + row) % 6).toNat % 256)
/-- A row of a byte's sign. -/
def fontB (c row : Int) : Int := if c = 32 then 0 else if signB c = false then boxB row else if row = 0 ∨ row = 15 then 0 else bigB c row

set_option maxHeartbeats 1000000 in
theorem bits_any (c row : Int) (w : World) (hc0 : 0 ≤ c) (hc1 : c ≤ 255) (hr0 : 0 ≤ row) (hr1 : row ≤ 15) : Calls Try.prog 123 #[.int .u8 c, .int .i64 row] w fun e w' => e = .returned (.int .u8 (fontB c row)) ∧ w = w' := by
  generalize hf : fontB c row = r
  have Hf := Lib.hid hf
  clear hf
  have g0 : decide (row < 0) = false := by simp; omega
  have g1 : decide (16 ≤ row) = false := by simp; omega
  by_cases h32 : c = 32
  · have e : r = 0 := by rw [← Hf.out]; exact if_pos h32
    have He := Lib.hid e
    clear e Hf
    subst h32
    go_enter Try.func123, Try.ntmps123
    go_wp2_with (first | (go_at_call 144; refine (sign_any _ _).mono ?_; rintro e w' ⟨rfl, rfl⟩) | (go_at_call 145; refine (box_any _ _).mono ?_; rintro e w' ⟨rfl, rfl⟩))
    go_ret
    exact ⟨ret_int He.out.symm, rfl⟩
  · have s1 : (c == 32) = false := by simpa using h32
    cases hs : signB c with
    | false =>
      have e : r = boxB row := by rw [← Hf.out]; unfold fontB; rw [if_neg h32, if_pos hs]
      have He := Lib.hid e
      clear e Hf h32
      go_enter Try.func123, Try.ntmps123
      go_wp2_with (first | (go_at_call 144; refine (sign_any _ _).mono ?_; rintro e w' ⟨rfl, rfl⟩) | (go_at_call 145; refine (box_any _ _).mono ?_; rintro e w' ⟨rfl, rfl⟩))
      go_ret
      exact ⟨ret_int He.out.symm, rfl⟩
    | true =>
      have hb : 32 < c ∧ c < 127 := by simpa [signB] using hs
      by_cases h0 : row = 0
      · have e : r = 0 := by rw [← Hf.out]; unfold fontB; rw [if_neg h32, if_neg (by simp [hs]), if_pos (.inl h0)]
        have He := Lib.hid e
        clear e Hf h32
        subst h0
        go_enter Try.func123, Try.ntmps123
        go_wp2_with (first | (go_at_call 144; refine (sign_any _ _).mono ?_; rintro e w' ⟨rfl, rfl⟩) | (go_at_call 145; refine (box_any _ _).mono ?_; rintro e w' ⟨rfl, rfl⟩))
        go_ret
        exact ⟨ret_int He.out.symm, rfl⟩
      · have s2 : (row == 0) = false := by simpa using h0
        by_cases h15 : row = 15
        · have e : r = 0 := by rw [← Hf.out]; unfold fontB; rw [if_neg h32, if_neg (by simp [hs]), if_pos (.inr h15)]
          have He := Lib.hid e
          clear e Hf h32 h0
          subst h15
          go_enter Try.func123, Try.ntmps123
          go_wp2_with (first | (go_at_call 144; refine (sign_any _ _).mono ?_; rintro e w' ⟨rfl, rfl⟩) | (go_at_call 145; refine (box_any _ _).mono ?_; rintro e w' ⟨rfl, rfl⟩))
          go_ret
          exact ⟨ret_int He.out.symm, rfl⟩
        · have s3 : (row == 15) = false := by simpa using h15
          have e : r = bigB c row := by rw [← Hf.out]; unfold fontB; rw [if_neg h32, if_neg (by simp [hs]), if_neg (by omega)]
          have He := Lib.hid e
          obtain ⟨hb0, hb1⟩ := hb
          clear e Hf h32 h0 h15
          go_enter Try.func123, Try.ntmps123
          go_wp2_with (first | (go_at_call 144; refine (sign_any _ _).mono ?_; rintro e w' ⟨rfl, rfl⟩) | (go_at_call 145; refine (box_any _ _).mono ?_; rintro e w' ⟨rfl, rfl⟩))
          go_ret
          exact ⟨ret_int He.out.symm, rfl⟩

/-- The rectangle of a place; none off the plane. -/
def dotR (x y : Int) : Int × Int × Int × Int := if rightB x y 1 1 = true then (x, y, 1, 1) else (0, 0, 0, 0)


set_option maxHeartbeats 1000000 in
theorem dot_any (x y : Int) (w : World) : Calls Try.prog 124 #[.int .i64 x, .int .i64 y] w fun e w' => e = .returned (.agg #[.int .i64 (dotR x y).1, .int .i64 (dotR x y).2.1, .int .i64 (dotR x y).2.2.1, .int .i64 (dotR x y).2.2.2]) ∧ Below w.heap.size w w' := by
  generalize hr : dotR x y = r
  have Hr := Lib.hid hr
  clear hr
  cases h : rightB x y 1 1 with
  | true =>
    have e : r = (x, y, 1, 1) := by rw [← Hr.out]; unfold dotR; rw [if_pos h]
    clear Hr
    subst e
    go_enter Try.func124, Try.ntmps124
    go_wp2_with (go_at_call 51; refine (right_any _ _ _ _ _).mono ?_; rintro e w1 ⟨rfl, hb_w1⟩; have hz_w1 := hb_w1.size; (try simp only [World.size_alloc, World.size_setCell, World.size_drew, World.heap_drewN] at hz_w1); (try ((refine Blk.use (w := w1) (g := w.heap.size) (t := 23) (cs := #[.int .i64 0, .int .i64 0, .int .i64 0, .int .i64 0]) ?hblk (fun hk0_w1 hc0_w1 hf0_w1 hl0_w1 hm0_w1 hn0_w1 => ?_)); (case hblk => ((repeat (first | (with_reducible assumption) | (with_reducible refine Blk.drew ?_) | (with_reducible refine Blk.drewN ?_ _) | (with_reducible exact Blk.new' _ _ _ (by first | rfl | (simp; done) | (simp; omega))) | (with_reducible refine Blk.alloc ?_ _) | ((with_reducible refine Blk.set2e ?_); exact ⟨_, by with_reducible assumption, rfl⟩) | ((with_reducible refine Blk.set4e ?_); exact ⟨_, by with_reducible assumption, rfl⟩) | (with_reducible refine Blk.set2 (a := .int .i64 0) (b := .int .i64 0) ?_) | (with_reducible refine Blk.set4 (a := .int .i64 0) (b := .int .i64 0) (c := .int .i64 0) (d := .int .i64 0) ?_) | (with_reducible refine Blk.call ?_ (by with_reducible assumption)) | (with_reducible refine Blk.chg ?_ (by with_reducible assumption) (by first | assumption | (simp; omega) | omega)) | (with_reducible refine Blk.far ?_ (by first | rfl | (simp; done) | (simp; omega)) _))); done)))); (try ((refine Blk.use (w := w1) (g := w.heap.size + 1) (t := 23) (cs := #[.int .i64 x, .int .i64 y, .int .i64 1, .int .i64 1]) ?hblk (fun hk1_w1 hc1_w1 hf1_w1 hl1_w1 hm1_w1 hn1_w1 => ?_)); (case hblk => ((repeat (first | (with_reducible assumption) | (with_reducible refine Blk.drew ?_) | (with_reducible refine Blk.drewN ?_ _) | (with_reducible exact Blk.new' _ _ _ (by first | rfl | (simp; done) | (simp; omega))) | (with_reducible refine Blk.alloc ?_ _) | ((with_reducible refine Blk.set2e ?_); exact ⟨_, by with_reducible assumption, rfl⟩) | ((with_reducible refine Blk.set4e ?_); exact ⟨_, by with_reducible assumption, rfl⟩) | (with_reducible refine Blk.set2 (a := .int .i64 0) (b := .int .i64 0) ?_) | (with_reducible refine Blk.set4 (a := .int .i64 0) (b := .int .i64 0) (c := .int .i64 0) (d := .int .i64 0) ?_) | (with_reducible refine Blk.call ?_ (by with_reducible assumption)) | (with_reducible refine Blk.chg ?_ (by with_reducible assumption) (by first | assumption | (simp; omega) | omega)) | (with_reducible refine Blk.far ?_ (by first | rfl | (simp; done) | (simp; omega)) _))); done)))))
    refine bodyPost_ret (v := .agg #[.int .i64 x, .int .i64 y, .int .i64 1, .int .i64 1]) (by simp [results, Try.results124, go_sem, *]) rfl ⟨rfl, by (repeat (first | (with_reducible exact Below.refl _ _) | (with_reducible refine below_al ?_ _) | (with_reducible refine below_dr ?_) | (with_reducible refine below_dn ?_ _) | (with_reducible refine below_set ?_ (by first | rfl | (simp; done) | (simp; omega)) _) | (with_reducible refine below_call ?_ (by with_reducible assumption))))⟩
  | false =>
    have e : r = (0, 0, 0, 0) := by rw [← Hr.out]; unfold dotR; rw [if_neg (by simp [h])]
    clear Hr
    subst e
    go_enter Try.func124, Try.ntmps124
    go_wp2_with (go_at_call 51; refine (right_any _ _ _ _ _).mono ?_; rintro e w1 ⟨rfl, hb_w1⟩; have hz_w1 := hb_w1.size; (try simp only [World.size_alloc, World.size_setCell, World.size_drew, World.heap_drewN] at hz_w1); (try ((refine Blk.use (w := w1) (g := w.heap.size) (t := 23) (cs := #[.int .i64 0, .int .i64 0, .int .i64 0, .int .i64 0]) ?hblk (fun hk0_w1 hc0_w1 hf0_w1 hl0_w1 hm0_w1 hn0_w1 => ?_)); (case hblk => ((repeat (first | (with_reducible assumption) | (with_reducible refine Blk.drew ?_) | (with_reducible refine Blk.drewN ?_ _) | (with_reducible exact Blk.new' _ _ _ (by first | rfl | (simp; done) | (simp; omega))) | (with_reducible refine Blk.alloc ?_ _) | ((with_reducible refine Blk.set2e ?_); exact ⟨_, by with_reducible assumption, rfl⟩) | ((with_reducible refine Blk.set4e ?_); exact ⟨_, by with_reducible assumption, rfl⟩) | (with_reducible refine Blk.set2 (a := .int .i64 0) (b := .int .i64 0) ?_) | (with_reducible refine Blk.set4 (a := .int .i64 0) (b := .int .i64 0) (c := .int .i64 0) (d := .int .i64 0) ?_) | (with_reducible refine Blk.call ?_ (by with_reducible assumption)) | (with_reducible refine Blk.chg ?_ (by with_reducible assumption) (by first | assumption | (simp; omega) | omega)) | (with_reducible refine Blk.far ?_ (by first | rfl | (simp; done) | (simp; omega)) _))); done)))); (try ((refine Blk.use (w := w1) (g := w.heap.size + 1) (t := 23) (cs := #[.int .i64 x, .int .i64 y, .int .i64 1, .int .i64 1]) ?hblk (fun hk1_w1 hc1_w1 hf1_w1 hl1_w1 hm1_w1 hn1_w1 => ?_)); (case hblk => ((repeat (first | (with_reducible assumption) | (with_reducible refine Blk.drew ?_) | (with_reducible refine Blk.drewN ?_ _) | (with_reducible exact Blk.new' _ _ _ (by first | rfl | (simp; done) | (simp; omega))) | (with_reducible refine Blk.alloc ?_ _) | ((with_reducible refine Blk.set2e ?_); exact ⟨_, by with_reducible assumption, rfl⟩) | ((with_reducible refine Blk.set4e ?_); exact ⟨_, by with_reducible assumption, rfl⟩) | (with_reducible refine Blk.set2 (a := .int .i64 0) (b := .int .i64 0) ?_) | (with_reducible refine Blk.set4 (a := .int .i64 0) (b := .int .i64 0) (c := .int .i64 0) (d := .int .i64 0) ?_) | (with_reducible refine Blk.call ?_ (by with_reducible assumption)) | (with_reducible refine Blk.chg ?_ (by with_reducible assumption) (by first | assumption | (simp; omega) | omega)) | (with_reducible refine Blk.far ?_ (by first | rfl | (simp; done) | (simp; omega)) _))); done)))))
    refine bodyPost_ret (v := .agg #[.int .i64 0, .int .i64 0, .int .i64 0, .int .i64 0]) (by simp [results, Try.results124, go_sem, *]) rfl ⟨rfl, by (repeat (first | (with_reducible exact Below.refl _ _) | (with_reducible refine below_al ?_ _) | (with_reducible refine below_dr ?_) | (with_reducible refine below_dn ?_ _) | (with_reducible refine below_set ?_ (by first | rfl | (simp; done) | (simp; omega)) _) | (with_reducible refine below_call ?_ (by with_reducible assumption))))⟩

end Go.Proofs.Ytkahhglgebhfbaa
