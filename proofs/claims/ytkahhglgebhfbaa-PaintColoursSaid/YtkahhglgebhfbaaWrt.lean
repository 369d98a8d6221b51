/- Walk of paint's write. -/
import Derived.Test.YtkahhglgebhfbaaWri
namespace Go.Proofs.Ytkahhglgebhfbaa
open Go.RowKit
set_option linter.unusedSimpArgs false
set_option linter.unusedVariables false
attribute [local go_sem] max_ints min_ints

/-- Does writing a name in a rectangle of a screen ink a place? -/
def wriB (ax ay aw ah x y n m : Int) (s : ByteArray) (u v : Int) : Bool :=
  !emptyB x y n m && (hasR (hereR ax ay aw ah x y n m) u v && inkB (x - ax + 2) (y - ay + (if m - 16 < 0 then m - 16 - 1 else m - 16).tdiv 2) (fitS s (n - 4)) u v)

theorem emptyB_right {x y n m : Int} (h : emptyB x y n m = false) : -32768 ≤ x ∧ x ≤ 32767 ∧ -32768 ≤ y ∧ y ≤ 32767 ∧ 0 ≤ n ∧ n ≤ 65536 ∧ 0 ≤ m ∧ m ≤ 65536 := by
  unfold emptyB rightB sideB at h
  simp at h
  omega
theorem rightB_right {x y n m : Int} (h : rightB x y n m = true) : -32768 ≤ x ∧ x ≤ 32767 ∧ -32768 ≤ y ∧ y ≤ 32767 ∧ 0 ≤ n ∧ n ≤ 65536 ∧ 0 ≤ m ∧ m ≤ 65536 := by
  unfold rightB sideB at h
  simp at h
  omega

theorem full_clip (W H : Nat) (hw : W ≤ 1024) (hh : H ≤ 1024) : ∃ cw ch : Nat, intR 0 0 W H 0 0 W H = (((0 : Nat) : Int), ((0 : Nat) : Int), (cw : Int), (ch : Int)) ∧ 0 + cw ≤ W ∧ 0 + ch ≤ H ∧ (W * H ≠ 0 → cw = W ∧ ch = H) := by
  have hr : rightB 0 0 W H = true := by unfold rightB sideB; simp; omega
  by_cases h0 : W = 0 ∨ H = 0
  · refine ⟨0, 0, ?_, by omega, by omega, fun h => ?_⟩
    · unfold intR
      rw [if_pos (.inl (by unfold emptyB; rw [hr]; simp; omega))]
      rfl
    · rcases h0 with rfl | rfl <;> simp at h
  · have he : emptyB 0 0 W H = false := by unfold emptyB; rw [hr]; simp; omega
    refine ⟨W, H, ?_, by omega, by omega, fun _ => ⟨rfl, rfl⟩⟩
    unfold intR
    rw [if_neg (by simp [he]), Int.zero_add, Int.zero_add, wrap64_id (a := (W : Int)) (by omega), wrap64_id (a := (H : Int)) (by omega), Int.max_self, Int.min_self, Int.min_self]
    unfold btwR
    rw [Int.sub_zero, Int.sub_zero, wrap64_id (a := (W : Int)) (by omega), wrap64_id (a := (H : Int)) (by omega), if_neg (by rw [he]; simp; omega)]
    rfl


set_option maxRecDepth 100000 in
set_option maxHeartbeats 2000000 in
theorem write_any (cb pb W H : Nat) (px : List Int) (ax ay x y n m : Int) (s : ByteArray) (w : World) (hcv : CvF w cb pb W H px) (hat : rightB ax ay W H = true) (hs : s.size ≤ maxLen) :
    Calls Try.prog 55 #[.agg #[.pointer (some ⟨cb, 0, none⟩), .int .i64 ax, .int .i64 ay, .int .i64 W, .int .i64 H], .agg #[.int .i64 x, .int .i64 y, .int .i64 n, .int .i64 m], .string s] w fun e w' =>
      e = .returned (.tuple #[]) ∧ CvF w' cb pb W H (paintP px (fun j => wriB ax ay W H x y n m s ((j % W : Nat) : Int) ((j / W : Nat) : Int)) 4294967295) ∧ Chg (fun k => k = pb ∨ k = cb) w w' := by
  obtain ⟨cw, ch, hcv, hfull⟩ := hcv
  cases he : emptyB x y n m with
  | true =>
    have hpx : paintP px (fun j => wriB ax ay W H x y n m s ((j % W : Nat) : Int) ((j / W : Nat) : Int)) 4294967295 = px := paintP_none _ _ _ (fun j _ => by unfold wriB; rw [he]; rfl)
    rw [hpx]
    have HC : Hid (Cv w cb pb W H 0 0 cw ch px) := Lib.hid hcv
    have HF := Lib.hid hfull
    clear hcv hfull hpx
    go_enter Try.func55, Try.ntmps55
    go_wp2_with (go_at_call 37; refine (empty_any _ _ _ _ _).mono ?_; rintro e w1 ⟨rfl, hb_w1⟩; have hz_w1 := hb_w1.size; (try simp only [World.size_alloc, World.size_setCell, World.size_drew, World.heap_drewN] at hz_w1); (try ((refine Blk.use (w := w1) (g := w.heap.size) (t := 108) (cs := #[.pointer (some ⟨cb, 0, none⟩), .int .i64 ax, .int .i64 ay, .int .i64 W, .int .i64 H]) ?hblk (fun hk0_w1 hc0_w1 hf0_w1 hl0_w1 hm0_w1 hn0_w1 => ?_)); (case hblk => ((repeat (first | (with_reducible assumption) | (with_reducible refine Blk.drew ?_) | (with_reducible refine Blk.drewN ?_ _) | (with_reducible exact Blk.new' _ _ _ (by first | rfl | (simp; done) | (simp; omega))) | (with_reducible refine Blk.alloc ?_ _) | ((with_reducible refine Blk.set2e ?_); exact ⟨_, by with_reducible assumption, rfl⟩) | ((with_reducible refine Blk.set4e ?_); exact ⟨_, by with_reducible assumption, rfl⟩) | (with_reducible refine Blk.set2 (a := .int .i64 0) (b := .int .i64 0) ?_) | (with_reducible refine Blk.set4 (a := .int .i64 0) (b := .int .i64 0) (c := .int .i64 0) (d := .int .i64 0) ?_) | (with_reducible refine Blk.call ?_ (by with_reducible assumption)) | (with_reducible refine Blk.chg ?_ (by with_reducible assumption) (by first | assumption | (simp; omega) | omega)) | (with_reducible refine Blk.far ?_ (by first | rfl | (simp; done) | (simp; omega)) _))); done)))); (try ((refine Blk.use (w := w1) (g := w.heap.size + 1) (t := 23) (cs := #[.int .i64 x, .int .i64 y, .int .i64 n, .int .i64 m]) ?hblk (fun hk1_w1 hc1_w1 hf1_w1 hl1_w1 hm1_w1 hn1_w1 => ?_)); (case hblk => ((repeat (first | (with_reducible assumption) | (with_reducible refine Blk.drew ?_) | (with_reducible refine Blk.drewN ?_ _) | (with_reducible exact Blk.new' _ _ _ (by first | rfl | (simp; done) | (simp; omega))) | (with_reducible refine Blk.alloc ?_ _) | ((with_reducible refine Blk.set2e ?_); exact ⟨_, by with_reducible assumption, rfl⟩) | ((with_reducible refine Blk.set4e ?_); exact ⟨_, by with_reducible assumption, rfl⟩) | (with_reducible refine Blk.set2 (a := .int .i64 0) (b := .int .i64 0) ?_) | (with_reducible refine Blk.set4 (a := .int .i64 0) (b := .int .i64 0) (c := .int .i64 0) (d := .int .i64 0) ?_) | (with_reducible refine Blk.call ?_ (by with_reducible assumption)) | (with_reducible refine Blk.chg ?_ (by with_reducible assumption) (by first | assumption | (simp; omega) | omega)) | (with_reducible refine Blk.far ?_ (by first | rfl | (simp; done) | (simp; omega)) _))); done)))))
    have hB : Below w.heap.size w w1 := by (repeat (first | (with_reducible exact Below.refl _ _) | (with_reducible refine below_al ?_ _) | (with_reducible refine below_dr ?_) | (with_reducible refine below_dn ?_ _) | (with_reducible refine below_set ?_ (by first | rfl | (simp; done) | (simp; omega)) _) | (with_reducible refine below_call ?_ (by with_reducible assumption))))
    refine bodyPost_ret (results_none rfl _ _ _) rfl ?_
    exact ⟨rfl, ⟨cw, ch, HC.out.below hB, HF.out⟩, Chg.of_below hB⟩
  | false =>
    obtain ⟨x1, y1, n1, m1, hI1, hx1, hy1, hin1⟩ := clip_of W H (hereR ax ay W H x y n m) hcv.wide hcv.high
    obtain ⟨cw2, ch2, hI2, hx2, hy2, hful2⟩ := full_clip W H hcv.wide hcv.high
    obtain ⟨r1, r2, r3, r4, r5, r6, r7, r8⟩ := emptyB_right he
    obtain ⟨a1, a2, a3, a4, a5, a6, a7, a8⟩ := rightB_right hat
    obtain ⟨D, hD, hDb⟩ : ∃ D, D = (if m - 16 < 0 then m - 16 - 1 else m - 16).tdiv 2 ∧ -100 ≤ D ∧ D ≤ 65536 := by
      refine ⟨_, rfl, ?_⟩
      split
      · rename_i h; rw [show m - 16 - 1 = -(17 - m) by omega, Int.neg_tdiv, Int.tdiv_eq_ediv_of_nonneg (by omega)]; omega
      · rename_i h; rw [Int.tdiv_eq_ediv_of_nonneg (by omega)]; omega
    have hfs : (fitS s (n - 4)).size ≤ maxLen := Nat.le_trans (fitS_size _ _) hs
    have HC : Hid (Cv w cb pb W H 0 0 cw ch px) := Lib.hid hcv
    have cH : ∀ V : World, Calls Try.prog 54 #[.agg #[.pointer (some ⟨cb, 0, none⟩), .int .i64 ax, .int .i64 ay, .int .i64 W, .int .i64 H], .agg #[.int .i64 x, .int .i64 y, .int .i64 n, .int .i64 m]] V fun e w' =>
      e = .returned (.agg #[.int .i64 (hereR ax ay W H x y n m).1, .int .i64 (hereR ax ay W H x y n m).2.1, .int .i64 (hereR ax ay W H x y n m).2.2.1, .int .i64 (hereR ax ay W H x y n m).2.2.2]) ∧ Below V.heap.size V w' := fun V => here_any cb ax ay W H x y n m V
    have cC1 : ∀ V : World, Cv V cb pb W H 0 0 cw ch px → Calls Try.prog 93 #[.pointer (some ⟨cb, 0, none⟩), .agg #[.int .i64 (hereR ax ay W H x y n m).1, .int .i64 (hereR ax ay W H x y n m).2.1, .int .i64 (hereR ax ay W H x y n m).2.2.1, .int .i64 (hereR ax ay W H x y n m).2.2.2]] V fun e w' =>
      e = .returned (.tuple #[]) ∧ Cv w' cb pb W H x1 y1 n1 m1 px ∧ Chg (· = cb) V w' := fun V h => clip_any cb pb W H 0 0 cw ch px _ _ _ _ x1 y1 n1 m1 V h hI1 hx1 hy1
    have cC2 : ∀ (V : World) (px' : List Int), Cv V cb pb W H x1 y1 n1 m1 px' → Calls Try.prog 93 #[.pointer (some ⟨cb, 0, none⟩), .agg #[.int .i64 0, .int .i64 0, .int .i64 W, .int .i64 H]] V fun e w' =>
      e = .returned (.tuple #[]) ∧ Cv w' cb pb W H 0 0 cw2 ch2 px' ∧ Chg (· = cb) V w' := fun V px' h => clip_any cb pb W H x1 y1 n1 m1 px' _ _ _ _ 0 0 cw2 ch2 V h hI2 hx2 hy2
    have cF : ∀ V : World, Calls Try.prog 95 #[.string s, .int .i64 (n - 4)] V fun e w' => e = .returned (.string (fitS s (n - 4))) ∧ V = w' := fun V => fit_any s (n - 4) V hs (by omega) (by omega)
    have cD : ∀ (V : World) (X Y : Int), X = x - ax + 2 → Y = y - ay + D → Cv V cb pb W H x1 y1 n1 m1 px → Calls Try.prog 94 #[.pointer (some ⟨cb, 0, none⟩), .agg #[.int .i64 X, .int .i64 Y], .string (fitS s (n - 4)), .int .u32 4294967295] V fun e w' =>
      e = .returned (.tuple #[]) ∧ Cv w' cb pb W H x1 y1 n1 m1 (paintP px (fun j => wriB ax ay W H x y n m s ((j % W : Nat) : Int) ((j / W : Nat) : Int)) 4294967295) ∧ Chg (· = pb) V w' := by
      intro V X Y hX hY h
      have h1 := draw_any cb pb W H x1 y1 n1 m1 px 4294967295 X Y (fitS s (n - 4)) V h hfs (by omega) (by omega) (by omega) (by omega)
      rw [paintP_congr (Q := fun j => wriB ax ay W H x y n m s ((j % W : Nat) : Int) ((j / W : Nat) : Int)) 4294967295 (fun j hj => ?_)] at h1
      · exact h1
      · unfold wriB
        rw [he, ← hD, ← hX, ← hY, hin1 j (by rw [← h.len]; exact hj)]; rfl
    have HF2 := Lib.hid hful2
    have KH := Lib.hid cH
    have K1 := Lib.hid cC1
    have K2 := Lib.hid cC2
    have KF := Lib.hid cF
    have KD := Lib.hid cD
    have HD := Lib.hid hD
    clear cH cC1 cC2 cF cD hD hful2 hin1 hI1 hI2 hx1 hx2 hy1 hy2 hfs hcv hfull
    have hcl := HC.out.hd.lt
    have hpl := HC.out.pix.lt
    have hneA : ¬ (fun k => k = cb) w.heap.size := by simp; omega
    have hneB : ¬ (fun k => k = cb) (w.heap.size + 1) := by simp; omega
    have hneP : ¬ (fun k => k = pb) w.heap.size := by simp; omega
    have hneQ : ¬ (fun k => k = pb) (w.heap.size + 1) := by simp; omega
    have hW0 : (0 : Int) ≤ W := by omega
    have hH0 : (0 : Int) ≤ H := by omega
    by_cases hdn : m - 16 < 0
    · rw [if_pos hdn] at HD
      go_enter Try.func55, Try.ntmps55
      go_upto_region 5 with (go_at_call 37; refine (empty_any _ _ _ _ _).mono ?_; rintro e w1 ⟨rfl, hb_w1⟩; have hz_w1 := hb_w1.size; (try simp only [World.size_alloc, World.size_setCell, World.size_drew, World.heap_drewN] at hz_w1); (try ((refine Blk.use (w := w1) (g := w.heap.size) (t := 108) (cs := #[.pointer (some ⟨cb, 0, none⟩), .int .i64 ax, .int .i64 ay, .int .i64 W, .int .i64 H]) ?hblk (fun hk0_w1 hc0_w1 hf0_w1 hl0_w1 hm0_w1 hn0_w1 => ?_)); (case hblk => ((repeat (first | (with_reducible assumption) | (with_reducible refine Blk.drew ?_) | (with_reducible refine Blk.drewN ?_ _) | (with_reducible exact Blk.new' _ _ _ (by first | rfl | (simp; done) | (simp; omega))) | (with_reducible refine Blk.alloc ?_ _) | ((with_reducible refine Blk.set2e ?_); exact ⟨_, by with_reducible assumption, rfl⟩) | ((with_reducible refine Blk.set4e ?_); exact ⟨_, by with_reducible assumption, rfl⟩) | (with_reducible refine Blk.set2 (a := .int .i64 0) (b := .int .i64 0) ?_) | (with_reducible refine Blk.set4 (a := .int .i64 0) (b := .int .i64 0) (c := .int .i64 0) (d := .int .i64 0) ?_) | (with_reducible refine Blk.call ?_ (by with_reducible assumption)) | (with_reducible refine Blk.chg ?_ (by with_reducible assumption) (by first | assumption | (simp; omega) | omega)) | (with_reducible refine Blk.far ?_ (by first | rfl | (simp; done) | (simp; omega)) _))); done)))); (try ((refine Blk.use (w := w1) (g := w.heap.size + 1) (t := 23) (cs := #[.int .i64 x, .int .i64 y, .int .i64 n, .int .i64 m]) ?hblk (fun hk1_w1 hc1_w1 hf1_w1 hl1_w1 hm1_w1 hn1_w1 => ?_)); (case hblk => ((repeat (first | (with_reducible assumption) | (with_reducible refine Blk.drew ?_) | (with_reducible refine Blk.drewN ?_ _) | (with_reducible exact Blk.new' _ _ _ (by first | rfl | (simp; done) | (simp; omega))) | (with_reducible refine Blk.alloc ?_ _) | ((with_reducible refine Blk.set2e ?_); exact ⟨_, by with_reducible assumption, rfl⟩) | ((with_reducible refine Blk.set4e ?_); exact ⟨_, by with_reducible assumption, rfl⟩) | (with_reducible refine Blk.set2 (a := .int .i64 0) (b := .int .i64 0) ?_) | (with_reducible refine Blk.set4 (a := .int .i64 0) (b := .int .i64 0) (c := .int .i64 0) (d := .int .i64 0) ?_) | (with_reducible refine Blk.call ?_ (by with_reducible assumption)) | (with_reducible refine Blk.chg ?_ (by with_reducible assumption) (by first | assumption | (simp; omega) | omega)) | (with_reducible refine Blk.far ?_ (by first | rfl | (simp; done) | (simp; omega)) _))); done)))))
      go_region_held3 (fun w' => (∀ i, w'.cell? ⟨w.heap.size, i, none⟩ = (#[.pointer (some ⟨cb, 0, none⟩), .int .i64 ax, .int .i64 ay, .int .i64 W, .int .i64 H] : Array Value)[i]?) ∧ (∀ i, w'.cell? ⟨w.heap.size + 1, i, none⟩ = (#[.int .i64 x, .int .i64 y, .int .i64 n, .int .i64 m] : Array Value)[i]?)) ((first | (refine ⟨?_, ?_⟩ <;> (first | ((refine Blk.cell (t := ?tt) ?hblk); (case hblk => ((repeat (first | (with_reducible assumption) | (with_reducible refine Blk.drew ?_) | (with_reducible refine Blk.drewN ?_ _) | (with_reducible exact Blk.new' _ _ _ (by first | rfl | (simp; done) | (simp; omega))) | (with_reducible refine Blk.alloc ?_ _) | ((with_reducible refine Blk.set2e ?_); exact ⟨_, by with_reducible assumption, rfl⟩) | ((with_reducible refine Blk.set4e ?_); exact ⟨_, by with_reducible assumption, rfl⟩) | (with_reducible refine Blk.set2 (a := .int .i64 0) (b := .int .i64 0) ?_) | (with_reducible refine Blk.set4 (a := .int .i64 0) (b := .int .i64 0) (c := .int .i64 0) (d := .int .i64 0) ?_) | (with_reducible refine Blk.call ?_ (by with_reducible assumption)) | (with_reducible refine Blk.chg ?_ (by with_reducible assumption) (by first | assumption | (simp; omega) | omega)) | (with_reducible refine Blk.far ?_ (by first | rfl | (simp; done) | (simp; omega)) _))); done))) | (go_simp; done) | (intro i; go_simp; done))) | exact ⟨fun i => (hk0_w2.chg hch3 hneA).cell i, fun i => (hk1_w2.chg hch3 hneB).cell i⟩))
        (first | (go_at_call 54; refine (KH.out _).mono ?_; rintro e w2 ⟨rfl, hb_w2⟩; have hz_w2 := hb_w2.size; (try simp only [World.size_alloc, World.size_setCell, World.size_drew, World.heap_drewN] at hz_w2); (try ((refine Blk.use (w := w2) (g := w.heap.size) (t := 108) (cs := #[.pointer (some ⟨cb, 0, none⟩), .int .i64 ax, .int .i64 ay, .int .i64 W, .int .i64 H]) ?hblk (fun hk0_w2 hc0_w2 hf0_w2 hl0_w2 hm0_w2 hn0_w2 => ?_)); (case hblk => ((repeat (first | (with_reducible assumption) | (with_reducible refine Blk.drew ?_) | (with_reducible refine Blk.drewN ?_ _) | (with_reducible exact Blk.new' _ _ _ (by first | rfl | (simp; done) | (simp; omega))) | (with_reducible refine Blk.alloc ?_ _) | ((with_reducible refine Blk.set2e ?_); exact ⟨_, by with_reducible assumption, rfl⟩) | ((with_reducible refine Blk.set4e ?_); exact ⟨_, by with_reducible assumption, rfl⟩) | (with_reducible refine Blk.set2 (a := .int .i64 0) (b := .int .i64 0) ?_) | (with_reducible refine Blk.set4 (a := .int .i64 0) (b := .int .i64 0) (c := .int .i64 0) (d := .int .i64 0) ?_) | (with_reducible refine Blk.call ?_ (by with_reducible assumption)) | (with_reducible refine Blk.chg ?_ (by with_reducible assumption) (by first | assumption | (simp; omega) | omega)) | (with_reducible refine Blk.far ?_ (by first | rfl | (simp; done) | (simp; omega)) _))); done)))); (try ((refine Blk.use (w := w2) (g := w.heap.size + 1) (t := 23) (cs := #[.int .i64 x, .int .i64 y, .int .i64 n, .int .i64 m]) ?hblk (fun hk1_w2 hc1_w2 hf1_w2 hl1_w2 hm1_w2 hn1_w2 => ?_)); (case hblk => ((repeat (first | (with_reducible assumption) | (with_reducible refine Blk.drew ?_) | (with_reducible refine Blk.drewN ?_ _) | (with_reducible exact Blk.new' _ _ _ (by first | rfl | (simp; done) | (simp; omega))) | (with_reducible refine Blk.alloc ?_ _) | ((with_reducible refine Blk.set2e ?_); exact ⟨_, by with_reducible assumption, rfl⟩) | ((with_reducible refine Blk.set4e ?_); exact ⟨_, by with_reducible assumption, rfl⟩) | (with_reducible refine Blk.set2 (a := .int .i64 0) (b := .int .i64 0) ?_) | (with_reducible refine Blk.set4 (a := .int .i64 0) (b := .int .i64 0) (c := .int .i64 0) (d := .int .i64 0) ?_) | (with_reducible refine Blk.call ?_ (by with_reducible assumption)) | (with_reducible refine Blk.chg ?_ (by with_reducible assumption) (by first | assumption | (simp; omega) | omega)) | (with_reducible refine Blk.far ?_ (by first | rfl | (simp; done) | (simp; omega)) _))); done))))) | ((go_at_call 93; refine (K1.out _ (HC.out.below (by (repeat (first | (with_reducible exact Below.refl _ _) | (with_reducible refine below_al ?_ _) | (with_reducible refine below_dr ?_) | (with_reducible refine below_dn ?_ _) | (with_reducible refine below_set ?_ (by first | rfl | (simp; done) | (simp; omega)) _) | (with_reducible refine below_call ?_ (by with_reducible assumption))))))).mono ?_; rintro e w3 ⟨rfl, hcv3, hch3⟩)))
      have CV3 := Lib.hid hcv3
      have hz3 := hch3.size
      have hB2 : Below w.heap.size w w2 := by (repeat (first | (with_reducible exact Below.refl _ _) | (with_reducible refine below_al ?_ _) | (with_reducible refine below_dr ?_) | (with_reducible refine below_dn ?_ _) | (with_reducible refine below_set ?_ (by first | rfl | (simp; done) | (simp; omega)) _) | (with_reducible refine below_call ?_ (by with_reducible assumption))))
      have hch := Lib.hid ((Chg.of_below (S := fun k => k = pb ∨ k = cb) hB2).call hch3 (fun _ _ h => .inr h))
      clear hcv3
      have hk0_w3 := hk0_w2.chg hch3 hneA
      have hk1_w3 := hk1_w2.chg hch3 hneB
      have hc0_w3 := hk0_w3.cell
      have hc1_w3 := hk1_w3.cell
      clear hch3
      obtain ⟨hDa, hDb⟩ := hDb
      have hq1 : IntKind.i64.wrap (x - ax) = x - ax := IntWalk.i64_in _ (by omega)
      have hq2 : IntKind.i64.wrap (x - ax + 2) = x - ax + 2 := IntWalk.i64_in _ (by omega)
      have hq3 : IntKind.i64.wrap (y - ay) = y - ay := IntWalk.i64_in _ (by omega)
      have hq4 : IntKind.i64.wrap ((m - 16 - 1).tdiv 2) = (m - 16 - 1).tdiv 2 := IntWalk.i64_in _ (by have := HD.out; rw [← this]; omega)
      have hq5 : IntKind.i64.wrap (y - ay + (m - 16 - 1).tdiv 2) = y - ay + (m - 16 - 1).tdiv 2 := IntWalk.i64_in _ (by have := HD.out; rw [← this]; omega)
      have hq6 : IntKind.i64.wrap (n - 4) = n - 4 := IntWalk.i64_in _ (by omega)
      have CV3d : Hid (Cv w3.drew cb pb W H x1 y1 n1 m1 px) := Lib.hid (CV3.out.drewN 1)
      have hk0_d : Blk w3.drew w.heap.size 108 #[.pointer (some ⟨cb, 0, none⟩), .int .i64 ax, .int .i64 ay, .int .i64 W, .int .i64 H] := hk0_w3.drewN 1
      have hk1_d : Blk w3.drew (w.heap.size + 1) 23 #[.int .i64 x, .int .i64 y, .int .i64 n, .int .i64 m] := hk1_w3.drewN 1
      go_upto_region 6 with fail
      go_region_held3 (fun w' => (∀ i, w'.cell? ⟨w.heap.size, i, none⟩ = (#[.pointer (some ⟨cb, 0, none⟩), .int .i64 ax, .int .i64 ay, .int .i64 W, .int .i64 H] : Array Value)[i]?) ∧ (∀ i, w'.cell? ⟨w.heap.size + 1, i, none⟩ = (#[.int .i64 x, .int .i64 y, .int .i64 n, .int .i64 m] : Array Value)[i]?)) ((first | (refine ⟨?_, ?_⟩ <;> (first | ((refine Blk.cell (t := ?tt) ?hblk); (case hblk => ((repeat (first | (with_reducible assumption) | (with_reducible refine Blk.drew ?_) | (with_reducible refine Blk.drewN ?_ _) | (with_reducible exact Blk.new' _ _ _ (by first | rfl | (simp; done) | (simp; omega))) | (with_reducible refine Blk.alloc ?_ _) | ((with_reducible refine Blk.set2e ?_); exact ⟨_, by with_reducible assumption, rfl⟩) | ((with_reducible refine Blk.set4e ?_); exact ⟨_, by with_reducible assumption, rfl⟩) | (with_reducible refine Blk.set2 (a := .int .i64 0) (b := .int .i64 0) ?_) | (with_reducible refine Blk.set4 (a := .int .i64 0) (b := .int .i64 0) (c := .int .i64 0) (d := .int .i64 0) ?_) | (with_reducible refine Blk.call ?_ (by with_reducible assumption)) | (with_reducible refine Blk.chg ?_ (by with_reducible assumption) (by first | assumption | (simp; omega) | omega)) | (with_reducible refine Blk.far ?_ (by first | rfl | (simp; done) | (simp; omega)) _))); done))) | (go_simp; done) | (intro i; go_simp; done))) | exact ⟨fun i => (hk0_d.chg hch4 hneP).cell i, fun i => (hk1_d.chg hch4 hneQ).cell i⟩ | exact ⟨fun i => hk0_d.cell i, fun i => hk1_d.cell i⟩))
        (first | (go_at_call 95; refine (KF.out _).mono ?_; rintro e w' ⟨rfl, rfl⟩) | ((go_at_call 94; refine (KD.out w3.drew (x - ax + 2) (y - ay + (m - 16 - 1).tdiv 2) rfl (by rw [HD.out]) CV3d.out).mono ?_; rintro e w4 ⟨rfl, hcv4, hch4⟩)))
      have hch5 := Lib.hid ((hch.out.drewN 1).call hch4 (fun _ _ h => .inl h))
      have hk0_w4 := hk0_d.chg hch4 hneP
      have hk1_w4 := hk1_d.chg hch4 hneQ
      have hc0_w4 := hk0_w4.cell
      have hc1_w4 := hk1_w4.cell
      have CV4 := Lib.hid hcv4
      clear hcv4 hq1 hq2 hq3 hq4 hq5 hq6 CV3 CV3d hch hch4
      go_wp2_with (go_at_call 93; refine (K2.out _ _ CV4.out).mono ?_; rintro e w5 ⟨rfl, hcv5, hch6⟩)
      go_end0
      exact ⟨rfl, ⟨cw2, ch2, hcv5, HF2.out⟩, hch5.out.call hch6 (fun _ _ h => .inr h)⟩
    · rw [if_neg hdn] at HD
      go_enter Try.func55, Try.ntmps55
      go_upto_region 5 with (go_at_call 37; refine (empty_any _ _ _ _ _).mono ?_; rintro e w1 ⟨rfl, hb_w1⟩; have hz_w1 := hb_w1.size; (try simp only [World.size_alloc, World.size_setCell, World.size_drew, World.heap_drewN] at hz_w1); (try ((refine Blk.use (w := w1) (g := w.heap.size) (t := 108) (cs := #[.pointer (some ⟨cb, 0, none⟩), .int .i64 ax, .int .i64 ay, .int .i64 W, .int .i64 H]) ?hblk (fun hk0_w1 hc0_w1 hf0_w1 hl0_w1 hm0_w1 hn0_w1 => ?_)); (case hblk => ((repeat (first | (with_reducible assumption) | (with_reducible refine Blk.drew ?_) | (with_reducible refine Blk.drewN ?_ _) | (with_reducible exact Blk.new' _ _ _ (by first | rfl | (simp; done) | (simp; omega))) | (with_reducible refine Blk.alloc ?_ _) | ((with_reducible refine Blk.set2e ?_); exact ⟨_, by with_reducible assumption, rfl⟩) | ((with_reducible refine Blk.set4e ?_); exact ⟨_, by with_reducible assumption, rfl⟩) | (with_reducible refine Blk.set2 (a := .int .i64 0) (b := .int .i64 0) ?_) | (with_reducible refine Blk.set4 (a := .int .i64 0) (b := .int .i64 0) (c := .int .i64 0) (d := .int .i64 0) ?_) | (with_reducible refine Blk.call ?_ (by with_reducible assumption)) | (with_reducible refine Blk.chg ?_ (by with_reducible assumption) (by first | assumption | (simp; omega) | omega)) | (with_reducible refine Blk.far ?_ (by first | rfl | (simp; done) | (simp; omega)) _))); done)))); (try ((refine Blk.use (w := w1) (g := w.heap.size + 1) (t := 23) (cs := #[.int .i64 x, .int .i64 y, .int .i64 n, .int .i64 m]) ?hblk (fun hk1_w1 hc1_w1 hf1_w1 hl1_w1 hm1_w1 hn1_w1 => ?_)); (case hblk => ((repeat (first | (with_reducible assumption) | (with_reducible refine Blk.drew ?_) | (with_reducible refine Blk.drewN ?_ _) | (with_reducible exact Blk.new' _ _ _ (by first | rfl | (simp; done) | (simp; omega))) | (with_reducible refine Blk.alloc ?_ _) | ((with_reducible refine Blk.set2e ?_); exact ⟨_, by with_reducible assumption, rfl⟩) | ((with_reducible refine Blk.set4e ?_); exact ⟨_, by with_reducible assumption, rfl⟩) | (with_reducible refine Blk.set2 (a := .int .i64 0) (b := .int .i64 0) ?_) | (with_reducible refine Blk.set4 (a := .int .i64 0) (b := .int .i64 0) (c := .int .i64 0) (d := .int .i64 0) ?_) | (with_reducible refine Blk.call ?_ (by with_reducible assumption)) | (with_reducible refine Blk.chg ?_ (by with_reducible assumption) (by first | assumption | (simp; omega) | omega)) | (with_reducible refine Blk.far ?_ (by first | rfl | (simp; done) | (simp; omega)) _))); done)))))
      go_region_held3 (fun w' => (∀ i, w'.cell? ⟨w.heap.size, i, none⟩ = (#[.pointer (some ⟨cb, 0, none⟩), .int .i64 ax, .int .i64 ay, .int .i64 W, .int .i64 H] : Array Value)[i]?) ∧ (∀ i, w'.cell? ⟨w.heap.size + 1, i, none⟩ = (#[.int .i64 x, .int .i64 y, .int .i64 n, .int .i64 m] : Array Value)[i]?)) ((first | (refine ⟨?_, ?_⟩ <;> (first | ((refine Blk.cell (t := ?tt) ?hblk); (case hblk => ((repeat (first | (with_reducible assumption) | (with_reducible refine Blk.drew ?_) | (with_reducible refine Blk.drewN ?_ _) | (with_reducible exact Blk.new' _ _ _ (by first | rfl | (simp; done) | (simp; omega))) | (with_reducible refine Blk.alloc ?_ _) | ((with_reducible refine Blk.set2e ?_); exact ⟨_, by with_reducible assumption, rfl⟩) | ((with_reducible refine Blk.set4e ?_); exact ⟨_, by with_reducible assumption, rfl⟩) | (with_reducible refine Blk.set2 (a := .int .i64 0) (b := .int .i64 0) ?_) | (with_reducible refine Blk.set4 (a := .int .i64 0) (b := .int .i64 0) (c := .int .i64 0) (d := .int .i64 0) ?_) | (with_reducible refine Blk.call ?_ (by with_reducible assumption)) | (with_reducible refine Blk.chg ?_ (by with_reducible assumption) (by first | assumption | (simp; omega) | omega)) | (with_reducible refine Blk.far ?_ (by first | rfl | (simp; done) | (simp; omega)) _))); done))) | (go_simp; done) | (intro i; go_simp; done))) | exact ⟨fun i => (hk0_w2.chg hch3 hneA).cell i, fun i => (hk1_w2.chg hch3 hneB).cell i⟩))
        (first | (go_at_call 54; refine (KH.out _).mono ?_; rintro e w2 ⟨rfl, hb_w2⟩; have hz_w2 := hb_w2.size; (try simp only [World.size_alloc, World.size_setCell, World.size_drew, World.heap_drewN] at hz_w2); (try ((refine Blk.use (w := w2) (g := w.heap.size) (t := 108) (cs := #[.pointer (some ⟨cb, 0, none⟩), .int .i64 ax, .int .i64 ay, .int .i64 W, .int .i64 H]) ?hblk (fun hk0_w2 hc0_w2 hf0_w2 hl0_w2 hm0_w2 hn0_w2 => ?_)); (case hblk => ((repeat (first | (with_reducible assumption) | (with_reducible refine Blk.drew ?_) | (with_reducible refine Blk.drewN ?_ _) | (with_reducible exact Blk.new' _ _ _ (by first | rfl | (simp; done) | (simp; omega))) | (with_reducible refine Blk.alloc ?_ _) | ((with_reducible refine Blk.set2e ?_); exact ⟨_, by with_reducible assumption, rfl⟩) | ((with_reducible refine Blk.set4e ?_); exact ⟨_, by with_reducible assumption, rfl⟩) | (with_reducible refine Blk.set2 (a := .int .i64 0) (b := .int .i64 0) ?_) | (with_reducible refine Blk.set4 (a := .int .i64 0) (b := .int .i64 0) (c := .int .i64 0) (d := .int .i64 0) ?_) | (with_reducible refine Blk.call ?_ (by with_reducible assumption)) | (with_reducible refine Blk.chg ?_ (by with_reducible assumption) (by first | assumption | (simp; omega) | omega)) | (with_reducible refine Blk.far ?_ (by first | rfl | (simp; done) | (simp; omega)) _))); done)))); (try ((refine Blk.use (w := w2) (g := w.heap.size + 1) (t := 23) (cs := #[.int .i64 x, .int .i64 y, .int .i64 n, .int .i64 m]) ?hblk (fun hk1_w2 hc1_w2 hf1_w2 hl1_w2 hm1_w2 hn1_w2 => ?_)); (case hblk => ((repeat (first | (with_reducible assumption) | (with_reducible refine Blk.drew ?_) | (with_reducible refine Blk.drewN ?_ _) | (with_reducible exact Blk.new' _ _ _ (by first | rfl | (simp; done) | (simp; omega))) | (with_reducible refine Blk.alloc ?_ _) | ((with_reducible refine Blk.set2e ?_); exact ⟨_, by with_reducible assumption, rfl⟩) | ((with_reducible refine Blk.set4e ?_); exact ⟨_, by with_reducible assumption, rfl⟩) | (with_reducible refine Blk.set2 (a := .int .i64 0) (b := .int .i64 0) ?_) | (with_reducible refine Blk.set4 (a := .int .i64 0) (b := .int .i64 0) (c := .int .i64 0) (d := .int .i64 0) ?_) | (with_reducible refine Blk.call ?_ (by with_reducible assumption)) | (with_reducible refine Blk.chg ?_ (by with_reducible assumption) (by first | assumption | (simp; omega) | omega)) | (with_reducible refine Blk.far ?_ (by first | rfl | (simp; done) | (simp; omega)) _))); done))))) | ((go_at_call 93; refine (K1.out _ (HC.out.below (by (repeat (first | (with_reducible exact Below.refl _ _) | (with_reducible refine below_al ?_ _) | (with_reducible refine below_dr ?_) | (with_reducible refine below_dn ?_ _) | (with_reducible refine below_set ?_ (by first | rfl | (simp; done) | (simp; omega)) _) | (with_reducible refine below_call ?_ (by with_reducible assumption))))))).mono ?_; rintro e w3 ⟨rfl, hcv3, hch3⟩)))
      have CV3 := Lib.hid hcv3
      have hz3 := hch3.size
      have hB2 : Below w.heap.size w w2 := by (repeat (first | (with_reducible exact Below.refl _ _) | (with_reducible refine below_al ?_ _) | (with_reducible refine below_dr ?_) | (with_reducible refine below_dn ?_ _) | (with_reducible refine below_set ?_ (by first | rfl | (simp; done) | (simp; omega)) _) | (with_reducible refine below_call ?_ (by with_reducible assumption))))
      have hch := Lib.hid ((Chg.of_below (S := fun k => k = pb ∨ k = cb) hB2).call hch3 (fun _ _ h => .inr h))
      clear hcv3
      have hk0_w3 := hk0_w2.chg hch3 hneA
      have hk1_w3 := hk1_w2.chg hch3 hneB
      have hc0_w3 := hk0_w3.cell
      have hc1_w3 := hk1_w3.cell
      clear hch3
      obtain ⟨hDa, hDb⟩ := hDb
      have hq1 : IntKind.i64.wrap (x - ax) = x - ax := IntWalk.i64_in _ (by omega)
      have hq2 : IntKind.i64.wrap (x - ax + 2) = x - ax + 2 := IntWalk.i64_in _ (by omega)
      have hq3 : IntKind.i64.wrap (y - ay) = y - ay := IntWalk.i64_in _ (by omega)
      have hq4 : IntKind.i64.wrap ((m - 16).tdiv 2) = (m - 16).tdiv 2 := IntWalk.i64_in _ (by have := HD.out; rw [← this]; omega)
      have hq5 : IntKind.i64.wrap (y - ay + (m - 16).tdiv 2) = y - ay + (m - 16).tdiv 2 := IntWalk.i64_in _ (by have := HD.out; rw [← this]; omega)
      have hq6 : IntKind.i64.wrap (n - 4) = n - 4 := IntWalk.i64_in _ (by omega)
      have CV3d : Hid (Cv w3.drew cb pb W H x1 y1 n1 m1 px) := Lib.hid (CV3.out.drewN 1)
      have hk0_d : Blk w3.drew w.heap.size 108 #[.pointer (some ⟨cb, 0, none⟩), .int .i64 ax, .int .i64 ay, .int .i64 W, .int .i64 H] := hk0_w3.drewN 1
      have hk1_d : Blk w3.drew (w.heap.size + 1) 23 #[.int .i64 x, .int .i64 y, .int .i64 n, .int .i64 m] := hk1_w3.drewN 1
      go_upto_region 6 with fail
      go_region_held3 (fun w' => (∀ i, w'.cell? ⟨w.heap.size, i, none⟩ = (#[.pointer (some ⟨cb, 0, none⟩), .int .i64 ax, .int .i64 ay, .int .i64 W, .int .i64 H] : Array Value)[i]?) ∧ (∀ i, w'.cell? ⟨w.heap.size + 1, i, none⟩ = (#[.int .i64 x, .int .i64 y, .int .i64 n, .int .i64 m] : Array Value)[i]?)) ((first | (refine ⟨?_, ?_⟩ <;> (first | ((refine Blk.cell (t := ?tt) ?hblk); (case hblk => ((repeat (first | (with_reducible assumption) | (with_reducible refine Blk.drew ?_) | (with_reducible refine Blk.drewN ?_ _) | (with_reducible exact Blk.new' _ _ _ (by first | rfl | (simp; done) | (simp; omega))) | (with_reducible refine Blk.alloc ?_ _) | ((with_reducible refine Blk.set2e ?_); exact ⟨_, by with_reducible assumption, rfl⟩) | ((with_reducible refine Blk.set4e ?_); exact ⟨_, by with_reducible assumption, rfl⟩) | (with_reducible refine Blk.set2 (a := .int .i64 0) (b := .int .i64 0) ?_) | (with_reducible refine Blk.set4 (a := .int .i64 0) (b := .int .i64 0) (c := .int .i64 0) (d := .int .i64 0) ?_) | (with_reducible refine Blk.call ?_ (by with_reducible assumption)) | (with_reducible refine Blk.chg ?_ (by with_reducible assumption) (by first | assumption | (simp; omega) | omega)) | (with_reducible refine Blk.far ?_ (by first | rfl | (simp; done) | (simp; omega)) _))); done))) | (go_simp; done) | (intro i; go_simp; done))) | exact ⟨fun i => (hk0_d.chg hch4 hneP).cell i, fun i => (hk1_d.chg hch4 hneQ).cell i⟩ | exact ⟨fun i => hk0_d.cell i, fun i => hk1_d.cell i⟩))
        (first | (go_at_call 95; refine (KF.out _).mono ?_; rintro e w' ⟨rfl, rfl⟩) | ((go_at_call 94; refine (KD.out w3.drew (x - ax + 2) (y - ay + (m - 16).tdiv 2) rfl (by rw [HD.out]) CV3d.out).mono ?_; rintro e w4 ⟨rfl, hcv4, hch4⟩)))
      have hch5 := Lib.hid ((hch.out.drewN 1).call hch4 (fun _ _ h => .inl h))
      have hk0_w4 := hk0_d.chg hch4 hneP
      have hk1_w4 := hk1_d.chg hch4 hneQ
      have hc0_w4 := hk0_w4.cell
      have hc1_w4 := hk1_w4.cell
      have CV4 := Lib.hid hcv4
      clear hcv4 hq1 hq2 hq3 hq4 hq5 hq6 CV3 CV3d hch hch4
      go_wp2_with (go_at_call 93; refine (K2.out _ _ CV4.out).mono ?_; rintro e w5 ⟨rfl, hcv5, hch6⟩)
      go_end0
      exact ⟨rfl, ⟨cw2, ch2, hcv5, HF2.out⟩, hch5.out.call hch6 (fun _ _ h => .inr h)⟩
end Go.Proofs.Ytkahhglgebhfbaa
