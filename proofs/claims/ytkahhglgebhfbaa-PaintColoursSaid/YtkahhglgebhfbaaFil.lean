/- Walks of raster's Fill, Clip, New and Image. -/
import Derived.Test.YtkahhglgebhfbaaEac
namespace Go.Proofs.Ytkahhglgebhfbaa
open Go.RowKit
set_option linter.unusedSimpArgs false
set_option linter.unusedVariables false
attribute [local go_sem] max_ints min_ints


set_option maxHeartbeats 1000000 in
theorem fill_any (cb pb W H cx cy cw ch : Nat) (px : List Int) (col rx ry rw rh : Int) (x y n m : Nat) (w : World) (hcv : Cv w cb pb W H cx cy cw ch px)
    (hr : intR rx ry rw rh cx cy cw ch = ((x : Int), (y : Int), (n : Int), (m : Int))) (hx : x + n ≤ W) (hy : y + m ≤ H) :
    Calls Try.prog 53 #[.pointer (some ⟨cb, 0, none⟩), .agg #[.int .i64 rx, .int .i64 ry, .int .i64 rw, .int .i64 rh], .int .u32 col] w fun e w' =>
      e = .returned (.tuple #[]) ∧ Cv w' cb pb W H cx cy cw ch (paintR px W x y n m col) ∧ Chg (· = pb) w w' := by
  have hmf := clo_mk
  have hpl := hcv.pix.lt
  have h1 := each_fill cb pb W H cx cy cw ch (w.heap.size + 1) px col rx ry rw rh x y n m _ ((hcv.alloc (.cells #[.int .i64 rx, .int .i64 ry, .int .i64 rw, .int .i64 rh] 23)).alloc (.cells #[.int .u32 col] 41)) (Blk.new' _ _ _ (by simp)) (by omega) hr hx hy
  have H1 := Lib.hid h1
  clear h1 hr hcv
  go_enter Try.func53, Try.ntmps53
  go_wp2_with (go_at_call 91; refine H1.out.mono ?_; rintro e w' ⟨rfl, hcv, hch⟩)
  go_end0
  exact ⟨rfl, hcv, Chg.call (((Chg.refl w).alloc _).alloc _) hch (fun _ _ h => h)⟩

theorem Cv.clip {w : World} {cb pb W H cx cy cw ch : Nat} {px : List Int} (h : Cv w cb pb W H cx cy cw ch px) (x y n m : Nat) (hx : x + n ≤ W) (hy : y + m ≤ H) :
    Cv ((((w.setCell ⟨cb, 3, none⟩ (.int .i64 x)).setCell ⟨cb, 4, none⟩ (.int .i64 y)).setCell ⟨cb, 5, none⟩ (.int .i64 n)).setCell ⟨cb, 6, none⟩ (.int .i64 m)) cb pb W H x y n m px :=
  { h with
    hd := (((h.hd.set_ 3 (.int .i64 x)).set_ 4 (.int .i64 y)).set_ 5 (.int .i64 n)).set_ 6 (.int .i64 m)
    pix := (((h.pix.far (p := ⟨cb, 3, none⟩) (Ne.symm h.ne) _).far (p := ⟨cb, 4, none⟩) (Ne.symm h.ne) _).far (p := ⟨cb, 5, none⟩) (Ne.symm h.ne) _).far (p := ⟨cb, 6, none⟩) (Ne.symm h.ne) _
    inw := hx
    inh := hy }


set_option maxHeartbeats 1000000 in
theorem clip_any (cb pb W H cx cy cw ch : Nat) (px : List Int) (rx ry rw rh : Int) (x y n m : Nat) (w : World) (hcv : Cv w cb pb W H cx cy cw ch px)
    (hr : intR 0 0 W H rx ry rw rh = ((x : Int), (y : Int), (n : Int), (m : Int))) (hx : x + n ≤ W) (hy : y + m ≤ H) :
    Calls Try.prog 93 #[.pointer (some ⟨cb, 0, none⟩), .agg #[.int .i64 rx, .int .i64 ry, .int .i64 rw, .int .i64 rh]] w fun e w' =>
      e = .returned (.tuple #[]) ∧ Cv w' cb pb W H x y n m px ∧ Chg (· = cb) w w' := by
  have hI : ∀ V : World, Calls Try.prog 38 #[.agg #[.int .i64 0, .int .i64 0, .int .i64 W, .int .i64 H], .agg #[.int .i64 rx, .int .i64 ry, .int .i64 rw, .int .i64 rh]] V fun e w' =>
      e = .returned (.agg #[.int .i64 x, .int .i64 y, .int .i64 n, .int .i64 m]) ∧ Below V.heap.size V w' := by
    intro V
    have h := inter_any 0 0 W H rx ry rw rh V
    rw [hr] at h
    exact h
  have HI := Lib.hid hI
  clear hr hI
  have HX := Lib.hid hx
  have HY := Lib.hid hy
  have hk := hcv.hd
  have hkc := hk.cell
  have hkf := hk.frozen
  have hkl := hk.lt
  have hkm := Nat.le_of_lt hkl
  have HC := Lib.hid hcv
  clear hcv hx hy
  go_enter Try.func93, Try.ntmps93
  go_wp2_with fail
  go_region_with (first | (go_at_call 90; refine (bounds_any cb W H _ (by go_simp) (by go_simp)).mono ?_; rintro e w1 ⟨rfl, hb_w1⟩; have hz_w1 := hb_w1.size; (try simp only [World.size_alloc, World.size_setCell, World.size_drew, World.heap_drewN] at hz_w1); (try ((refine Blk.use (w := w1) (g := w.heap.size) (t := 23) (cs := #[.int .i64 rx, .int .i64 ry, .int .i64 rw, .int .i64 rh]) ?hblk (fun hk0_w1 hc0_w1 hf0_w1 hl0_w1 hm0_w1 hn0_w1 => ?_)); (case hblk => ((repeat (first | (with_reducible assumption) | (with_reducible refine Blk.drew ?_) | (with_reducible refine Blk.drewN ?_ _) | (with_reducible exact Blk.new' _ _ _ (by first | rfl | (simp; done) | (simp; omega))) | (with_reducible refine Blk.alloc ?_ _) | ((with_reducible refine Blk.set2e ?_); exact ⟨_, by with_reducible assumption, rfl⟩) | ((with_reducible refine Blk.set4e ?_); exact ⟨_, by with_reducible assumption, rfl⟩) | (with_reducible refine Blk.set2 (a := .int .i64 0) (b := .int .i64 0) ?_) | (with_reducible refine Blk.set4 (a := .int .i64 0) (b := .int .i64 0) (c := .int .i64 0) (d := .int .i64 0) ?_) | (with_reducible refine Blk.call ?_ (by with_reducible assumption)) | (with_reducible refine Blk.chg ?_ (by with_reducible assumption) (by first | assumption | (simp; omega) | omega)) | (with_reducible refine Blk.far ?_ (by first | rfl | (simp; done) | (simp; omega)) _))); done)))); (try ((refine Blk.use (w := w1) (g := cb) (t := 158) (cs := #[.int .i64 W, .int .i64 H, .slice (some ⟨pb, 0, none⟩) px.length px.length, .int .i64 cx, .int .i64 cy, .int .i64 cw, .int .i64 ch]) ?hblk (fun hk1_w1 hc1_w1 hf1_w1 hl1_w1 hm1_w1 hn1_w1 => ?_)); (case hblk => ((repeat (first | (with_reducible assumption) | (with_reducible refine Blk.drew ?_) | (with_reducible refine Blk.drewN ?_ _) | (with_reducible exact Blk.new' _ _ _ (by first | rfl | (simp; done) | (simp; omega))) | (with_reducible refine Blk.alloc ?_ _) | ((with_reducible refine Blk.set2e ?_); exact ⟨_, by with_reducible assumption, rfl⟩) | ((with_reducible refine Blk.set4e ?_); exact ⟨_, by with_reducible assumption, rfl⟩) | (with_reducible refine Blk.set2 (a := .int .i64 0) (b := .int .i64 0) ?_) | (with_reducible refine Blk.set4 (a := .int .i64 0) (b := .int .i64 0) (c := .int .i64 0) (d := .int .i64 0) ?_) | (with_reducible refine Blk.call ?_ (by with_reducible assumption)) | (with_reducible refine Blk.chg ?_ (by with_reducible assumption) (by first | assumption | (simp; omega) | omega)) | (with_reducible refine Blk.far ?_ (by first | rfl | (simp; done) | (simp; omega)) _))); done))))) | (go_at_call 38; refine (HI.out _).mono ?_; rintro e w2 ⟨rfl, hb_w2⟩; have hz_w2 := hb_w2.size; (try simp only [World.size_alloc, World.size_setCell, World.size_drew, World.heap_drewN] at hz_w2); (try ((refine Blk.use (w := w2) (g := w.heap.size) (t := 23) (cs := #[.int .i64 rx, .int .i64 ry, .int .i64 rw, .int .i64 rh]) ?hblk (fun hk0_w2 hc0_w2 hf0_w2 hl0_w2 hm0_w2 hn0_w2 => ?_)); (case hblk => ((repeat (first | (with_reducible assumption) | (with_reducible refine Blk.drew ?_) | (with_reducible refine Blk.drewN ?_ _) | (with_reducible exact Blk.new' _ _ _ (by first | rfl | (simp; done) | (simp; omega))) | (with_reducible refine Blk.alloc ?_ _) | ((with_reducible refine Blk.set2e ?_); exact ⟨_, by with_reducible assumption, rfl⟩) | ((with_reducible refine Blk.set4e ?_); exact ⟨_, by with_reducible assumption, rfl⟩) | (with_reducible refine Blk.set2 (a := .int .i64 0) (b := .int .i64 0) ?_) | (with_reducible refine Blk.set4 (a := .int .i64 0) (b := .int .i64 0) (c := .int .i64 0) (d := .int .i64 0) ?_) | (with_reducible refine Blk.call ?_ (by with_reducible assumption)) | (with_reducible refine Blk.chg ?_ (by with_reducible assumption) (by first | assumption | (simp; omega) | omega)) | (with_reducible refine Blk.far ?_ (by first | rfl | (simp; done) | (simp; omega)) _))); done)))); (try ((refine Blk.use (w := w2) (g := cb) (t := 158) (cs := #[.int .i64 W, .int .i64 H, .slice (some ⟨pb, 0, none⟩) px.length px.length, .int .i64 cx, .int .i64 cy, .int .i64 cw, .int .i64 ch]) ?hblk (fun hk1_w2 hc1_w2 hf1_w2 hl1_w2 hm1_w2 hn1_w2 => ?_)); (case hblk => ((repeat (first | (with_reducible assumption) | (with_reducible refine Blk.drew ?_) | (with_reducible refine Blk.drewN ?_ _) | (with_reducible exact Blk.new' _ _ _ (by first | rfl | (simp; done) | (simp; omega))) | (with_reducible refine Blk.alloc ?_ _) | ((with_reducible refine Blk.set2e ?_); exact ⟨_, by with_reducible assumption, rfl⟩) | ((with_reducible refine Blk.set4e ?_); exact ⟨_, by with_reducible assumption, rfl⟩) | (with_reducible refine Blk.set2 (a := .int .i64 0) (b := .int .i64 0) ?_) | (with_reducible refine Blk.set4 (a := .int .i64 0) (b := .int .i64 0) (c := .int .i64 0) (d := .int .i64 0) ?_) | (with_reducible refine Blk.call ?_ (by with_reducible assumption)) | (with_reducible refine Blk.chg ?_ (by with_reducible assumption) (by first | assumption | (simp; omega) | omega)) | (with_reducible refine Blk.far ?_ (by first | rfl | (simp; done) | (simp; omega)) _))); done))))))
  all_goals (go_end0; have hB : Below w.heap.size w w2 := by (repeat (first | (with_reducible exact Below.refl _ _) | (with_reducible refine below_al ?_ _) | (with_reducible refine below_dr ?_) | (with_reducible refine below_dn ?_ _) | (with_reducible refine below_set ?_ (by first | rfl | (simp; done) | (simp; omega)) _) | (with_reducible refine below_call ?_ (by with_reducible assumption)))))
  all_goals exact ⟨rfl, (HC.out.below hB).clip x y n m HX.out HY.out, ((((Chg.of_below (S := (· = cb)) hB).setCell (p := ⟨cb, 3, none⟩) (fun _ => rfl) _).setCell (p := ⟨cb, 4, none⟩) (fun _ => rfl) _).setCell (p := ⟨cb, 5, none⟩) (fun _ => rfl) _).setCell (p := ⟨cb, 6, none⟩) (fun _ => rfl) _⟩

theorem fillL_pix (col : Int) (n : Nat) : (fillL (.int .u32 col) (.int .u32 0) n n).toArray = pixV (List.replicate n col) := by
  simp [fillL, pixV]

set_option maxHeartbeats 1000000 in
theorem new_any (W H : Nat) (col : Int) (w : World) (hW : W ≤ 1024) (hH : H ≤ 1024) :
    Calls Try.prog 52 #[.int .i64 W, .int .i64 H, .int .u32 col] w fun e w' =>
      ∃ cb pb, e = .returned (.tuple #[.pointer (some ⟨cb, 0, none⟩), .int .i64 0]) ∧ w.heap.size ≤ cb ∧ w.heap.size ≤ pb ∧ Cv w' cb pb W H 0 0 W H (List.replicate (W * H) col) ∧ Below w.heap.size w w' := by
  have hWi : (W : Int) ≤ 1024 := by omega
  have hHi : (H : Int) ≤ 1024 := by omega
  have hm : W * H ≤ 1048576 := Nat.le_trans (Nat.mul_le_mul hW hH) (by decide)
  have hc : ((W * H : Nat) : Int) = (W : Int) * H := Int.natCast_mul W H
  have hR : ∀ (ad : Addr) (V : World), V.cell? ad = some (.int .u32 col) → Calls Try.prog 89 #[.slice (some ad) 1 1, .int .i64 ((W : Int) * H)] V fun e w' => ∃ g, e = .returned (.slice (some ⟨g, 0, none⟩) (W * H) (W * H)) ∧ V.heap.size ≤ g ∧ Blk w' g 41 (fillL (.int .u32 col) (.int .u32 0) (W * H) (W * H)).toArray ∧ Below V.heap.size V w' := by
    intro ad V h
    have := repeat_any ad 1 (W * H) col V h hm
    rw [hc] at this
    exact this
  have hge : (0 : Int) ≤ (W : Int) * H := by rw [← hc]; omega
  have hle : (W : Int) * H ≤ 1048576 := by rw [← hc]; omega
  have HR := Lib.hid hR
  have HM := Lib.hid hc
  clear hR hc
  go_enter Try.func52, Try.ntmps52
  
  go_wp2_with (first | (go_at_call 89; refine (HR.out _ _ (by go_simp)).mono ?_; rintro e w1 ⟨g, rfl, hg, hgb, hb1⟩) | (go_at_call 90; refine (bounds_any _ W H _ (by go_simp) (by go_simp)).mono ?_; rintro e w2 ⟨rfl, hb_w2⟩; have hz_w2 := hb_w2.size; (try simp only [World.size_alloc, World.size_setCell, World.size_drew, World.heap_drewN] at hz_w2); (try ((refine Blk.use (w := w2) (g := w1.heap.size) (t := 158) (cs := #[.int .i64 W, .int .i64 H, .slice (some ⟨g, 0, none⟩) (W * H) (W * H), .int .i64 0, .int .i64 0, .int .i64 0, .int .i64 0]) ?hblk (fun hk0_w2 hc0_w2 hf0_w2 hl0_w2 hm0_w2 hn0_w2 => ?_)); (case hblk => ((repeat (first | (with_reducible assumption) | (with_reducible refine Blk.drew ?_) | (with_reducible refine Blk.drewN ?_ _) | (with_reducible exact Blk.new' _ _ _ (by first | rfl | (simp; done) | (simp; omega))) | (with_reducible refine Blk.alloc ?_ _) | ((with_reducible refine Blk.set2e ?_); exact ⟨_, by with_reducible assumption, rfl⟩) | ((with_reducible refine Blk.set4e ?_); exact ⟨_, by with_reducible assumption, rfl⟩) | (with_reducible refine Blk.set2 (a := .int .i64 0) (b := .int .i64 0) ?_) | (with_reducible refine Blk.set4 (a := .int .i64 0) (b := .int .i64 0) (c := .int .i64 0) (d := .int .i64 0) ?_) | (with_reducible refine Blk.call ?_ (by with_reducible assumption)) | (with_reducible refine Blk.chg ?_ (by with_reducible assumption) (by first | assumption | (simp; omega) | omega)) | (with_reducible refine Blk.far ?_ (by first | rfl | (simp; done) | (simp; omega)) _))); done))))))
  go_ret2
  have hB1 : Below w.heap.size w w1 := by (repeat (first | (with_reducible exact Below.refl _ _) | (with_reducible refine below_al ?_ _) | (with_reducible refine below_dr ?_) | (with_reducible refine below_dn ?_ _) | (with_reducible refine below_set ?_ (by first | rfl | (simp; done) | (simp; omega)) _) | (with_reducible refine below_call ?_ (by with_reducible assumption))))
  have hB : Below w.heap.size w w2 := by (repeat (first | (with_reducible exact Below.refl _ _) | (with_reducible refine below_al ?_ _) | (with_reducible refine below_dr ?_) | (with_reducible refine below_dn ?_ _) | (with_reducible refine below_set ?_ (by first | rfl | (simp; done) | (simp; omega)) _) | (with_reducible refine below_call ?_ (by with_reducible assumption))))
  have hk2 : Blk w2 w1.heap.size 158 #[.int .i64 W, .int .i64 H, .slice (some ⟨g, 0, none⟩) (W * H) (W * H), .int .i64 0, .int .i64 0, .int .i64 0, .int .i64 0] := by (repeat (first | (with_reducible assumption) | (with_reducible refine Blk.drew ?_) | (with_reducible refine Blk.drewN ?_ _) | (with_reducible exact Blk.new' _ _ _ (by first | rfl | (simp; done) | (simp; omega))) | (with_reducible refine Blk.alloc ?_ _) | ((with_reducible refine Blk.set2e ?_); exact ⟨_, by with_reducible assumption, rfl⟩) | ((with_reducible refine Blk.set4e ?_); exact ⟨_, by with_reducible assumption, rfl⟩) | (with_reducible refine Blk.set2 (a := .int .i64 0) (b := .int .i64 0) ?_) | (with_reducible refine Blk.set4 (a := .int .i64 0) (b := .int .i64 0) (c := .int .i64 0) (d := .int .i64 0) ?_) | (with_reducible refine Blk.call ?_ (by with_reducible assumption)) | (with_reducible refine Blk.chg ?_ (by with_reducible assumption) (by first | assumption | (simp; omega) | omega)) | (with_reducible refine Blk.far ?_ (by first | rfl | (simp; done) | (simp; omega)) _)))
  have hp2 : Blk w2 g 41 (pixV (List.replicate (W * H) col)) := by rw [← fillL_pix]; exact (hgb.alloc _).call hb_w2
  have hgs : w.heap.size ≤ g := by simp at hg; omega
  have cv : Cv w2 w1.heap.size g W H 0 0 0 0 (List.replicate (W * H) col) := ⟨by rw [List.length_replicate]; exact hk2, hp2, List.length_replicate, hW, hH, by omega, by omega⟩
  have hcl := cv.clip 0 0 W H (by omega) (by omega)
  exact ⟨w1.heap.size, g, rfl, hB1.size, hgs, hcl, (((hB.setCell (p := ⟨w1.heap.size, 3, none⟩) hB1.size _).setCell (p := ⟨w1.heap.size, 4, none⟩) hB1.size _).setCell (p := ⟨w1.heap.size, 5, none⟩) hB1.size _).setCell (p := ⟨w1.heap.size, 6, none⟩) hB1.size _⟩

end Go.Proofs.Ytkahhglgebhfbaa
