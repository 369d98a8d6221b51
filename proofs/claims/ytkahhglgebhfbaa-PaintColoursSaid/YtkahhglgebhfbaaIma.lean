/- Walks of slices.Clone at uint32 and of raster's Image. -/
import Derived.Maps.AppendAt
import Derived.Lib.SliceRun
import Derived.Test.YtkahhglgebhfbaaFil
namespace Go.Proofs.Ytkahhglgebhfbaa
open Go.RowKit
set_option linter.unusedSimpArgs false
set_option linter.unusedVariables false
attribute [local go_sem] max_ints min_ints

/-- A picture's colours in a row of the call's own. -/
def Pic (w : World) (base g cap : Nat) (px : List Int) : Prop := w.ownsRow base 41 1 (.slice (some ⟨g, 0, none⟩) px.length cap) px.length (px.map fun c => Value.int .u32 c)

set_option maxHeartbeats 1000000 in
theorem clone_any (pb : Nat) (px : List Int) (w : World) (hb : Blk w pb 41 (pixV px)) (hn : px.length ≤ 1048576) :
    Calls Try.prog 96 #[.slice (some ⟨pb, 0, none⟩) px.length px.length] w fun e w' => ∃ g cap, e = .returned (.slice (some ⟨g, 0, none⟩) px.length cap) ∧ Hid (Pic w' w.heap.size g cap px) ∧ w.heap.size ≤ g ∧ Below w.heap.size w w' := by
  obtain ⟨i0, hi, hz0, hz1, hz2⟩ := info_parts info41
  have q28 : ∀ (w : World) (a : Option Addr) (n c n' c' : Nat), (binOp .eql 28 (.slice a n c) (.slice none n' c')).run Try.prog w = .ok (.bool a.isNone) w := fun w a n c n' c' => Lib.run_eql_slice_nil w _ _ a n c n' c' Try.underlying28
  have hlt := hb.lt
  have hnews : ∀ (j : Nat) (u : Value), (px.map fun c => Value.int .u32 c)[j]? = some u → (w.alloc (.cells #[] 41)).cell? (Addr.add ⟨pb, 0, none⟩ j) = some u := by
    intro j u hj
    have ha : Addr.add ⟨pb, 0, none⟩ j = ⟨pb, j, none⟩ := by unfold Addr.add; split <;> simp_all
    rw [ha, (hb.alloc _).cell j]
    rw [← hj]; unfold pixV; simp
  have HN := Lib.hid hnews
  have H1 : Hid (∀ u ∈ (px.map fun c => Value.int .u32 c), u.oneCell' = true) := Lib.hid (by intro u hu; obtain ⟨c, _, rfl⟩ := List.mem_map.1 hu; rfl)
  clear hnews hb
  go_enter Try.func96, Try.ntmps96
  go_wp2_with (at_builtin; refine wpList_append_own_at _ rfl (.tmp 5) (.tmp 6) 28 rfl w.heap.size 41 i0 (.int .u32 0) 1 4 Try.underlying28 hi hz0 hz1 hz2 rfl (by decide) (.slice (some ⟨w.heap.size, 0, none⟩) 0 0) 0 [] rfl (World.ownsRow_lit w #[] 0 (Nat.le_refl _) (by decide) rfl) ⟨pb, 0, none⟩ px.length px.length (px.map fun c => Value.int .u32 c) rfl (by simp) HN.out H1.out (by unfold maxLen; omega) (by omega) (by simp) ?_; intro v1 w1 hown hgr hnil hat)
  go_ret
  rw [Nat.zero_add, List.nil_append] at hown
  have hB : Below w.heap.size w w1 := (below_al (Below.refl _ _) _).grown hgr (by simp) (by intro k hk; simp [Value.ownBlock] at hk; omega)
  rcases hown.2 with ⟨hv, _⟩ | ⟨g, cap, cur, hv, hbg, hrest⟩
  · exact absurd (hnil.1 hv).1 (by simp)
  · subst hv
    exact ⟨g, cap, rfl, Lib.hid hown, hbg, hB⟩

theorem Pic.below {w w' : World} {base g cap : Nat} {px : List Int} (h : Pic w base g cap px) (hb : Below w.heap.size w w') : Pic w' base g cap px := by
  refine ⟨h.1, ?_⟩
  rcases h.2 with ⟨hv, hn⟩ | ⟨g', cap', cur, hv, hg, hh, r⟩
  · exact .inl ⟨hv, hn⟩
  · have hl : g' < w.heap.size := by
      rcases Nat.lt_or_ge g' w.heap.size with hlt | hge
      · exact hlt
      · rw [Array.getElem?_eq_none hge] at hh; cases hh
    exact .inr ⟨g', cap', cur, hv, hg, (hb.block g' hl).trans hh, r⟩
theorem Pic.setCell {w : World} {base g cap : Nat} {px : List Int} (h : Pic w base g cap px) {p : Addr} (hp : p.block ≠ g) (u : Value) : Pic (w.setCell p u) base g cap px := by
  refine ⟨h.1, ?_⟩
  rcases h.2 with ⟨hv, hn⟩ | ⟨g', cap', cur, hv, hg, hh, r⟩
  · exact .inl ⟨hv, hn⟩
  · obtain ⟨rfl⟩ : g = g' := by injection hv with h1; injection h1 with h1; injection h1
    exact .inr ⟨g, cap', cur, hv, hg, (Below.heap_setCell w p u g (Ne.symm hp)).trans hh, r⟩
theorem Pic.base {w : World} {base base' g cap : Nat} {px : List Int} (h : Pic w base g cap px) (hb : base' ≤ base) : Pic w base' g cap px := by
  refine ⟨h.1, ?_⟩
  rcases h.2 with ⟨hv, hn⟩ | ⟨g', cap', cur, hv, hg, r⟩
  · exact .inl ⟨hv, hn⟩
  · exact .inr ⟨g', cap', cur, hv, Nat.le_trans hb hg, r⟩
theorem Pic.lt {w : World} {base g cap : Nat} {px : List Int} (h : Pic w base g cap px) : g < w.heap.size := by
  rcases h.2 with ⟨hv, _⟩ | ⟨g', cap', cur, hv, _, hh, _⟩
  · cases hv
  · obtain ⟨rfl⟩ : g = g' := by injection hv with h1; injection h1 with h1; injection h1
    rcases Nat.lt_or_ge g w.heap.size with hlt | hge
    · exact hlt
    · rw [Array.getElem?_eq_none hge] at hh; cases hh
theorem Pic.get {w : World} {base g cap : Nat} {px : List Int} (h : Pic w base g cap px) (j : Nat) (hj : j < px.length) : w.cell? ⟨g, j, none⟩ = some (.int .u32 px[j]) := by
  have := h.cellAt j (by omega)
  rw [this]; simp [hj]


set_option maxHeartbeats 1000000 in
theorem image_any (cb pb W H cx cy cw ch : Nat) (px : List Int) (w : World) (hcv : Cv w cb pb W H cx cy cw ch px) :
    Calls Try.prog 57 #[.pointer (some ⟨cb, 0, none⟩)] w fun e w' =>
      ∃ g cap, e = .returned (.agg #[.int .i64 W, .int .i64 H, .slice (some ⟨g, 0, none⟩) px.length cap]) ∧ Hid (Pic w' w.heap.size g cap px) ∧ w.heap.size ≤ g ∧ Below w.heap.size w w' := by
  have hkc := hcv.hd.cell
  have hkl := hcv.hd.lt
  have hkm := Nat.le_of_lt hkl
  have hn : px.length ≤ 1048576 := by rw [hcv.len]; exact Nat.le_trans (Nat.mul_le_mul hcv.wide hcv.high) (by decide)
  have HP := Lib.hid hcv.pix
  clear hcv
  go_enter Try.func57, Try.ntmps57
  go_wp2_with (go_at_call 96; refine (clone_any pb px _ (by have HP1 := HP.out; (repeat (first | (with_reducible assumption) | (with_reducible refine Blk.drew ?_) | (with_reducible refine Blk.drewN ?_ _) | (with_reducible exact Blk.new' _ _ _ (by first | rfl | (simp; done) | (simp; omega))) | (with_reducible refine Blk.alloc ?_ _) | ((with_reducible refine Blk.set2e ?_); exact ⟨_, by with_reducible assumption, rfl⟩) | ((with_reducible refine Blk.set4e ?_); exact ⟨_, by with_reducible assumption, rfl⟩) | (with_reducible refine Blk.set2 (a := .int .i64 0) (b := .int .i64 0) ?_) | (with_reducible refine Blk.set4 (a := .int .i64 0) (b := .int .i64 0) (c := .int .i64 0) (d := .int .i64 0) ?_) | (with_reducible refine Blk.call ?_ (by with_reducible assumption)) | (with_reducible refine Blk.chg ?_ (by with_reducible assumption) (by first | assumption | (simp; omega) | omega)) | (with_reducible refine Blk.far ?_ (by first | rfl | (simp; done) | (simp; omega)) _)))) hn).mono ?_; rintro e w1 ⟨g, cap, rfl, HG, hgs, hb_w1⟩; have hz_w1 := hb_w1.size; (try simp only [World.size_alloc, World.size_setCell, World.size_drew, World.heap_drewN] at hz_w1); (try ((refine Blk.use (w := w1) (g := w.heap.size) (t := 30) (cs := #[.int .i64 0, .int .i64 0, .slice none 0 0]) ?hblk (fun hk0_w1 hc0_w1 hf0_w1 hl0_w1 hm0_w1 hn0_w1 => ?_)); (case hblk => ((repeat (first | (with_reducible assumption) | (with_reducible refine Blk.drew ?_) | (with_reducible refine Blk.drewN ?_ _) | (with_reducible exact Blk.new' _ _ _ (by first | rfl | (simp; done) | (simp; omega))) | (with_reducible refine Blk.alloc ?_ _) | ((with_reducible refine Blk.set2e ?_); exact ⟨_, by with_reducible assumption, rfl⟩) | ((with_reducible refine Blk.set4e ?_); exact ⟨_, by with_reducible assumption, rfl⟩) | (with_reducible refine Blk.set2 (a := .int .i64 0) (b := .int .i64 0) ?_) | (with_reducible refine Blk.set4 (a := .int .i64 0) (b := .int .i64 0) (c := .int .i64 0) (d := .int .i64 0) ?_) | (with_reducible refine Blk.call ?_ (by with_reducible assumption)) | (with_reducible refine Blk.chg ?_ (by with_reducible assumption) (by first | assumption | (simp; omega) | omega)) | (with_reducible refine Blk.far ?_ (by first | rfl | (simp; done) | (simp; omega)) _))); done)))); (try ((refine Blk.use (w := w1) (g := w.heap.size + 1) (t := 30) (cs := #[.int .i64 W, .int .i64 H, .slice (some ⟨pb, 0, none⟩) px.length px.length]) ?hblk (fun hk1_w1 hc1_w1 hf1_w1 hl1_w1 hm1_w1 hn1_w1 => ?_)); (case hblk => ((repeat (first | (with_reducible assumption) | (with_reducible refine Blk.drew ?_) | (with_reducible refine Blk.drewN ?_ _) | (with_reducible exact Blk.new' _ _ _ (by first | rfl | (simp; done) | (simp; omega))) | (with_reducible refine Blk.alloc ?_ _) | ((with_reducible refine Blk.set2e ?_); exact ⟨_, by with_reducible assumption, rfl⟩) | ((with_reducible refine Blk.set4e ?_); exact ⟨_, by with_reducible assumption, rfl⟩) | (with_reducible refine Blk.set2 (a := .int .i64 0) (b := .int .i64 0) ?_) | (with_reducible refine Blk.set4 (a := .int .i64 0) (b := .int .i64 0) (c := .int .i64 0) (d := .int .i64 0) ?_) | (with_reducible refine Blk.call ?_ (by with_reducible assumption)) | (with_reducible refine Blk.chg ?_ (by with_reducible assumption) (by first | assumption | (simp; omega) | omega)) | (with_reducible refine Blk.far ?_ (by first | rfl | (simp; done) | (simp; omega)) _))); done)))))
  have hg2 : w.heap.size + 1 + 1 ≤ g := by simpa using hgs
  refine bodyPost_ret (v := .agg #[.int .i64 W, .int .i64 H, .slice (some ⟨g, 0, none⟩) px.length cap]) (by simp [results, Try.results57, go_sem, *]) rfl ⟨g, cap, rfl, Lib.hid ?_, by omega, by (repeat (first | (with_reducible exact Below.refl _ _) | (with_reducible refine below_al ?_ _) | (with_reducible refine below_dr ?_) | (with_reducible refine below_dn ?_ _) | (with_reducible refine below_set ?_ (by first | rfl | (simp; done) | (simp; omega)) _) | (with_reducible refine below_call ?_ (by with_reducible assumption))))⟩
  refine ((((HG.out.base (by simp; omega)).setCell ?_ _).setCell ?_ _).setCell ?_ _).setCell ?_ _ <;> (simp; omega)

end Go.Proofs.Ytkahhglgebhfbaa
