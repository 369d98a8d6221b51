/- Walk of paint's Screen, where the screen may be. -/
import Derived.Test.YtkahhglgebhfbaaScr
namespace Go.Proofs.Ytkahhglgebhfbaa
open Go.RowKit
set_option linter.unusedSimpArgs false
set_option linter.unusedVariables false
attribute [local go_sem] max_ints min_ints

theorem RowsAt.cells {w wr : World} {b size n : Nat} {f : Nat → List Value} (h : RowsAt w b size n f) (hb : Below w.heap.size w wr) {i : Nat} (hi : i < n) {j : Nat} {v : Value} (hv : (f i)[j]? = some v) : wr.cell? ⟨b, i * size + j, none⟩ = some v := by
  have h1 := h i hi j v hv
  have hl := World.block_lt_of_cell? w _ h1
  exact (hb.cell hl).trans h1


set_option maxRecDepth 100000 in
set_option maxHeartbeats 4000000 in
theorem screen_ok (ax ay : Int) (W H : Nat) (A1 A2 : Option Addr) (lb sb c1 c2 : Nat) (labs : List Lab) (shas : List Sha) (w : World) (hat : rightB ax ay W H = true) (hW : W ≤ 1024) (hH : H ≤ 1024)
    (hA1 : labs.length = 0 ∨ A1 = some ⟨lb, 0, none⟩) (hA2 : shas.length = 0 ∨ A2 = some ⟨sb, 0, none⟩) (hl1 : labs.length ≤ 1048576) (hl2 : shas.length ≤ 1048576)
    (hr1 : RowsAt w lb 6 labs.length fun i => (labs[i]?.map Lab.vals).getD []) (hr2 : RowsAt w sb 16 shas.length fun i => (shas[i]?.map Sha.vals).getD [])
    (hn1 : ∀ l ∈ labs, l.name.size ≤ maxLen) (hn2 : ∀ s ∈ shas, s.name.size ≤ maxLen) :
    Calls Try.prog 16 #[.agg #[.int .i64 ax, .int .i64 ay, .int .i64 W, .int .i64 H], .slice A1 labs.length c1, .slice A2 shas.length c2] w fun e w' =>
      ∃ g cap px, e = .returned (.tuple #[.agg #[.int .i64 W, .int .i64 H, .slice (some ⟨g, 0, none⟩) px.length cap], .int .i64 0]) ∧ Hid (Pic w' w.heap.size g cap px) ∧ Below w.heap.size w w' ∧
        px = shas.foldl (shaP ax ay W H) (labs.foldl (labP ax ay W H) (List.replicate (W * H) 4280295456)) := by
  have R1 := Lib.hid hr1
  have R2 := Lib.hid hr2
  have N1 := Lib.hid hn1
  have N2 := Lib.hid hn2
  have O1 := Lib.hid hA1
  have O2 := Lib.hid hA2
  have hWi : (W : Int) ≤ 1024 := by omega
  have hHi : (H : Int) ≤ 1024 := by omega
  have d1 : decide ((1024 : Int) < W) = false := by simpa using hWi
  have d2 : decide ((1024 : Int) < H) = false := by simpa using hHi
  clear hr1 hr2 hn1 hn2 hA1 hA2
  go_enter Try.func16, Try.ntmps16
  go_wp2_with (first | (go_at_call 51; refine (right_any _ _ _ _ _).mono ?_; rintro e w1 ⟨rfl, hb_w1⟩; have hz_w1 := hb_w1.size; (try simp only [World.size_alloc, World.size_setCell, World.size_drew, World.heap_drewN] at hz_w1); (try ((refine Blk.use (w := w1) (g := w.heap.size) (t := 23) (cs := #[.int .i64 ax, .int .i64 ay, .int .i64 W, .int .i64 H]) ?hblk (fun hk0_w1 hc0_w1 hf0_w1 hl0_w1 hm0_w1 hn0_w1 => ?_)); (case hblk => ((repeat (first | (with_reducible assumption) | (with_reducible refine Blk.drew ?_) | (with_reducible refine Blk.drewN ?_ _) | (with_reducible exact Blk.new' _ _ _ (by first | rfl | (simp; done) | (simp; omega))) | (with_reducible refine Blk.alloc ?_ _) | ((with_reducible refine Blk.set2e ?_); exact ⟨_, by with_reducible assumption, rfl⟩) | ((with_reducible refine Blk.set4e ?_); exact ⟨_, by with_reducible assumption, rfl⟩) | (with_reducible refine Blk.set2 (a := .int .i64 0) (b := .int .i64 0) ?_) | (with_reducible refine Blk.set4 (a := .int .i64 0) (b := .int .i64 0) (c := .int .i64 0) (d := .int .i64 0) ?_) | (with_reducible refine Blk.call ?_ (by with_reducible assumption)) | (with_reducible refine Blk.chg ?_ (by with_reducible assumption) (by first | assumption | (simp; omega) | omega)) | (with_reducible refine Blk.far ?_ (by first | rfl | (simp; done) | (simp; omega)) _))); done)))); (try ((refine Blk.use (w := w1) (g := w.heap.size + 1) (t := 30) (cs := #[.int .i64 0, .int .i64 0, .slice none 0 0]) ?hblk (fun hk1_w1 hc1_w1 hf1_w1 hl1_w1 hm1_w1 hn1_w1 => ?_)); (case hblk => ((repeat (first | (with_reducible assumption) | (with_reducible refine Blk.drew ?_) | (with_reducible refine Blk.drewN ?_ _) | (with_reducible exact Blk.new' _ _ _ (by first | rfl | (simp; done) | (simp; omega))) | (with_reducible refine Blk.alloc ?_ _) | ((with_reducible refine Blk.set2e ?_); exact ⟨_, by with_reducible assumption, rfl⟩) | ((with_reducible refine Blk.set4e ?_); exact ⟨_, by with_reducible assumption, rfl⟩) | (with_reducible refine Blk.set2 (a := .int .i64 0) (b := .int .i64 0) ?_) | (with_reducible refine Blk.set4 (a := .int .i64 0) (b := .int .i64 0) (c := .int .i64 0) (d := .int .i64 0) ?_) | (with_reducible refine Blk.call ?_ (by with_reducible assumption)) | (with_reducible refine Blk.chg ?_ (by with_reducible assumption) (by first | assumption | (simp; omega) | omega)) | (with_reducible refine Blk.far ?_ (by first | rfl | (simp; done) | (simp; omega)) _))); done))))) | (go_at_call 52; refine (new_any W H _ _ hW hH).mono ?_; rintro e w2 ⟨cb, pb, rfl, hcb, hpb, hcv, hb_w2⟩; have hz_w2 := hb_w2.size; (try simp only [World.size_alloc, World.size_setCell, World.size_drew, World.heap_drewN] at hz_w2); (try ((refine Blk.use (w := w2) (g := w.heap.size) (t := 23) (cs := #[.int .i64 ax, .int .i64 ay, .int .i64 W, .int .i64 H]) ?hblk (fun hk0_w2 hc0_w2 hf0_w2 hl0_w2 hm0_w2 hn0_w2 => ?_)); (case hblk => ((repeat (first | (with_reducible assumption) | (with_reducible refine Blk.drew ?_) | (with_reducible refine Blk.drewN ?_ _) | (with_reducible exact Blk.new' _ _ _ (by first | rfl | (simp; done) | (simp; omega))) | (with_reducible refine Blk.alloc ?_ _) | ((with_reducible refine Blk.set2e ?_); exact ⟨_, by with_reducible assumption, rfl⟩) | ((with_reducible refine Blk.set4e ?_); exact ⟨_, by with_reducible assumption, rfl⟩) | (with_reducible refine Blk.set2 (a := .int .i64 0) (b := .int .i64 0) ?_) | (with_reducible refine Blk.set4 (a := .int .i64 0) (b := .int .i64 0) (c := .int .i64 0) (d := .int .i64 0) ?_) | (with_reducible refine Blk.call ?_ (by with_reducible assumption)) | (with_reducible refine Blk.chg ?_ (by with_reducible assumption) (by first | assumption | (simp; omega) | omega)) | (with_reducible refine Blk.far ?_ (by first | rfl | (simp; done) | (simp; omega)) _))); done)))); (try ((refine Blk.use (w := w2) (g := w.heap.size + 1) (t := 30) (cs := #[.int .i64 0, .int .i64 0, .slice none 0 0]) ?hblk (fun hk1_w2 hc1_w2 hf1_w2 hl1_w2 hm1_w2 hn1_w2 => ?_)); (case hblk => ((repeat (first | (with_reducible assumption) | (with_reducible refine Blk.drew ?_) | (with_reducible refine Blk.drewN ?_ _) | (with_reducible exact Blk.new' _ _ _ (by first | rfl | (simp; done) | (simp; omega))) | (with_reducible refine Blk.alloc ?_ _) | ((with_reducible refine Blk.set2e ?_); exact ⟨_, by with_reducible assumption, rfl⟩) | ((with_reducible refine Blk.set4e ?_); exact ⟨_, by with_reducible assumption, rfl⟩) | (with_reducible refine Blk.set2 (a := .int .i64 0) (b := .int .i64 0) ?_) | (with_reducible refine Blk.set4 (a := .int .i64 0) (b := .int .i64 0) (c := .int .i64 0) (d := .int .i64 0) ?_) | (with_reducible refine Blk.call ?_ (by with_reducible assumption)) | (with_reducible refine Blk.chg ?_ (by with_reducible assumption) (by first | assumption | (simp; omega) | omega)) | (with_reducible refine Blk.far ?_ (by first | rfl | (simp; done) | (simp; omega)) _))); done))))))
  have S0 : Hid (Sc w (w2.alloc (.cells #[.pointer (some ⟨cb, 0, none⟩), .int .i64 ax, .int .i64 ay, .int .i64 W, .int .i64 H] 108)) cb pb W H (List.replicate (W * H) 4280295456) ax ay w2.heap.size) := Lib.hid (by
    have hB1 : Below w.heap.size w w1 := by (repeat (first | (with_reducible exact Below.refl _ _) | (with_reducible refine below_al ?_ _) | (with_reducible refine below_dr ?_) | (with_reducible refine below_dn ?_ _) | (with_reducible refine below_set ?_ (by first | rfl | (simp; done) | (simp; omega)) _) | (with_reducible refine below_call ?_ (by with_reducible assumption))))
    have hB2 : Below w.heap.size w w2 := by (repeat (first | (with_reducible exact Below.refl _ _) | (with_reducible refine below_al ?_ _) | (with_reducible refine below_dr ?_) | (with_reducible refine below_dn ?_ _) | (with_reducible refine below_set ?_ (by first | rfl | (simp; done) | (simp; omega)) _) | (with_reducible refine below_call ?_ (by with_reducible assumption))))
    have := hB1.size
    exact ⟨⟨W, H, hcv.alloc _, fun _ => ⟨rfl, rfl⟩⟩, Blk.new' _ _ _ rfl, hk1_w2.alloc _, below_al hB2 _, by omega, by omega⟩)
  have hgs : w.heap.size ≤ w2.heap.size := by have := S0.out.b.size; have h2 := hb_w2.size; have h1 := hb_w1.size; simp at h1; omega
  clear hcv hcb hpb hb_w1 hb_w2
  obtain ⟨g, hg⟩ : ∃ g, g = w2.heap.size := ⟨_, rfl⟩
  rw [← hg] at S0 hgs
  go_wp2_with fail
  rw [← hg]
  generalize w2.alloc (.cells #[.pointer (some ⟨cb, 0, none⟩), .int .i64 ax, .int .i64 ay, .int .i64 W, .int .i64 H] 108) = w3 at S0 ⊢
  clear hg
  go_loopw [44] (fun u wr => ∃ i : Nat, i ≤ labs.length ∧ u = .int .i64 i ∧ Hid (Sc w wr cb pb W H ((labs.take i).foldl (labP ax ay W H) (List.replicate (W * H) 4280295456)) ax ay g)) (fun u _ => labs.length - (intOf u).toNat)
  case atStart => exact ⟨0, Nat.zero_le _, rfl, S0⟩
  case round =>
    obtain ⟨i, hi, rfl, S⟩ := hrel
    clear S0
    by_cases hlt : i < labs.length
    · obtain rfl : A1 = some ⟨lb, 0, none⟩ := by rcases O1.out with h | h; · omega
                                                 · exact h
      clear O1
      obtain ⟨l, hl⟩ : ∃ l, labs[i]? = some l := ⟨_, List.getElem?_eq_getElem hlt⟩
      have hcell : ∀ j v, l.vals[j]? = some v → wr.cell? ⟨lb, i * 6 + j, none⟩ = some v := fun j v hv => R1.out.cells S.out.b hlt (by rw [hl]; exact hv)
      have e0 := hcell 0 _ rfl
      have e1 := hcell 1 _ rfl
      have e2 := hcell 2 _ rfl
      have e3 := hcell 3 _ rfl
      have e4 := hcell 4 _ rfl
      have e5 := hcell 5 _ rfl
      rw [Nat.add_zero] at e0
      clear hcell
      have HL := Lib.hid hl
      clear hl
      cases hop : l.op with
      | true =>
        rw [hop] at e5
        have elb : labP ax ay W H ((labs.take i).foldl (labP ax ay W H) (List.replicate (W * H) 4280295456)) l = paintP (paintP ((labs.take i).foldl (labP ax ay W H) (List.replicate (W * H) 4280295456)) (fun j => hasR (hereR ax ay W H l.x l.y l.n l.m) ((j % W : Nat) : Int) ((j / W : Nat) : Int)) 4284442474) (fun j => wriB ax ay W H l.x l.y l.n l.m l.name ((j % W : Nat) : Int) ((j / W : Nat) : Int)) 4294967295 := by unfold labP; rw [hop]; rfl
        have EL := Lib.hid elb
        clear elb
        go_wp2_with fail
        have S1 : Hid (Sc w (wr.alloc (.cells #[.int .i64 l.x, .int .i64 l.y, .int .i64 l.n, .int .i64 l.m, .string l.name, .bool true] 99)) cb pb W H ((labs.take i).foldl (labP ax ay W H) (List.replicate (W * H) 4280295456)) ax ay g) := Lib.hid (S.out.alloc _)
        have hL : Blk (wr.alloc (.cells #[.int .i64 l.x, .int .i64 l.y, .int .i64 l.n, .int .i64 l.m, .string l.name, .bool true] 99)) wr.heap.size 99 #[.int .i64 l.x, .int .i64 l.y, .int .i64 l.n, .int .i64 l.m, .string l.name, .bool true] := Blk.new' _ _ _ rfl
        generalize wr.alloc (.cells #[.int .i64 l.x, .int .i64 l.y, .int .i64 l.n, .int .i64 l.m, .string l.name, .bool true] 99) = wa at S1 hL ⊢
        have hp := S1.out.p
        have hpc := hp.cell
        have hLc := hL.cell
        have hgp : ¬ (fun k => k = pb) g := (S1.out.cv.ne hp (by decide) (by decide)).2
        have hLp : ¬ (fun k => k = pb) wr.heap.size := (S1.out.cv.ne hL (by decide) (by decide)).2
        have CV := Lib.hid (S1.out.cv.drewN 1)
        clear e0 e1 e2 e3 e4 e5 S
        go_region_held3 (fun w' => (∀ i, w'.cell? ⟨g, i, none⟩ = (#[.pointer (some ⟨cb, 0, none⟩), .int .i64 ax, .int .i64 ay, .int .i64 W, .int .i64 H] : Array Value)[i]?) ∧ (∀ i, w'.cell? ⟨wr.heap.size, i, none⟩ = (#[.int .i64 l.x, .int .i64 l.y, .int .i64 l.n, .int .i64 l.m, .string l.name, .bool true] : Array Value)[i]?))
          ((first | exact ⟨fun i => (hp.drewN 1).cell i, fun i => (hL.drewN 1).cell i⟩ | exact ⟨fun i => (((hp.drewN 1).call hb_w4).chg hch5 hgp).cell i, fun i => (((hL.drewN 1).call hb_w4).chg hch5 hLp).cell i⟩ | exact ⟨fun i => ((hp.drewN 1).call hb_w4).cell i, fun i => ((hL.drewN 1).call hb_w4).cell i⟩))
          (first | ((go_at_call 54; refine (here_any cb ax ay W H l.x l.y l.n l.m _).mono ?_; rintro e w4 ⟨rfl, hb_w4⟩)) | ((go_at_call 53; refine (fill_full cb pb W H _ _ (hereR ax ay W H l.x l.y l.n l.m) _ (CV.out.below hb_w4)).mono ?_; rintro e w5 ⟨rfl, hcv5, hch5⟩)))
        have S2 := Lib.hid (((S1.out.drewN 1).below hb_w4).paint hcv5 (hch5.mono (fun _ _ h => .inl h)))
        have hp5 := (((hp.drewN 1).call hb_w4).chg hch5 hgp).cell
        have hL5 := (((hL.drewN 1).call hb_w4).chg hch5 hLp).cell
        clear hp hpc hL hLc CV hcv5 hch5 hb_w4 S1
        go_wp2_with (go_at_call 55; refine (write_any cb pb W H _ ax ay l.x l.y l.n l.m l.name _ S2.out.cv hat (N1.out l (List.mem_of_getElem? HL.out))).mono ?_; rintro e w6 ⟨rfl, hcv6, hch6⟩)
        have S3 := Lib.hid (S2.out.paint hcv6 hch6)
        clear hcv6 hch6 S2 hp5 hL5
        go_roundw
        case rel => exact ⟨i + 1, by omega, by go_num, Lib.hid (by rw [List.take_succ_eq_append_getElem hlt, List.foldl_append, show labs[i] = l from Option.some.inj ((List.getElem?_eq_getElem hlt).symm.trans HL.out), List.foldl_cons, List.foldl_nil, EL.out]; exact S3.out)⟩
        case measure => simp [intOf]; omega
      | false =>
        rw [hop] at e5
        have elb : labP ax ay W H ((labs.take i).foldl (labP ax ay W H) (List.replicate (W * H) 4280295456)) l = paintP (paintP ((labs.take i).foldl (labP ax ay W H) (List.replicate (W * H) 4280295456)) (fun j => hasR (hereR ax ay W H l.x l.y l.n l.m) ((j % W : Nat) : Int) ((j / W : Nat) : Int)) 4280427042) (fun j => wriB ax ay W H l.x l.y l.n l.m l.name ((j % W : Nat) : Int) ((j / W : Nat) : Int)) 4294967295 := by unfold labP; rw [hop]; rfl
        have EL := Lib.hid elb
        clear elb
        go_wp2_with fail
        have S1 : Hid (Sc w (wr.alloc (.cells #[.int .i64 l.x, .int .i64 l.y, .int .i64 l.n, .int .i64 l.m, .string l.name, .bool false] 99)) cb pb W H ((labs.take i).foldl (labP ax ay W H) (List.replicate (W * H) 4280295456)) ax ay g) := Lib.hid (S.out.alloc _)
        have hL : Blk (wr.alloc (.cells #[.int .i64 l.x, .int .i64 l.y, .int .i64 l.n, .int .i64 l.m, .string l.name, .bool false] 99)) wr.heap.size 99 #[.int .i64 l.x, .int .i64 l.y, .int .i64 l.n, .int .i64 l.m, .string l.name, .bool false] := Blk.new' _ _ _ rfl
        generalize wr.alloc (.cells #[.int .i64 l.x, .int .i64 l.y, .int .i64 l.n, .int .i64 l.m, .string l.name, .bool false] 99) = wa at S1 hL ⊢
        have hp := S1.out.p
        have hpc := hp.cell
        have hLc := hL.cell
        have hgp : ¬ (fun k => k = pb) g := (S1.out.cv.ne hp (by decide) (by decide)).2
        have hLp : ¬ (fun k => k = pb) wr.heap.size := (S1.out.cv.ne hL (by decide) (by decide)).2
        have CV := Lib.hid (S1.out.cv.drewN 1)
        clear e0 e1 e2 e3 e4 e5 S
        go_region_held3 (fun w' => (∀ i, w'.cell? ⟨g, i, none⟩ = (#[.pointer (some ⟨cb, 0, none⟩), .int .i64 ax, .int .i64 ay, .int .i64 W, .int .i64 H] : Array Value)[i]?) ∧ (∀ i, w'.cell? ⟨wr.heap.size, i, none⟩ = (#[.int .i64 l.x, .int .i64 l.y, .int .i64 l.n, .int .i64 l.m, .string l.name, .bool false] : Array Value)[i]?))
          ((first | exact ⟨fun i => (hp.drewN 1).cell i, fun i => (hL.drewN 1).cell i⟩ | exact ⟨fun i => (((hp.drewN 1).call hb_w4).chg hch5 hgp).cell i, fun i => (((hL.drewN 1).call hb_w4).chg hch5 hLp).cell i⟩ | exact ⟨fun i => ((hp.drewN 1).call hb_w4).cell i, fun i => ((hL.drewN 1).call hb_w4).cell i⟩))
          (first | ((go_at_call 54; refine (here_any cb ax ay W H l.x l.y l.n l.m _).mono ?_; rintro e w4 ⟨rfl, hb_w4⟩)) | ((go_at_call 53; refine (fill_full cb pb W H _ _ (hereR ax ay W H l.x l.y l.n l.m) _ (CV.out.below hb_w4)).mono ?_; rintro e w5 ⟨rfl, hcv5, hch5⟩)))
        have S2 := Lib.hid (((S1.out.drewN 1).below hb_w4).paint hcv5 (hch5.mono (fun _ _ h => .inl h)))
        have hp5 := (((hp.drewN 1).call hb_w4).chg hch5 hgp).cell
        have hL5 := (((hL.drewN 1).call hb_w4).chg hch5 hLp).cell
        clear hp hpc hL hLc CV hcv5 hch5 hb_w4 S1
        go_wp2_with (go_at_call 55; refine (write_any cb pb W H _ ax ay l.x l.y l.n l.m l.name _ S2.out.cv hat (N1.out l (List.mem_of_getElem? HL.out))).mono ?_; rintro e w6 ⟨rfl, hcv6, hch6⟩)
        have S3 := Lib.hid (S2.out.paint hcv6 hch6)
        clear hcv6 hch6 S2 hp5 hL5
        go_roundw
        case rel => exact ⟨i + 1, by omega, by go_num, Lib.hid (by rw [List.take_succ_eq_append_getElem hlt, List.foldl_append, show labs[i] = l from Option.some.inj ((List.getElem?_eq_getElem hlt).symm.trans HL.out), List.foldl_cons, List.foldl_nil, EL.out]; exact S3.out)⟩
        case measure => simp [intOf]; omega
    · have e : i = labs.length := by omega
      have S' : Hid (Sc w wr cb pb W H (labs.foldl (labP ax ay W H) (List.replicate (W * H) 4280295456)) ax ay g) := Lib.hid (by have h := S.out; rwa [e, List.take_length] at h)
      clear e S O1
      obtain ⟨wq, rfl⟩ : ∃ wq : World, wq = wr := ⟨_, rfl⟩
      go_wp2_with fail
      go_loopw [67] (fun u wr => ∃ i : Nat, i ≤ shas.length ∧ u = .int .i64 i ∧ Hid (Sc w wr cb pb W H ((shas.take i).foldl (shaP ax ay W H) (labs.foldl (labP ax ay W H) (List.replicate (W * H) 4280295456))) ax ay g)) (fun u _ => shas.length - (intOf u).toNat)
      case atStart => exact ⟨0, Nat.zero_le _, rfl, S'⟩
      case round =>
        clear hi hlt S'
        obtain ⟨i2, hi, rfl, S⟩ := hrel
        by_cases hlt : i2 < shas.length
        · obtain rfl : A2 = some ⟨sb, 0, none⟩ := by rcases O2.out with h | h; · omega
                                                     · exact h
          clear O2
          obtain ⟨s, hs⟩ : ∃ s, shas[i2]? = some s := ⟨_, List.getElem?_eq_getElem hlt⟩
          have hcell : ∀ j v, s.vals[j]? = some v → wr.cell? ⟨sb, i2 * 16 + j, none⟩ = some v := fun j v hv => R2.out.cells S.out.b hlt (by rw [hs]; exact hv)
          have e0 := hcell 0 _ rfl
          have e1 := hcell 1 _ rfl
          have e2 := hcell 2 _ rfl
          have e3 := hcell 3 _ rfl
          have e4 := hcell 4 _ rfl
          have e5 := hcell 5 _ rfl
          have e6 := hcell 6 _ rfl
          have e7 := hcell 7 _ rfl
          have e8 := hcell 8 _ rfl
          have e9 := hcell 9 _ rfl
          have e10 := hcell 10 _ rfl
          have e11 := hcell 11 _ rfl
          have e12 := hcell 12 _ rfl
          have e13 := hcell 13 _ rfl
          have e14 := hcell 14 _ rfl
          have e15 := hcell 15 _ rfl
          rw [Nat.add_zero] at e0
          clear hcell
          have HL := Lib.hid hs
          clear hs
          go_wp2_with fail
          have S1 : Hid (Sc w (wr.alloc (.cells #[.int .i64 s.c, .int .i64 s.x, .int .i64 s.y, .int .i64 s.n, .int .i64 s.m, .int .i64 s.x2, .int .i64 s.y2, .int .i64 s.n2, .int .i64 s.m2, .int .i64 s.x3, .int .i64 s.y3, .int .i64 s.n3, .int .i64 s.m3, .string s.name, .bool s.f, .bool s.u] 103)) cb pb W H ((shas.take i2).foldl (shaP ax ay W H) (labs.foldl (labP ax ay W H) (List.replicate (W * H) 4280295456))) ax ay g) := Lib.hid (S.out.alloc _)
          have hL : Blk (wr.alloc (.cells #[.int .i64 s.c, .int .i64 s.x, .int .i64 s.y, .int .i64 s.n, .int .i64 s.m, .int .i64 s.x2, .int .i64 s.y2, .int .i64 s.n2, .int .i64 s.m2, .int .i64 s.x3, .int .i64 s.y3, .int .i64 s.n3, .int .i64 s.m3, .string s.name, .bool s.f, .bool s.u] 103)) wr.heap.size 103 #[.int .i64 s.c, .int .i64 s.x, .int .i64 s.y, .int .i64 s.n, .int .i64 s.m, .int .i64 s.x2, .int .i64 s.y2, .int .i64 s.n2, .int .i64 s.m2, .int .i64 s.x3, .int .i64 s.y3, .int .i64 s.n3, .int .i64 s.m3, .string s.name, .bool s.f, .bool s.u] := Blk.new' _ _ _ rfl
          generalize wr.alloc (.cells #[.int .i64 s.c, .int .i64 s.x, .int .i64 s.y, .int .i64 s.n, .int .i64 s.m, .int .i64 s.x2, .int .i64 s.y2, .int .i64 s.n2, .int .i64 s.m2, .int .i64 s.x3, .int .i64 s.y3, .int .i64 s.n3, .int .i64 s.m3, .string s.name, .bool s.f, .bool s.u] 103) = wa at S1 hL ⊢
          have hp := S1.out.p
          have hpc := hp.cell
          have hLc := hL.cell
          have hgp : ¬ (fun k => k = pb) g := (S1.out.cv.ne hp (by decide) (by decide)).2
          have hLp : ¬ (fun k => k = pb) wr.heap.size := (S1.out.cv.ne hL (by decide) (by decide)).2
          have hgc : ¬ (fun k => k = pb ∨ k = cb) g := by have h := S1.out.cv.ne hp (by decide) (by decide); simp; omega
          have hLq : ¬ (fun k => k = pb ∨ k = cb) wr.heap.size := by have h := S1.out.cv.ne hL (by decide) (by decide); simp; omega
          have CV := Lib.hid (S1.out.cv.drewN 1)
          clear e0 e1 e2 e3 e4 e5 e6 e7 e8 e9 e10 e11 e12 e13 e14 e15 S
          go_region_held3 (fun w' => (∀ i, w'.cell? ⟨g, i, none⟩ = (#[.pointer (some ⟨cb, 0, none⟩), .int .i64 ax, .int .i64 ay, .int .i64 W, .int .i64 H] : Array Value)[i]?) ∧ (∀ i, w'.cell? ⟨wr.heap.size, i, none⟩ = (#[.int .i64 s.c, .int .i64 s.x, .int .i64 s.y, .int .i64 s.n, .int .i64 s.m, .int .i64 s.x2, .int .i64 s.y2, .int .i64 s.n2, .int .i64 s.m2, .int .i64 s.x3, .int .i64 s.y3, .int .i64 s.n3, .int .i64 s.m3, .string s.name, .bool s.f, .bool s.u] : Array Value)[i]?))
            ((first | exact ⟨fun i => (hp.drewN 1).cell i, fun i => (hL.drewN 1).cell i⟩ | exact ⟨fun i => ((((hp.drewN 1).call hb_w4).call hb_w5).chg hch6 hgp).cell i, fun i => ((((hL.drewN 1).call hb_w4).call hb_w5).chg hch6 hLp).cell i⟩ | exact ⟨fun i => (((hp.drewN 1).call hb_w4).call hb_w5).cell i, fun i => (((hL.drewN 1).call hb_w4).call hb_w5).cell i⟩ | exact ⟨fun i => ((hp.drewN 1).call hb_w4).cell i, fun i => ((hL.drewN 1).call hb_w4).cell i⟩))
            (first | ((go_at_call 54; refine (here_any cb ax ay W H s.x s.y s.n s.m _).mono ?_; rintro e w4 ⟨rfl, hb_w4⟩)) | ((go_at_call 56; refine (edge_any _ _ _ _ _ _ _ _ _ _ _ _ _ _ _ _ _).mono ?_; rintro e w5 ⟨rfl, hb_w5⟩)) | ((go_at_call 53; refine (fill_full cb pb W H _ _ (hereR ax ay W H s.x s.y s.n s.m) _ ((CV.out.below hb_w4).below hb_w5)).mono ?_; rintro e w6 ⟨rfl, hcv6, hch6⟩)))
          have S2 := Lib.hid ((((S1.out.drewN 1).below hb_w4).below hb_w5).paint hcv6 (hch6.mono (fun _ _ h => .inl h)))
          have hp6 := (((hp.drewN 1).call hb_w4).call hb_w5).chg hch6 hgp
          have hL6 := (((hL.drewN 1).call hb_w4).call hb_w5).chg hch6 hLp
          have hp6c := hp6.cell
          have hL6c := hL6.cell
          clear hp hpc hL hLc CV hcv6 hch6 hb_w4 hb_w5 S1
          go_wp2_with (go_at_call 55; refine (write_any cb pb W H _ ax ay s.x2 s.y2 s.n2 s.m2 s.name _ S2.out.cv hat (N2.out s (List.mem_of_getElem? HL.out))).mono ?_; rintro e w7 ⟨rfl, hcv7, hch7⟩)
          have S3 := Lib.hid (S2.out.paint hcv7 hch7)
          have hp := hp6.chg hch7 hgc
          have hL := hL6.chg hch7 hLq
          clear hcv7 hch7 S2 hp6 hL6 hp6c hL6c
          have hpc := hp.cell
          have hLc := hL.cell
          have CV := Lib.hid (S3.out.cv.drewN 1)
          go_upto_region 21 with fail
          go_region_held3 (fun w' => (∀ i, w'.cell? ⟨g, i, none⟩ = (#[.pointer (some ⟨cb, 0, none⟩), .int .i64 ax, .int .i64 ay, .int .i64 W, .int .i64 H] : Array Value)[i]?) ∧ (∀ i, w'.cell? ⟨wr.heap.size, i, none⟩ = (#[.int .i64 s.c, .int .i64 s.x, .int .i64 s.y, .int .i64 s.n, .int .i64 s.m, .int .i64 s.x2, .int .i64 s.y2, .int .i64 s.n2, .int .i64 s.m2, .int .i64 s.x3, .int .i64 s.y3, .int .i64 s.n3, .int .i64 s.m3, .string s.name, .bool s.f, .bool s.u] : Array Value)[i]?))
            ((first | exact ⟨fun i => (hp.drewN 1).cell i, fun i => (hL.drewN 1).cell i⟩ | exact ⟨fun i => (((hp.drewN 1).call hb_w4).chg hch6 hgp).cell i, fun i => (((hL.drewN 1).call hb_w4).chg hch6 hLp).cell i⟩ | exact ⟨fun i => ((hp.drewN 1).call hb_w4).cell i, fun i => ((hL.drewN 1).call hb_w4).cell i⟩))
            (first | ((go_at_call 54; refine (here_any cb ax ay W H s.x3 s.y3 s.n3 s.m3 _).mono ?_; rintro e w4 ⟨rfl, hb_w4⟩)) | ((go_at_call 21; refine (colour_any _ _).mono ?_; rintro e w' ⟨rfl, rfl⟩)) | ((go_at_call 53; refine (fill_full cb pb W H _ _ (hereR ax ay W H s.x3 s.y3 s.n3 s.m3) _ (CV.out.below hb_w4)).mono ?_; rintro e w6 ⟨rfl, hcv6, hch6⟩)))
          have S4 := Lib.hid (((S3.out.drewN 1).below hb_w4).paint hcv6 (hch6.mono (fun _ _ h => .inl h)))
          clear hp hpc hL hLc CV hcv6 hch6 hb_w4 S3
          go_wp2_with fail
          go_roundw
          case rel => exact ⟨i2 + 1, by omega, by go_num, Lib.hid (by rw [List.take_succ_eq_append_getElem hlt, List.foldl_append, show shas[i2] = s from Option.some.inj ((List.getElem?_eq_getElem hlt).symm.trans HL.out), List.foldl_cons, List.foldl_nil]; exact S4.out)⟩
          case measure => simp [intOf]; omega
        · have e : i2 = shas.length := by omega
          have S' : Hid (Sc w wr cb pb W H (shas.foldl (shaP ax ay W H) (labs.foldl (labP ax ay W H) (List.replicate (W * H) 4280295456))) ax ay g) := Lib.hid (by have h := S.out; rwa [e, List.take_length] at h)
          clear e S
          have hp := S'.out.p.cell
          have hrb := S'.out.r
          have hrl := hrb.lt
          obtain ⟨cw, ch, hcv, hful⟩ := S'.out.cv
          have CV := Lib.hid hcv
          clear hcv
          go_wp2_with (go_at_call 57; refine (image_any cb pb W H 0 0 cw ch _ _ CV.out).mono ?_; rintro e w8 ⟨g8, cap8, rfl, HG, hgs8, hb_w8⟩; have hr8 := hrb.call hb_w8; have hr8c := hr8.cell; have hr8f := hr8.frozen)
          have hws := S'.out.b.size
          have hB8 := below_call S'.out.b hb_w8
          refine bodyPost_ret (v := .tuple #[.agg #[.int .i64 W, .int .i64 H, .slice (some ⟨g8, 0, none⟩) (shas.foldl (shaP ax ay W H) (labs.foldl (labP ax ay W H) (List.replicate (W * H) 4280295456))).length cap8], .int .i64 0]) (by simp [results, Try.results16, go_sem, *]) rfl ⟨g8, cap8, _, rfl, Lib.hid ?_, by (repeat (first | (with_reducible exact Below.refl _ _) | (with_reducible refine below_al ?_ _) | (with_reducible refine below_dr ?_) | (with_reducible refine below_dn ?_ _) | (with_reducible refine below_set ?_ (by first | rfl | (simp; done) | (simp; omega)) _) | (with_reducible refine below_call ?_ (by with_reducible assumption)))), rfl⟩
          refine (((HG.out.base hws).setCell ?_ _).setCell ?_ _).setCell ?_ _ <;> (simp; omega)
end Go.Proofs.Ytkahhglgebhfbaa
