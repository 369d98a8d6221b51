/- Walks of raster's each and Fill. -/
import Derived.Test.YtkahhglgebhfbaaCan
namespace Go.Proofs.Ytkahhglgebhfbaa
open Go.RowKit
set_option linter.unusedSimpArgs false
set_option linter.unusedVariables false
attribute [local go_sem] max_ints min_ints

theorem clo_mk (fn : Fn) (first cap : Array Value) (w : World) : (Instr.makeFunc fn first cap).run Try.prog w = .ok (.func fn first cap) w := rfl

theorem at_nat (cb pb x y W nn cc : Nat) (w : World) (h0 : w.cell? ⟨cb, 0, none⟩ = some (.int .i64 W)) (h2 : w.cell? ⟨cb, 2, none⟩ = some (.slice (some ⟨pb, 0, none⟩) nn cc))
    (hW2 : W ≤ 1024) (hy1 : y ≤ 1024) (hx1 : x ≤ 1024) (hlt : y * W + x < nn) :
    Calls Try.prog 122 #[.pointer (some ⟨cb, 0, none⟩), .int .i64 x, .int .i64 y] w fun e w' => e = .returned (.pointer (some ⟨pb, y * W + x, none⟩)) ∧ ∃ n, w' = w.drewN n := by
  have hm : y * W ≤ 1024 * 1024 := Nat.mul_le_mul hy1 hW2
  have hc : ((y * W : Nat) : Int) = (y : Int) * W := Int.natCast_mul y W
  have h := at_any cb pb x y W w nn cc h0 h2 (by omega) (by omega) (by omega) (by omega) (by omega) (by omega) (by rw [← hc]; omega) (by rw [← hc]; omega) (by rw [← hc]; omega)
  have e : ((y : Int) * W + x).toNat = y * W + x := by rw [← hc]; omega
  rw [e] at h
  exact h


set_option maxHeartbeats 1000000 in
theorem each_fill (cb pb W H cx cy cw ch kb : Nat) (px : List Int) (col rx ry rw rh : Int) (x y n m : Nat) (w : World) (hcv : Cv w cb pb W H cx cy cw ch px) (hk : Blk w kb 41 #[.int .u32 col]) (hne : kb ≠ pb)
    (hr : intR rx ry rw rh cx cy cw ch = ((x : Int), (y : Int), (n : Int), (m : Int))) (hx : x + n ≤ W) (hy : y + m ≤ H) :
    Calls Try.prog 91 #[.pointer (some ⟨cb, 0, none⟩), .agg #[.int .i64 rx, .int .i64 ry, .int .i64 rw, .int .i64 rh], .func (.func 92) #[] #[.pointer (some ⟨kb, 0, none⟩)]] w fun e w' =>
      e = .returned (.tuple #[]) ∧ Cv w' cb pb W H cx cy cw ch (paintR px W x y n m col) ∧ Chg (· = pb) w w' := by
  have hI : ∀ W : World, Calls Try.prog 38 #[.agg #[.int .i64 rx, .int .i64 ry, .int .i64 rw, .int .i64 rh], .agg #[.int .i64 cx, .int .i64 cy, .int .i64 cw, .int .i64 ch]] W fun e w' =>
      e = .returned (.agg #[.int .i64 x, .int .i64 y, .int .i64 n, .int .i64 m]) ∧ Below W.heap.size W w' := by
    intro W
    have h := inter_any rx ry rw rh cx cy cw ch W
    rw [hr] at h
    exact h
  have HI := Lib.hid hI
  clear hr hI
  have hcl := hcv.hd.lt
  have hpl := hcv.pix.lt
  have hkl := hk.lt
  have hc0 := hcv.hd.cell
  have hw1 := hcv.wide
  have hh1 := hcv.high
  have HC := Lib.hid hcv
  have HK := Lib.hid hk
  clear hcv hk
  go_enter Try.func91, Try.ntmps91
  go_upto_region 1 with fail
  go_cut [4] (fun v4 wx => v4 = .pointer (some ⟨w.heap.size, 0, none⟩) ∧ Hid (Blk wx w.heap.size 23 #[.int .i64 x, .int .i64 y, .int .i64 n, .int .i64 m]) ∧ Below w.heap.size w wx)
  case first =>
    go_region_with (first | (go_at_call 38; refine (HI.out _).mono ?_; rintro e w1 ⟨rfl, hb_w1⟩; have hz_w1 := hb_w1.size; (try simp only [World.size_alloc, World.size_setCell, World.size_drew, World.heap_drewN] at hz_w1); (try ((refine Blk.use (w := w1) (g := w.heap.size) (t := 23) (cs := #[.int .i64 rx, .int .i64 ry, .int .i64 rw, .int .i64 rh]) ?hblk (fun hk0_w1 hc0_w1 hf0_w1 hl0_w1 hm0_w1 hn0_w1 => ?_)); (case hblk => ((repeat (first | (with_reducible assumption) | (with_reducible refine Blk.drew ?_) | (with_reducible refine Blk.drewN ?_ _) | (with_reducible exact Blk.new' _ _ _ (by first | rfl | (simp; done) | (simp; omega))) | (with_reducible refine Blk.alloc ?_ _) | ((with_reducible refine Blk.set2e ?_); exact ⟨_, by with_reducible assumption, rfl⟩) | ((with_reducible refine Blk.set4e ?_); exact ⟨_, by with_reducible assumption, rfl⟩) | (with_reducible refine Blk.set2 (a := .int .i64 0) (b := .int .i64 0) ?_) | (with_reducible refine Blk.set4 (a := .int .i64 0) (b := .int .i64 0) (c := .int .i64 0) (d := .int .i64 0) ?_) | (with_reducible refine Blk.call ?_ (by with_reducible assumption)) | (with_reducible refine Blk.chg ?_ (by with_reducible assumption) (by first | assumption | (simp; omega) | omega)) | (with_reducible refine Blk.far ?_ (by first | rfl | (simp; done) | (simp; omega)) _))); done))))))
    all_goals (go_wp2_with fail; go_meet; exact ⟨rfl, Lib.hid (Blk.set4 (a := .int .i64 rx) (b := .int .i64 ry) (c := .int .i64 rw) (d := .int .i64 rh) (by (repeat (first | (with_reducible assumption) | (with_reducible refine Blk.drew ?_) | (with_reducible refine Blk.drewN ?_ _) | (with_reducible exact Blk.new' _ _ _ (by first | rfl | (simp; done) | (simp; omega))) | (with_reducible refine Blk.alloc ?_ _) | ((with_reducible refine Blk.set2e ?_); exact ⟨_, by with_reducible assumption, rfl⟩) | ((with_reducible refine Blk.set4e ?_); exact ⟨_, by with_reducible assumption, rfl⟩) | (with_reducible refine Blk.set2 (a := .int .i64 0) (b := .int .i64 0) ?_) | (with_reducible refine Blk.set4 (a := .int .i64 0) (b := .int .i64 0) (c := .int .i64 0) (d := .int .i64 0) ?_) | (with_reducible refine Blk.call ?_ (by with_reducible assumption)) | (with_reducible refine Blk.chg ?_ (by with_reducible assumption) (by first | assumption | (simp; omega) | omega)) | (with_reducible refine Blk.far ?_ (by first | rfl | (simp; done) | (simp; omega)) _))))), by (repeat (first | (with_reducible exact Below.refl _ _) | (with_reducible refine below_al ?_ _) | (with_reducible refine below_dr ?_) | (with_reducible refine below_dn ?_ _) | (with_reducible refine below_set ?_ (by first | rfl | (simp; done) | (simp; omega)) _) | (with_reducible refine below_call ?_ (by with_reducible assumption))))⟩)
  case rest =>
    obtain ⟨rfl, B0, hb1⟩ := hcut
    clear hc0
    have CV0 := Lib.hid (HC.out.below hb1)
    have K0 := Lib.hid (HK.out.call hb1)
    have CH0 : Hid (Chg (· = pb) w wc) := Lib.hid (Chg.of_below hb1)
    have b0 := B0.out.cell
    clear HI HC HK hb1
    go_wp2_with fail
    go_loopw [6] (fun u wr => ∃ v : Nat, y ≤ v ∧ v ≤ y + m ∧ u = .int .i64 v ∧ Hid (Cv wr cb pb W H cx cy cw ch (paintR px W x y n (v - y) col)) ∧ Hid (Blk wr w.heap.size 23 #[.int .i64 x, .int .i64 y, .int .i64 n, .int .i64 m]) ∧ Hid (Blk wr kb 41 #[.int .u32 col]) ∧ Hid (Chg (· = pb) w wr)) (fun u _ => y + m - (intOf u).toNat)
    case atStart => exact ⟨y, Nat.le_refl _, by omega, rfl, Lib.hid (by rw [Nat.sub_self, paintR_none _ _ _ _ _ _ _ (.inr rfl)]; exact CV0.out), B0, K0, CH0⟩
    case round =>
      obtain ⟨v, hv1, hv2, rfl, CV, B, K, CH⟩ := hrel
      clear CV0 K0 CH0 B0 b0
      obtain ⟨wo, rfl⟩ : ∃ wo : World, wo = wr := ⟨_, rfl⟩
      have b1 := B.out.cell
      have hpne : w.heap.size ≠ pb := by omega
      by_cases hlt : v < y + m
      · have hdec : decide ((v : Int) < (y : Int) + (m : Int)) = true := by simp; omega
        go_wp2_with fail
        go_loopw [7] (fun u wr => ∃ q : Nat, x ≤ q ∧ q ≤ x + n ∧ u = .int .i64 q ∧ Hid (Cv wr cb pb W H cx cy cw ch (paintR (paintR px W x y n (v - y) col) W x v (q - x) 1 col)) ∧ Hid (Blk wr w.heap.size 23 #[.int .i64 x, .int .i64 y, .int .i64 n, .int .i64 m]) ∧ Hid (Blk wr kb 41 #[.int .u32 col]) ∧ Hid (Chg (· = pb) w wr)) (fun u _ => x + n - (intOf u).toNat)
        case atStart => exact ⟨x, Nat.le_refl _, by omega, rfl, Lib.hid (by rw [Nat.sub_self, paintR_none _ _ _ _ _ _ _ (.inl rfl)]; exact CV.out), B, K, CH⟩
        case round =>
          obtain ⟨q, hq1, hq2, rfl, CV2, B2, K2, CH2⟩ := hrel
          clear CV B K CH b1
          have b2 := B2.out.cell
          by_cases hq : q < x + n
          · have hqW : q < W := by omega
            have hvH : v < H := by omega
            have hidx : v * W + q < px.length := by
              have hl : px.length = W * H := by have h := CV2.out.len; rwa [paintR_length, paintR_length] at h
              rw [hl]
              calc v * W + q < v * W + W := by omega
                _ = (v + 1) * W := by rw [Nat.succ_mul]
                _ ≤ H * W := Nat.mul_le_mul (by omega) (Nat.le_refl _)
                _ = W * H := Nat.mul_comm _ _
            have c2 := CV2.out.hd.cell
            have hlen : (paintR (paintR px W x y n (v - y) col) W x v (q - x) 1 col).length = px.length := by rw [paintR_length, paintR_length]
            rw [hlen] at c2
            obtain ⟨v0, hv0⟩ : ∃ v0, wr.cell? ⟨pb, v * W + q, none⟩ = some v0 := ⟨_, (CV2.out.pix.cell _).trans (pixV_get _ _ (by rw [hlen]; exact hidx))⟩
            have hfz := CV2.out.pix.frozen (v * W + q)
            have k2 := K2.out.cell
            go_wp2_with (first
              | (go_at_call 122; refine (at_nat cb pb q v W px.length px.length _ (by go_simp) (by go_simp) hw1 (by omega) (by omega) hidx).mono ?_; rintro e w' ⟨rfl, nq, rfl⟩)
              | (go_at_call 92; refine (fill1_any _ _ pb (v * W + q) kb col v0 _ (by go_simp) (by go_simp) (by go_simp)).mono ?_; rintro e w' ⟨rfl, rfl⟩))
            have e2 := paintR_step (paintR px W x y n (v - y) col) W x v (q - x) col (by omega)
            rw [show x + (q - x) = q by omega, show q - x + 1 = q + 1 - x by omega] at e2
            have CV3 : Hid (Cv ((wr.drewN nq).setCell ⟨pb, v * W + q, none⟩ (.int .u32 col)) cb pb W H cx cy cw ch (paintR (paintR px W x y n (v - y) col) W x v (q + 1 - x) 1 col)) := Lib.hid (by rw [← e2]; exact (CV2.out.drewN nq).dot _ _)
            clear e2
            go_roundw
            case rel => exact ⟨q + 1, by omega, by omega, by go_num, CV3, Lib.hid ((B2.out.drewN nq).far hpne _), Lib.hid ((K2.out.drewN nq).far hne _), Lib.hid ((CH2.out.drewN nq).setCell (p := ⟨pb, v * W + q, none⟩) (fun _ => rfl) _)⟩
            case measure => simp [intOf]; omega
          · go_wp2_with fail
            have e : q = x + n := by omega
            go_roundw
            case rel => exact ⟨v + 1, by omega, by omega, by go_num, Lib.hid (by have h := CV2.out; rw [e, Nat.add_sub_cancel_left] at h; have e2 := paintR_row px W x y n (v - y) col; rw [show y + (v - y) = v by omega] at e2; rw [e2] at h; rw [show v + 1 - y = v - y + 1 by omega]; exact h), B2, K2, CH2⟩
            case measure => simp [intOf]; omega
      · go_wp2_with fail
        go_end0
        have e : v = y + m := by omega
        subst e
        refine ⟨rfl, ?_, CH.out⟩
        have := CV.out
        rwa [Nat.add_sub_cancel_left] at this

end Go.Proofs.Ytkahhglgebhfbaa
