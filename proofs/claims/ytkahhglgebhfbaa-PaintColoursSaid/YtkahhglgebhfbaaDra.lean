/- Walk of font's Draw. -/
import Derived.Test.YtkahhglgebhfbaaInk
namespace Go.Proofs.Ytkahhglgebhfbaa
open Go.RowKit
set_option linter.unusedSimpArgs false
set_option linter.unusedVariables false
attribute [local go_sem] max_ints min_ints

/-- A canvas on which so many signs, rows and bits of a text are painted; the place; what else is known. -/
structure Dr (w wr : World) (cb pb W H cx cy cw ch : Nat) (px : List Int) (col X Y : Int) (s : ByteArray) (i r k : Nat) : Prop where
  cv : Cv wr cb pb W H cx cy cw ch (paintP px (pz W cx cy cw ch X Y s i r k) col)
  blk : Blk wr w.heap.size 47 #[.int .i64 X, .int .i64 Y]
  chg : Chg (· = pb) w wr
section
variable {w wr : World} {cb pb W H cx cy cw ch : Nat} {px : List Int} {col X Y : Int} {s : ByteArray} {i r k i' r' k' : Nat}
theorem Dr.to (h : Dr w wr cb pb W H cx cy cw ch px col X Y s i r k) (he : ∀ u v : Int, (inkB X Y s u v && donB X Y i r k u v) = (inkB X Y s u v && donB X Y i' r' k' u v)) :
    Dr w wr cb pb W H cx cy cw ch px col X Y s i' r' k' :=
  ⟨by have e := paintP_congr (px := px) (P := pz W cx cy cw ch X Y s i r k) (Q := pz W cx cy cw ch X Y s i' r' k') col (fun j _ => by unfold pz; rw [he]); rw [← e]; exact h.cv, h.blk, h.chg⟩
theorem Dr.ends (h : Dr w wr cb pb W H cx cy cw ch px col X Y s i 0 0) (he : min (s.size : Int) 1024 ≤ i ∨ ¬ (-32768 ≤ X ∧ X ≤ 32767 ∧ -32768 ≤ Y ∧ Y ≤ 32767) ∨ 32767 < X + i * 8) :
    Cv wr cb pb W H cx cy cw ch (paintP px (fun j => inC W cx cy cw ch j && inkB X Y s ((j % W : Nat) : Int) ((j / W : Nat) : Int)) col) := by
  have e := paintP_congr (px := px) (P := pz W cx cy cw ch X Y s i 0 0) (Q := fun j => inC W cx cy cw ch j && inkB X Y s ((j % W : Nat) : Int) ((j / W : Nat) : Int)) col (fun j _ => by unfold pz; rw [ink_end _ _ he])
  rw [← e]; exact h.cv
end


set_option maxRecDepth 100000 in
set_option maxHeartbeats 4000000 in
theorem draw_any (cb pb W H cx cy cw ch : Nat) (px : List Int) (col X Y : Int) (s : ByteArray) (w : World) (hcv : Cv w cb pb W H cx cy cw ch px) (hs : s.size ≤ maxLen)
    (hXa : -1048576 ≤ X) (hXb : X ≤ 1048576) (hYa : -1048576 ≤ Y) (hYb : Y ≤ 1048576) :
    Calls Try.prog 94 #[.pointer (some ⟨cb, 0, none⟩), .agg #[.int .i64 X, .int .i64 Y], .string s, .int .u32 col] w fun e w' =>
      e = .returned (.tuple #[]) ∧ Cv w' cb pb W H cx cy cw ch (paintP px (fun j => inC W cx cy cw ch j && inkB X Y s ((j % W : Nat) : Int) ((j / W : Nat) : Int)) col) ∧ Chg (· = pb) w w' := by
  unfold maxLen at hs
  have D0 : Hid (Dr w (w.alloc (.cells #[.int .i64 X, .int .i64 Y] 47)) cb pb W H cx cy cw ch px col X Y s 0 0 0) := Lib.hid ⟨by
    rw [paintP_none _ _ _ (fun j _ => by unfold pz; rw [ink_start]; simp)]; exact hcv.alloc _, Blk.new' _ _ _ (by simp), (Chg.refl _).alloc _⟩
  have hpl := hcv.pix.lt
  have hpne : w.heap.size ≠ pb := by omega
  clear hcv
  go_enter Try.func94, Try.ntmps94
  go_wp2_with fail
  go_loopw [15] (fun u wr => ∃ i : Nat, (i : Int) ≤ min (s.size : Int) 1024 ∧ u = .int .i64 i ∧ Hid (Dr w wr cb pb W H cx cy cw ch px col X Y s i 0 0)) (fun u _ => s.size - (intOf u).toNat)
  case atStart => exact ⟨0, by omega, rfl, D0⟩
  case round =>
    obtain ⟨i, hi, rfl, D⟩ := hrel
    clear D0
    by_cases hlt : (i : Int) < min (s.size : Int) 1024
    · have hls : i < s.size := by omega
      have hd0 : decide ((i : Int) < min (s.size : Int) 1024) = true := by simpa using hlt
      have b1 := D.out.blk.cell
      by_cases hout : X > 32767 ∨ X < -32768 ∨ Y > 32767 ∨ Y < -32768 ∨ X + i * 8 > 32767
      · have he := D.out.ends (by omega)
        have HE := Lib.hid he
        have HG := Lib.hid D.out.chg
        clear he
        go_wp2_with fail
        all_goals first | (refine bodyPost_ret (results_none rfl _ _ _) rfl ?_; exact ⟨rfl, HE.out, HG.out⟩) | (exfalso; omega)
      · have hX1 : -32768 ≤ X := by omega
        have hX2 : X ≤ 32767 := by omega
        have hY1 : -32768 ≤ Y := by omega
        have hY2 : Y ≤ 32767 := by omega
        have hx : X + i * 8 ≤ 32767 := by omega
        have d1 : decide (32767 < X) = false := by simpa using hX2
        have d2 : decide (X < -32768) = false := by simpa using hX1
        have d3 : decide (32767 < Y) = false := by simpa using hY2
        have d4 : decide (Y < -32768) = false := by simpa using hY1
        have d5 : decide (32767 < X + (i : Int) * 8) = false := by simpa using hx
        clear hout
        go_wp2_with fail
        go_loopw [45] (fun u wr => ∃ r : Nat, r ≤ 16 ∧ u = .int .i64 r ∧ Hid (Dr w wr cb pb W H cx cy cw ch px col X Y s i r 0)) (fun u _ => 16 - (intOf u).toNat)
        case atStart => exact ⟨0, by omega, rfl, D⟩
        case round =>
          obtain ⟨r, hr, rfl, D2⟩ := hrel
          clear D b1
          by_cases hr2 : r < 16
          · have hd6 : decide ((r : Int) < 16) = true := by simp; omega
            go_wp2_with fail
            go_loopw [48] (fun u wr => ∃ k : Nat, k ≤ 8 ∧ u = .int .i64 k ∧ Hid (Dr w wr cb pb W H cx cy cw ch px col X Y s i r k)) (fun u _ => 8 - (intOf u).toNat)
            case atStart => exact ⟨0, by omega, rfl, D2⟩
            case round =>
              obtain ⟨k, hk, rfl, D3⟩ := hrel
              clear D2
              by_cases hk2 : k < 8
              · have b3 := D3.out.blk.cell
                have hb8 : ((s[i]'hls).toNat : Int) ≤ 255 := by have := (s[i]'hls).toNat_lt; omega
                have ebt : byteAt s i = ((s[i]'hls).toNat : Int) := byteAt_pos s i hls
                cases hbit : bitB (fontB ((s[i]'hls).toNat : Int) r) (7 - k) with
                | true =>
                  have hset : Hid (∀ u v : Int, (inkB X Y s u v && donB X Y i r (k + 1) u v) = (inkB X Y s u v && donB X Y i r k u v || decide (u = X + i * 8 + k ∧ v = Y + r))) :=
                    Lib.hid fun u v => ink_set u v ⟨hX1, hX2, hY1, hY2⟩ hx hlt hr2 hk2 (by rw [ebt]; exact hbit)
                  have hbt : (Go.bits .and .u8 (fontB ((s[i]'hls).toNat : Int) r / 2 ^ (7 - k)) 1 == 1) = true := hbit
                  clear hbit ebt
                  go_wp2_with (first | (go_at_call 123; refine (bits_any _ _ _ (by omega) (by omega) (by omega) (by omega)).mono ?_; rintro e w' ⟨rfl, rfl⟩) | (go_at_call 124; refine (dot_any _ _ _).mono ?_; rintro e w1 ⟨rfl, hb_w1⟩; have hz_w1 := hb_w1.size; (try simp only [World.size_alloc, World.size_setCell, World.size_drew, World.heap_drewN] at hz_w1); (try ((refine Blk.use (w := w1) (g := w.heap.size) (t := 47) (cs := #[.int .i64 X, .int .i64 Y]) ?hblk (fun hk0_w1 hc0_w1 hf0_w1 hl0_w1 hm0_w1 hn0_w1 => ?_)); (case hblk => ((repeat (first | (with_reducible assumption) | (with_reducible refine Blk.drew ?_) | (with_reducible refine Blk.drewN ?_ _) | (with_reducible exact Blk.new' _ _ _ (by first | rfl | (simp; done) | (simp; omega))) | (with_reducible refine Blk.alloc ?_ _) | ((with_reducible refine Blk.set2e ?_); exact ⟨_, by with_reducible assumption, rfl⟩) | ((with_reducible refine Blk.set4e ?_); exact ⟨_, by with_reducible assumption, rfl⟩) | (with_reducible refine Blk.set2 (a := .int .i64 0) (b := .int .i64 0) ?_) | (with_reducible refine Blk.set4 (a := .int .i64 0) (b := .int .i64 0) (c := .int .i64 0) (d := .int .i64 0) ?_) | (with_reducible refine Blk.call ?_ (by with_reducible assumption)) | (with_reducible refine Blk.chg ?_ (by with_reducible assumption) (by first | assumption | (simp; omega) | omega)) | (with_reducible refine Blk.far ?_ (by first | rfl | (simp; done) | (simp; omega)) _))); done))))) | (go_at_call 53; refine (fill_dot cb pb W H cx cy cw ch _ col _ _ _ (D3.out.cv.below hb_w1)).mono ?_; rintro e w2 ⟨rfl, hcv2, hch2⟩))
                  have D4 : Hid (Dr w w2 cb pb W H cx cy cw ch px col X Y s i r (k + 1)) := Lib.hid (by
                    refine ⟨?_, ?_, ?_⟩
                    · rw [paintP_paintP] at hcv2
                      have e := paintP_congr (px := px) (P := fun j => pz W cx cy cw ch X Y s i r k j || (inC W cx cy cw ch j && decide (((j % W : Nat) : Int) = X + i * 8 + k ∧ ((j / W : Nat) : Int) = Y + r))) (Q := pz W cx cy cw ch X Y s i r (k + 1)) col (fun j _ => by unfold pz; rw [hset.out, ← Bool.and_or_distrib_left])
                      rw [← e]; exact hcv2
                    · exact (D3.out.blk.call hb_w1).chg hch2 hpne
                    · exact (D3.out.chg.below hb_w1).call hch2 (fun _ _ h => h))
                  clear hcv2 hch2
                  go_roundw
                  case rel => exact ⟨k + 1, by omega, by go_num, D4⟩
                  case measure => simp [intOf]; omega
                | false =>
                  have hclr : Hid (∀ u v : Int, (inkB X Y s u v && donB X Y i r k u v) = (inkB X Y s u v && donB X Y i r (k + 1) u v)) :=
                    Lib.hid fun u v => (ink_clear u v hr2 hk2 (by rw [ebt]; exact hbit)).symm
                  have hbt : (Go.bits .and .u8 (fontB ((s[i]'hls).toNat : Int) r / 2 ^ (7 - k)) 1 == 1) = false := hbit
                  have D4 := Lib.hid (D3.out.to hclr.out)
                  clear hbit ebt hclr
                  go_wp2_with (first | (go_at_call 123; refine (bits_any _ _ _ (by omega) (by omega) (by omega) (by omega)).mono ?_; rintro e w' ⟨rfl, rfl⟩))
                  go_roundw
                  case rel => exact ⟨k + 1, by omega, by go_num, D4⟩
                  case measure => simp [intOf]; omega
              · have e8 : k = 8 := by omega
                have D4 : Hid (Dr w wr cb pb W H cx cy cw ch px col X Y s i (r + 1) 0) := Lib.hid (by subst e8; exact D3.out.to (fun u v => ink_row u v))
                clear e8
                go_wp2_with fail
                go_roundw
                case rel => exact ⟨r + 1, by omega, by go_num, D4⟩
                case measure => simp [intOf]; omega
          · have e16 : r = 16 := by omega
            have D4 : Hid (Dr w wr cb pb W H cx cy cw ch px col X Y s (i + 1) 0 0) := Lib.hid (by subst e16; exact D2.out.to (fun u v => ink_col u v))
            clear e16
            go_wp2_with fail
            go_roundw
            case rel => exact ⟨i + 1, by omega, by go_num, D4⟩
            case measure => simp [intOf]; omega
    · have he := D.out.ends (by omega)
      have HE := Lib.hid he
      have HG := Lib.hid D.out.chg
      clear he
      go_wp2_with fail
      go_end0
      exact ⟨rfl, HE.out, HG.out⟩
end Go.Proofs.Ytkahhglgebhfbaa
