/- Walk of the statements' awake: the chapter's example; and of the reference's Colour. -/
import Derived.Test.YtkahhglgebhfbaaSam
namespace Go.Proofs.Ytkahhglgebhfbaa
open Go.RowKit
set_option linter.unusedSimpArgs false
set_option linter.unusedVariables false
attribute [local go_sem] max_ints min_ints

def sha1 : Sha := ⟨0, 0, 0, 1, 1, 0, 0, 0, 0, 0, 0, 0, 0, ⟨#[]⟩, false, false⟩
theorem px1 : [sha1].foldl (shaP 0 0 (2 : Nat) (1 : Nat)) (([] : List Lab).foldl (labP 0 0 (2 : Nat) (1 : Nat)) (List.replicate (2 * 1) 4280295456)) = [4281545523, 4280295456] := by decide +kernel
theorem col1 : colC 1 = 4280844515 := by decide +kernel

set_option maxRecDepth 100000 in
set_option maxHeartbeats 2000000 in
theorem awake_any (w : World) : Calls Try.prog 15 #[] w fun e w' => e = .returned (.bool true) ∧ Below w.heap.size w w' := by
  have hS : ∀ (sb : Nat) (V : World), Blk V sb 103 #[.int .i64 0, .int .i64 0, .int .i64 0, .int .i64 1, .int .i64 1, .int .i64 0, .int .i64 0, .int .i64 0, .int .i64 0, .int .i64 0, .int .i64 0, .int .i64 0, .int .i64 0, .string ⟨#[]⟩, .bool false, .bool false] →
      Calls Try.prog 16 #[.agg #[.int .i64 0, .int .i64 0, .int .i64 2, .int .i64 1], .slice none 0 0, .slice (some ⟨sb, 0, none⟩) 1 1] V fun e w' =>
      ∃ g cap, e = .returned (.tuple #[.agg #[.int .i64 2, .int .i64 1, .slice (some ⟨g, 0, none⟩) 2 cap], .int .i64 0]) ∧ Hid (Pic w' V.heap.size g cap [4281545523, 4280295456]) ∧ Below V.heap.size V w' := by
    intro sb V hb
    have h := screen_ok 0 0 2 1 none (some ⟨sb, 0, none⟩) 0 sb 0 1 [] [sha1] V (by decide) (by decide) (by decide) (.inl rfl) (.inr rfl) (by decide) (by decide) (fun i hi => absurd hi (by simp))
      (fun i hi j v hv => by
        have : i = 0 := by simp at hi; omega
        subst this
        rw [Nat.zero_mul, Nat.zero_add, hb.cell j]
        have hv' : sha1.vals[j]? = some v := hv
        simpa [Sha.vals, sha1] using hv') (fun l hl => absurd hl (by simp)) (fun s hs => by simp at hs; subst hs; decide)
    refine h.mono ?_
    rintro e w' ⟨g, cap, px, he, hp, hB, hpx⟩
    rw [px1] at hpx
    subst hpx
    exact ⟨g, cap, he, hp, hB⟩
  have HS := Lib.hid hS
  have q : (colC 1 == 4280844515) = true := by rw [col1]; rfl
  have hM : ∀ (g g2 cap : Nat) (V : World), (∃ base, Pic V base g cap [4281545523, 4280295456]) → g < V.heap.size → Blk V g2 41 #[.int .u32 4281545523, .int .u32 4280295456] →
      Calls Try.prog 20 #[.agg #[.int .i64 2, .int .i64 1, .slice (some ⟨g, 0, none⟩) 2 cap], .agg #[.int .i64 2, .int .i64 1, .slice (some ⟨g2, 0, none⟩) 2 2]] V fun e w' => e = .returned (.bool true) ∧ Below V.heap.size V w' := by
    intro g g2 cap V ⟨base, hp⟩ hg hb
    have h := same_any 2 1 2 1 (some ⟨g, 0, none⟩) (some ⟨g2, 0, none⟩) cap 2 [4281545523, 4280295456] [4281545523, 4280295456] V (by decide) (by decide) (.inr ⟨g, rfl, hg, fun j hj => hp.get j hj⟩)
      (.inr ⟨g2, rfl, hb.lt, fun j hj => by
        have hj2 : j = 0 ∨ j = 1 := by simp at hj; omega
        rcases hj2 with rfl | rfl <;> exact hb.cell _⟩)
    rw [show sameB 2 1 [4281545523, 4280295456] 2 1 [4281545523, 4280295456] = true by decide] at h
    exact h
  have HM := Lib.hid hM
  clear hS hM
  go_enter Try.func15, Try.ntmps15
  go_wp2_with (first
    | (go_at_call 16; refine (HS.out _ _ (by (repeat (first | (with_reducible assumption) | (with_reducible refine Blk.drew ?_) | (with_reducible refine Blk.drewN ?_ _) | (with_reducible exact Blk.new' _ _ _ (by first | rfl | (simp; done) | (simp; omega))) | (with_reducible refine Blk.alloc ?_ _) | ((with_reducible refine Blk.set2e ?_); exact ⟨_, by with_reducible assumption, rfl⟩) | ((with_reducible refine Blk.set4e ?_); exact ⟨_, by with_reducible assumption, rfl⟩) | (with_reducible refine Blk.set2 (a := .int .i64 0) (b := .int .i64 0) ?_) | (with_reducible refine Blk.set4 (a := .int .i64 0) (b := .int .i64 0) (c := .int .i64 0) (d := .int .i64 0) ?_) | (with_reducible refine Blk.call ?_ (by with_reducible assumption)) | (with_reducible refine Blk.chg ?_ (by with_reducible assumption) (by first | assumption | (simp; omega) | omega)) | (with_reducible refine Blk.far ?_ (by first | rfl | (simp; done) | (simp; omega)) _))))).mono ?_; rintro e w1 ⟨g, cap, rfl, HP, hb_w1⟩)
    | (go_at_call 20; refine (HM.out g _ cap _ ⟨_, ((HP.out.below (below_al (below_al (Below.refl _ _) _) _)))⟩ (by have := HP.out.lt; simp; omega) (by (repeat (first | (with_reducible assumption) | (with_reducible refine Blk.drew ?_) | (with_reducible refine Blk.drewN ?_ _) | (with_reducible exact Blk.new' _ _ _ (by first | rfl | (simp; done) | (simp; omega))) | (with_reducible refine Blk.alloc ?_ _) | ((with_reducible refine Blk.set2e ?_); exact ⟨_, by with_reducible assumption, rfl⟩) | ((with_reducible refine Blk.set4e ?_); exact ⟨_, by with_reducible assumption, rfl⟩) | (with_reducible refine Blk.set2 (a := .int .i64 0) (b := .int .i64 0) ?_) | (with_reducible refine Blk.set4 (a := .int .i64 0) (b := .int .i64 0) (c := .int .i64 0) (d := .int .i64 0) ?_) | (with_reducible refine Blk.call ?_ (by with_reducible assumption)) | (with_reducible refine Blk.chg ?_ (by with_reducible assumption) (by first | assumption | (simp; omega) | omega)) | (with_reducible refine Blk.far ?_ (by first | rfl | (simp; done) | (simp; omega)) _))))).mono ?_; rintro e w2 ⟨rfl, hb_w2⟩)
    | (go_at_call 21; refine (colour_any _ _).mono ?_; rintro e w' ⟨rfl, rfl⟩))
  go_ret
  exact ⟨rfl, by (repeat (first | (with_reducible exact Below.refl _ _) | (with_reducible refine below_al ?_ _) | (with_reducible refine below_dr ?_) | (with_reducible refine below_dn ?_ _) | (with_reducible refine below_set ?_ (by first | rfl | (simp; done) | (simp; omega)) _) | (with_reducible refine below_call ?_ (by with_reducible assumption))))⟩

/-- The reference's colour of a client. -/
def colD (c : Int) : Int := c % 4294967296 * 2654435 % 16777216 + 4278190080
theorem colD_colC (c : Int) : colD c = colC c := by
  unfold colD colC
  have e0 : c % 4294967296 * 2654435 % 16777216 = c % 4294967296 * 2654435 % 4294967296 % 16777216 := by omega
  rw [e0]
  clear e0
  obtain ⟨n, hn, hlt⟩ : ∃ n : Nat, c % 4294967296 * 2654435 % 4294967296 = (n : Int) ∧ n < 4294967296 := ⟨(c % 4294967296 * 2654435 % 4294967296).toNat, by omega, by omega⟩
  rw [hn, show (16777215 : Int) = ((16777215 : Nat) : Int) from rfl, u32_and_nat n 16777215 hlt (by decide)]
  have h1 : n &&& 16777215 = n % 16777216 := Nat.and_two_pow_sub_one_eq_mod n 24
  rw [h1, show (4278190080 : Int) = ((4278190080 : Nat) : Int) from rfl, u32_or_nat 4278190080 (n % 16777216) (by decide) (by omega)]
  have h2 : 4278190080 ||| n % 16777216 = 4278190080 + n % 16777216 := (Nat.shiftLeft_add_eq_or_of_lt (i := 24) (b := n % 16777216) (Nat.mod_lt _ (by decide)) 255).symm
  rw [h2]
  omega

set_option maxHeartbeats 1000000 in
theorem colour_ref (c : Int) (w : World) : Calls Try.prog 22 #[.int .i64 c] w fun e w' => e = .returned (.int .u32 (colD c)) ∧ w = w' := by
  go_enter Try.func22, Try.ntmps22
  go_wp2
  go_ret
  exact ⟨rfl, rfl⟩

set_option maxHeartbeats 1000000 in
theorem colours_any (c : Int) (w : World) : Calls Try.prog 4 #[.int .i64 c] w fun e w' => e = .returned (.bool true) ∧ Below w.heap.size w w' := by
  have q : (colC c == colD c) = true := by rw [colD_colC]; simp
  go_enter Try.func4, Try.ntmps4
  go_wp2_with (first | (go_at_call 21; refine (colour_any _ _).mono ?_; rintro e w' ⟨rfl, rfl⟩) | (go_at_call 22; refine (colour_ref _ _).mono ?_; rintro e w' ⟨rfl, rfl⟩) | (go_at_call 15; refine (awake_any _).mono ?_; rintro e w1 ⟨rfl, hb_w1⟩; have hz_w1 := hb_w1.size; (try simp only [World.size_alloc, World.size_setCell, World.size_drew, World.heap_drewN] at hz_w1)))
  go_ret
  exact ⟨rfl, by (repeat (first | (with_reducible exact Below.refl _ _) | (with_reducible refine below_al ?_ _) | (with_reducible refine below_dr ?_) | (with_reducible refine below_dn ?_ _) | (with_reducible refine below_set ?_ (by first | rfl | (simp; done) | (simp; omega)) _) | (with_reducible refine below_call ?_ (by with_reducible assumption))))⟩
end Go.Proofs.Ytkahhglgebhfbaa
