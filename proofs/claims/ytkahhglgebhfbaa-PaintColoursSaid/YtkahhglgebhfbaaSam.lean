/- Walk of the reference's Same: the same picture? -/
import Derived.Test.YtkahhglgebhfbaaSco
namespace Go.Proofs.Ytkahhglgebhfbaa
open Go.RowKit
set_option linter.unusedSimpArgs false
set_option linter.unusedVariables false
attribute [local go_sem] max_ints min_ints

/-- A slice's cells are these colours. -/
def ColAt (w : World) (A : Option Addr) (l : List Int) : Prop := l.length = 0 ∨ ∃ b, A = some ⟨b, 0, none⟩ ∧ b < w.heap.size ∧ ∀ j (h : j < l.length), w.cell? ⟨b, j, none⟩ = some (.int .u32 l[j])
theorem ColAt.below {w w' : World} {A : Option Addr} {l : List Int} (h : ColAt w A l) (hb : Below w.heap.size w w') : ColAt w' A l := by
  rcases h with h | ⟨b, hA, hl, hc⟩
  · exact .inl h
  · exact .inr ⟨b, hA, Nat.lt_of_lt_of_le hl hb.size, fun j hj => (hb.cell (p := ⟨b, j, none⟩) hl).trans (hc j hj)⟩

/-- The same picture? -/
def sameB (W1 H1 : Int) (l1 : List Int) (W2 H2 : Int) (l2 : List Int) : Bool := decide (W1 = W2 ∧ H1 = H2 ∧ l1 = l2)

theorem take_eq_of {l1 l2 : List Int} {i : Nat} (h1 : i < l1.length) (h2 : i < l2.length) (ht : l1.take i = l2.take i) (he : l1[i] = l2[i]) : l1.take (i + 1) = l2.take (i + 1) := by
  rw [List.take_succ_eq_append_getElem h1, List.take_succ_eq_append_getElem h2, ht, he]


set_option maxHeartbeats 2000000 in
theorem same_any (W1 H1 W2 H2 : Int) (A1 A2 : Option Addr) (c1 c2 : Nat) (l1 l2 : List Int) (w : World) (hl1 : l1.length ≤ maxLen) (hl2 : l2.length ≤ maxLen) (hc1 : ColAt w A1 l1) (hc2 : ColAt w A2 l2) :
    Calls Try.prog 20 #[.agg #[.int .i64 W1, .int .i64 H1, .slice A1 l1.length c1], .agg #[.int .i64 W2, .int .i64 H2, .slice A2 l2.length c2]] w fun e w' =>
      e = .returned (.bool (sameB W1 H1 l1 W2 H2 l2)) ∧ Below w.heap.size w w' := by
  unfold maxLen at hl1 hl2
  have C1 := Lib.hid hc1
  have C2 := Lib.hid hc2
  clear hc1 hc2
  by_cases h1 : W1 = W2
  · by_cases h2 : H1 = H2
    · by_cases h3 : l1.length = l2.length
      · subst h1 h2
        have H3 := Lib.hid h3
        have q3 : ((l1.length : Int) != (l2.length : Int)) = false := by simp [h3]
        clear h3
        go_enter Try.func20, Try.ntmps20
        go_wp2_with fail
        go_loopw [5] (fun u wr => ∃ i : Nat, i ≤ l1.length ∧ u = .int .i64 i ∧ Hid (l1.take i = l2.take i) ∧ Hid (Blk wr w.heap.size 30 #[.int .i64 W1, .int .i64 H1, .slice A1 l1.length c1]) ∧ Hid (Blk wr (w.heap.size + 1) 30 #[.int .i64 W1, .int .i64 H1, .slice A2 l2.length c2]) ∧ Hid (Below w.heap.size w wr)) (fun u _ => l1.length - (intOf u).toNat)
        case atStart => exact ⟨0, Nat.zero_le _, rfl, Lib.hid (by simp), Lib.hid (by (repeat (first | (with_reducible assumption) | (with_reducible refine Blk.drew ?_) | (with_reducible refine Blk.drewN ?_ _) | (with_reducible exact Blk.new' _ _ _ (by first | rfl | (simp; done) | (simp; omega))) | (with_reducible refine Blk.alloc ?_ _) | ((with_reducible refine Blk.set2e ?_); exact ⟨_, by with_reducible assumption, rfl⟩) | ((with_reducible refine Blk.set4e ?_); exact ⟨_, by with_reducible assumption, rfl⟩) | (with_reducible refine Blk.set2 (a := .int .i64 0) (b := .int .i64 0) ?_) | (with_reducible refine Blk.set4 (a := .int .i64 0) (b := .int .i64 0) (c := .int .i64 0) (d := .int .i64 0) ?_) | (with_reducible refine Blk.call ?_ (by with_reducible assumption)) | (with_reducible refine Blk.chg ?_ (by with_reducible assumption) (by first | assumption | (simp; omega) | omega)) | (with_reducible refine Blk.far ?_ (by first | rfl | (simp; done) | (simp; omega)) _)))), Lib.hid (by (repeat (first | (with_reducible assumption) | (with_reducible refine Blk.drew ?_) | (with_reducible refine Blk.drewN ?_ _) | (with_reducible exact Blk.new' _ _ _ (by first | rfl | (simp; done) | (simp; omega))) | (with_reducible refine Blk.alloc ?_ _) | ((with_reducible refine Blk.set2e ?_); exact ⟨_, by with_reducible assumption, rfl⟩) | ((with_reducible refine Blk.set4e ?_); exact ⟨_, by with_reducible assumption, rfl⟩) | (with_reducible refine Blk.set2 (a := .int .i64 0) (b := .int .i64 0) ?_) | (with_reducible refine Blk.set4 (a := .int .i64 0) (b := .int .i64 0) (c := .int .i64 0) (d := .int .i64 0) ?_) | (with_reducible refine Blk.call ?_ (by with_reducible assumption)) | (with_reducible refine Blk.chg ?_ (by with_reducible assumption) (by first | assumption | (simp; omega) | omega)) | (with_reducible refine Blk.far ?_ (by first | rfl | (simp; done) | (simp; omega)) _)))), Lib.hid (by (repeat (first | (with_reducible exact Below.refl _ _) | (with_reducible refine below_al ?_ _) | (with_reducible refine below_dr ?_) | (with_reducible refine below_dn ?_ _) | (with_reducible refine below_set ?_ (by first | rfl | (simp; done) | (simp; omega)) _) | (with_reducible refine below_call ?_ (by with_reducible assumption)))))⟩
        case round =>
          obtain ⟨i, hi, rfl, HT, B1, B2, HB⟩ := hrel
          have b1 := B1.out.cell
          have b2 := B2.out.cell
          by_cases hlt : i < l1.length
          · have hlt2 : i < l2.length := by have := H3.out; omega
            obtain ⟨a1, rfl, ha1, hx1⟩ : ∃ b, A1 = some ⟨b, 0, none⟩ ∧ b < wr.heap.size ∧ ∀ j (h : j < l1.length), wr.cell? ⟨b, j, none⟩ = some (.int .u32 l1[j]) := (C1.out.below HB.out).resolve_left (by omega)
            obtain ⟨a2, rfl, ha2, hx2⟩ : ∃ b, A2 = some ⟨b, 0, none⟩ ∧ b < wr.heap.size ∧ ∀ j (h : j < l2.length), wr.cell? ⟨b, j, none⟩ = some (.int .u32 l2[j]) := (C2.out.below HB.out).resolve_left (by omega)
            have y1 := hx1 i hlt
            have y2 := hx2 i hlt2
            have z1 : (i : Int) < (l1.length : Int) := by omega
            have z2 : (i : Int) < (l2.length : Int) := by omega
            clear hx1 hx2
            have hd0 : decide ((i : Int) < (l1.length : Int)) = true := by simpa using z1
            by_cases he : l1[i] = l2[i]
            · have q5 : (l1[i] == l2[i]) = true := by simpa using he
              have q6 : (l1[i] != l2[i]) = false := by simpa using he
              have HT2 := Lib.hid (take_eq_of hlt hlt2 HT.out he)
              clear he HT
              go_wp2_with fail
              go_quiet (fail)
              go_wp2_with fail
              go_roundw
              case rel => exact ⟨i + 1, by omega, by go_num, HT2, Lib.hid (B1.out.drewN _), Lib.hid (B2.out.drewN _), Lib.hid (below_dn HB.out _)⟩
              case measure => simp [intOf]; omega
            · have q5 : (l1[i] == l2[i]) = false := by simpa using he
              have q6 : (l1[i] != l2[i]) = true := by simpa using he
              have e : sameB W1 H1 l1 W1 H1 l2 = false := by
                unfold sameB
                simp only [decide_eq_false_iff_not]
                rintro ⟨_, _, h⟩
                exact he (by subst h; rfl)
              have E := Lib.hid e
              clear e he HT
              go_wp2_with fail
              go_quiet (fail)
              go_wp2_with fail
              go_ret
              exact ⟨ret_bool E.out.symm, below_dn HB.out _⟩
          · have e : sameB W1 H1 l1 W1 H1 l2 = true := by
              have h := HT.out
              have h3 := H3.out
              rw [List.take_of_length_le (by omega), List.take_of_length_le (by omega)] at h
              unfold sameB
              simp [h]
            have E := Lib.hid e
            clear e HT
            go_wp2_with fail
            go_ret
            exact ⟨ret_bool E.out.symm, HB.out⟩
      · have e : sameB W1 H1 l1 W2 H2 l2 = false := by unfold sameB; simp; intro _ _ h; exact h3 (by rw [h])
        have E := Lib.hid e
        have q1 : (W1 == W2) = true := by simpa using h1
        have q2 : (H1 == H2) = true := by simpa using h2
        have H3 := Lib.hid h3
        clear e h1 h2 h3
        go_enter Try.func20, Try.ntmps20
        go_wp2_with fail
        all_goals first
          | (go_ret; exact ⟨ret_bool E.out.symm, by (repeat (first | (with_reducible exact Below.refl _ _) | (with_reducible refine below_al ?_ _) | (with_reducible refine below_dr ?_) | (with_reducible refine below_dn ?_ _) | (with_reducible refine below_set ?_ (by first | rfl | (simp; done) | (simp; omega)) _) | (with_reducible refine below_call ?_ (by with_reducible assumption))))⟩)
          | (exfalso; have h := ‹((l1.length : Int) != (l2.length : Int)) = false›; simp at h; exact H3.out (by omega))
    · have e : sameB W1 H1 l1 W2 H2 l2 = false := by unfold sameB; simp; intro _ h; exact absurd h h2
      have E := Lib.hid e
      have q1 : (W1 == W2) = true := by simpa using h1
      have q2 : (H1 == H2) = false := by simpa using h2
      have HH := Lib.hid h2
      clear e h1 h2
      go_enter Try.func20, Try.ntmps20
      go_wp2_with fail
      all_goals first
        | (go_ret; exact ⟨ret_bool E.out.symm, by (repeat (first | (with_reducible exact Below.refl _ _) | (with_reducible refine below_al ?_ _) | (with_reducible refine below_dr ?_) | (with_reducible refine below_dn ?_ _) | (with_reducible refine below_set ?_ (by first | rfl | (simp; done) | (simp; omega)) _) | (with_reducible refine below_call ?_ (by with_reducible assumption))))⟩)
        | (exfalso; exact HH.out (by first | assumption | rfl | simp_all))
  · have e : sameB W1 H1 l1 W2 H2 l2 = false := by unfold sameB; simp; intro h; exact absurd h h1
    have E := Lib.hid e
    have q1 : (W1 == W2) = false := by simpa using h1
    have HH := Lib.hid h1
    clear e h1
    go_enter Try.func20, Try.ntmps20
    go_wp2_with fail
    all_goals first
      | (go_ret; exact ⟨ret_bool E.out.symm, by (repeat (first | (with_reducible exact Below.refl _ _) | (with_reducible refine below_al ?_ _) | (with_reducible refine below_dr ?_) | (with_reducible refine below_dn ?_ _) | (with_reducible refine below_set ?_ (by first | rfl | (simp; done) | (simp; omega)) _) | (with_reducible refine below_call ?_ (by with_reducible assumption))))⟩)
      | (exfalso; exact HH.out (by first | assumption | rfl | simp_all))
end Go.Proofs.Ytkahhglgebhfbaa
