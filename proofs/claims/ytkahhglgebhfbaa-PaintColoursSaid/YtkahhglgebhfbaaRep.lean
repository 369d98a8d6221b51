/- Walks of slices.Repeat and slices.Clone at uint32: a slice of one element, many times; a copy. -/
import Derived.Test.YtkahhglgebhfbaaShelf
import Derived.Laws.CopyOwn
import Derived.Lib.Hide
import Derived.Test.YtkahhglgebhfbaaRas
namespace Go.Proofs.Ytkahhglgebhfbaa
open Go.RowKit
set_option linter.unusedSimpArgs false
set_option linter.unusedVariables false
attribute [local go_sem] max_ints min_ints

/-- A row of n cells of which the first m hold v, the others z. -/
def fillL (v z : Value) (m n : Nat) : List Value := List.replicate m v ++ List.replicate (n - m) z
theorem fillL_length (v z : Value) (m n : Nat) (h : m ≤ n) : (fillL v z m n).length = n := by simp [fillL]; omega
theorem fillL_splice (v z : Value) (m n k : Nat) (h : m + k ≤ n) : splice (fillL v z m n) m (List.replicate k v) = fillL v z (m + k) n := by
  unfold splice fillL
  rw [List.take_append_of_le_length (by simp), List.take_of_length_le (by simp), List.drop_append]
  simp only [List.length_replicate, List.drop_replicate]
  rw [show m - (m + k) = 0 by omega, show m + k - m = k by omega, show n - m - k = n - (m + k) by omega]
  simp only [List.replicate_zero, List.nil_append]
  rw [← List.append_assoc, List.replicate_append_replicate]
theorem fillL_get (v z : Value) (m n j : Nat) (h : j < m) : (fillL v z m n)[j]? = some v := by
  unfold fillL
  rw [List.getElem?_append_left (by simpa using h)]
  simp [h]

theorem info41 : (Try.prog.info? 41).map (fun i => (i.zero, i.size, i.bytes)) = some (some (.int .u32 0), 1, 4) := by kernel_rfl
theorem size41 : (Try.prog.info? 41).map (·.size) = some 1 := by kernel_rfl

theorem mul1 (n : Nat) (h : n ≤ 1048576) (w : World) : Calls Try.prog 113 #[.int .u64 1, .int .u64 n] w fun e w' => e = .returned (.tuple #[.int .u64 0, .int .u64 n]) ∧ w = w' := by
  refine (Try.bits_Mul 1 n (by decide) (by omega) w).mono ?_
  rintro e w' ⟨rfl, rfl⟩
  have e1 : 1 * n / 18446744073709551616 = 0 := by omega
  have e2 : 1 * n % 18446744073709551616 = n := by omega
  rw [e1, e2]
  exact ⟨rfl, rfl⟩

theorem made41 (n : Nat) : madeCells (Value.cells (.int .u32 0)) (n * 1) = (fillL (.int .u32 7) (.int .u32 0) 0 n).toArray := by
  apply Array.toList_inj.1
  rw [Nat.mul_one]
  have h := toList_madeCells_one (.int .u32 0) n
  have e : (fillL (.int .u32 7) (.int .u32 0) 0 n).toArray.toList = List.replicate n (.int .u32 0) := by simp [fillL]
  rw [e]
  exact h

set_option maxRecDepth 100000 in
set_option maxHeartbeats 1000000 in
theorem repeat_any (ad : Addr) (c n : Nat) (col : Int) (w : World) (hc : w.cell? ad = some (.int .u32 col)) (hn : n ≤ 1048576) :
    Calls Try.prog 89 #[.slice (some ad) 1 c, .int .i64 n] w fun e w' => ∃ g, e = .returned (.slice (some ⟨g, 0, none⟩) n n) ∧ w.heap.size ≤ g ∧ Blk w' g 41 (fillL (.int .u32 col) (.int .u32 0) n n).toArray ∧ Below w.heap.size w w' := by
  have hlt := World.block_lt_of_cell? w _ hc
  obtain ⟨i0, hi, hz0, hz1, hz2⟩ := info_parts info41
  have hmk : ∀ W : World, (Instr.makeSlice 28 (.int .i64 (n : Int)) (.int .i64 (n : Int))).run Try.prog W = .ok (.slice (some ⟨W.heap.size, 0, none⟩) n n) (W.alloc (.cells (fillL (.int .u32 col) (.int .u32 0) 0 n).toArray 41)) := by
    intro W
    have hb : (i0.bytes : Int) * (n : Int) ≤ 281474976710656 := by rw [hz2]; omega
    have hr := run_make (P := Try.prog) W 28 41 i0 (.int .u32 0) Try.underlying28 hi hz0 .i64 .i64 (n : Int) (n : Int) (by omega) (by omega) hb (by omega)
    simp only [Int.toNat_natCast] at hr
    rw [hr, hz1, made41 n]
    rfl
  have hn' : (n : Int) ≤ 1048576 := by omega
  have hn0 : decide ((n : Int) < 0) = false := by simp
  have hsrc : ∀ (j : Nat) (v : Value), (List.replicate (Nat.min 1 n) (Value.int .u32 col))[j]? = some v → (w.alloc (Obj.cells (fillL (.int .u32 col) (.int .u32 0) 0 n).toArray 41)).cell? (ad.add j) = some v := by
    intro j v hj
    rw [List.getElem?_replicate] at hj
    split at hj
    · rename_i hl
      have h1 : Nat.min 1 n ≤ 1 := Nat.min_le_left 1 n
      have : j = 0 := by omega
      subst this
      rw [show ad.add 0 = ad by unfold Addr.add; simp, World.cell?_alloc_lt w _ ad hlt, hc]
      exact hj
    · cases hj
  have H1 : Hid (∀ (j : Nat) (v : Value), (List.replicate (Nat.min 1 n) (Value.int .u32 col))[j]? = some v → (w.alloc (Obj.cells (fillL (.int .u32 col) (.int .u32 0) 0 n).toArray 41)).cell? (ad.add j) = some v) := Lib.hid hsrc
  clear hsrc
  have hm1 : Nat.min 1 n ≤ n := Nat.min_le_right 1 n
  have H2 : Hid (0 + (List.replicate (Nat.min 1 n) (Value.int .u32 col)).length ≤ (fillL (.int .u32 col) (.int .u32 0) 0 n).length) := Lib.hid (by rw [fillL_length _ _ _ _ (Nat.zero_le _)]; simpa using hm1)
  have H3 : Hid (∀ v ∈ List.replicate (Nat.min 1 n) (Value.int .u32 col), v.oneCell' = true) := Lib.hid (by intro v hv; rw [List.eq_of_mem_replicate hv]; rfl)
  go_enter Try.func89, Try.ntmps89
  go_wp2_with (first
    | (go_at_call 113; refine (mul1 _ hn _).mono ?_; rintro e w' ⟨rfl, rfl⟩)
    | (refine wpList_copy_splice (o := ⟨some 33, _, _, _, _, _⟩) rfl (.tmp 31) (.tmp 32) 28 28 rfl 41 Try.underlying28 size41 _ _ _ _ _ _ rfl rfl w.heap.size 0 (fillL (.int .u32 col) (.int .u32 0) 0 n) 41 (heap_alloc_new w _) (List.replicate (Nat.min 1 n) (.int .u32 col)) List.length_replicate (fun _ => ⟨rfl, ad, rfl, H1.out⟩) H2.out H3.out w.heap.size w (below_al (Below.refl _ _) _) (Nat.le_refl _) ?_
       intro w2 HG2 hb2))
  have B2 : Hid (Blk w2 w.heap.size 41 (fillL (.int .u32 col) (.int .u32 0) (Nat.min 1 n) n).toArray) := Lib.hid (by
    have e := fillL_splice (.int .u32 col) (.int .u32 0) 0 n (Nat.min 1 n) (by omega)
    rw [Nat.zero_add] at e
    rw [← e]; exact ⟨HG2.out⟩)
  have hpos1 : 0 < n → 0 < Nat.min 1 n := fun h => by show 0 < min 1 n; omega
  have elen : (List.replicate (Nat.min 1 n) (Value.int .u32 col)).length = Nat.min 1 n := List.length_replicate
  clear HG2 H1 H2 H3 elen
  go_loopw [8] (fun v wr => ∃ m : Nat, m ≤ n ∧ (0 < n → 0 < m) ∧ v = .int .i64 m ∧ Hid (Blk wr w.heap.size 41 (fillL (.int .u32 col) (.int .u32 0) m n).toArray) ∧ Below w.heap.size w wr) (fun v _ => n - (intOf v).toNat)
  case atStart => exact ⟨_, hm1, hpos1, rfl, B2, hb2⟩
  case round =>
    obtain ⟨m, hm, hmp, rfl, HB, hbr⟩ := hrel
    clear B2 hpos1 hm1 hb2
    by_cases hlt : m < n
    · have hmn : ¬ n = m := by omega
      obtain ⟨k, hk⟩ : ∃ k, k = Nat.min m (n - m) := ⟨_, rfl⟩
      have hkm : k ≤ m := by rw [hk]; exact Nat.min_le_left _ _
      have hkn : m + k ≤ n := by have : k ≤ n - m := by rw [hk]; exact Nat.min_le_right _ _
                                 omega
      have hk0 : 0 < k := by have h : k = min m (n - m) := hk
                             have := hmp (by omega)
                             omega
      have hw : IntKind.i64.wrap ((m : Int) + k) = m + k := IntWalk.i64_in _ (by omega)
      have HK := Lib.hid hk
      clear hk
      have H1 : Hid (∀ (j : Nat) (v : Value), (List.replicate k (Value.int .u32 col))[j]? = some v → wr.drew.cell? (Addr.add ⟨w.heap.size, 0, none⟩ j) = some v) := Lib.hid (by
        intro j v hj
        rw [List.getElem?_replicate] at hj
        split at hj
        · rename_i hl
          have ha : Addr.add ⟨w.heap.size, 0, none⟩ j = ⟨w.heap.size, j, none⟩ := by unfold Addr.add; split <;> simp_all
          rw [ha]
          refine (HB.out.cell j).trans ?_
          rw [← hj]
          simpa using fillL_get (.int .u32 col) (.int .u32 0) m n j (by omega)
        · cases hj)
      have H2 : Hid (m + (List.replicate k (Value.int .u32 col)).length ≤ (fillL (.int .u32 col) (.int .u32 0) m n).length) := Lib.hid (by rw [fillL_length _ _ _ _ hm]; simpa using hkn)
      have H3 : Hid (∀ v ∈ List.replicate k (Value.int .u32 col), v.oneCell' = true) := Lib.hid (by intro v hv; rw [List.eq_of_mem_replicate hv]; rfl)
      have hmi : (m : Int) ≤ n := by omega
      have hmz : (0 : Int) ≤ m := by omega
      go_wp2_with fail
      go_region_law ((refine step_copy_splice (by rfl) (.tmp 41) (.tmp 44) 28 28 (by rfl) 41 Try.underlying28 size41 (some ⟨w.heap.size, m, none⟩) (some ⟨w.heap.size, 0, none⟩) (n - m) (n - m) m n (by simp [Act.eval, Act.put]) (by simp [Act.eval, Act.put]) w.heap.size m (fillL (.int .u32 col) (.int .u32 0) m n) 41 HB.out.out (List.replicate k (.int .u32 col)) (List.length_replicate.trans HK.out) (fun _ => ⟨rfl, _, rfl, H1.out⟩) H2.out H3.out w.heap.size w (below_dr hbr) (Nat.le_refl _) ?_; intro w4 HG4 hb4))
      have B4 : Hid (Blk w4 w.heap.size 41 (fillL (.int .u32 col) (.int .u32 0) (m + k) n).toArray) := Lib.hid (by
        rw [← fillL_splice (.int .u32 col) (.int .u32 0) m n k hkn]; exact ⟨HG4.out⟩)
      clear HG4 HB H1 H2 H3
      simp only [List.getElem_toArray, List.getElem_cons_succ, List.getElem_cons_zero]
      simp only [Act.put, List.setIfInBounds_toArray, List.set_cons_zero, List.set_cons_succ]
      go_roundw
      case rel =>
        (repeat apply Exists.intro)
        refine ⟨?_, rfl⟩
        exact ⟨m + k, hkn, fun _ => by omega, by go_num, B4, hb4⟩
      case measure =>
        show n - (intOf (.int .i64 ((m : Int) + k))).toNat < n - (intOf (.int .i64 (m : Int))).toNat
        simp [intOf]; omega
    · have hmn : m = n := by omega
      have HB' : Blk wr w.heap.size 41 (fillL (.int .u32 col) (.int .u32 0) n n).toArray := hmn ▸ HB.out
      clear hmn HB
      go_wp2_with fail
      go_ret
      exact ⟨_, rfl, Nat.le_refl _, HB', hbr⟩

end Go.Proofs.Ytkahhglgebhfbaa
