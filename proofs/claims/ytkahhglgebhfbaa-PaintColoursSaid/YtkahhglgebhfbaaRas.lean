/- Walks of raster: what is done to a canvas in memory. -/
import Derived.Test.YtkahhglgebhfbaaGeoB
namespace Go.Proofs.Ytkahhglgebhfbaa
open Go.RowKit
set_option linter.unusedSimpArgs false
set_option linter.unusedVariables false
attribute [local go_sem] max_ints min_ints

set_option maxHeartbeats 400000 in
theorem at_any (cb pb : Nat) (x y W : Int) (w : World) (nn cc : Nat)
   (h0 : w.cell? ⟨cb, 0, none⟩ = some (.int .i64 W)) (h2 : w.cell? ⟨cb, 2, none⟩ = some (.slice (some ⟨pb, 0, none⟩) nn cc))
   (hx0 : 0 ≤ x) (hy0 : 0 ≤ y) (hW : 0 ≤ W) (hW2 : W ≤ 1024) (hy1 : y ≤ 1024) (hx1 : x ≤ 1024) (hlt : y * W + x < nn) (hge : 0 ≤ y * W) (hle : y * W ≤ 1048576) :
    Calls Try.prog 122 #[.pointer (some ⟨cb, 0, none⟩), .int .i64 x, .int .i64 y] w fun e w' => e = .returned (.pointer (some ⟨pb, (y * W + x).toNat, none⟩)) ∧ ∃ n, w' = w.drewN n := by
  go_enter Try.func122, Try.ntmps122
  go_wp2
  go_quiet (fail)
  go_wp2
  go_ret
  exact ⟨rfl, _, rfl⟩

set_option maxHeartbeats 400000 in
theorem fill1_any (x y : Int) (pb k kb : Nat) (col : Int) (v0 : Value) (w : World) (hk : w.cell? ⟨kb, 0, none⟩ = some (.int .u32 col)) (hp : w.cell? ⟨pb, k, none⟩ = some v0) (hf : w.frozen? ⟨pb, k, none⟩ = false) :
    Calls Try.prog 92 #[.int .i64 x, .int .i64 y, .pointer (some ⟨pb, k, none⟩), .pointer (some ⟨kb, 0, none⟩)] w fun e w' => e = .returned (.tuple #[]) ∧ w' = w.setCell ⟨pb, k, none⟩ (.int .u32 col) := by
  go_enter Try.func92, Try.ntmps92
  go_wp2
  go_end0
  exact ⟨rfl, rfl⟩

set_option maxHeartbeats 400000 in
theorem bounds_any (cb : Nat) (W H : Int) (w : World) (h0 : w.cell? ⟨cb, 0, none⟩ = some (.int .i64 W)) (h1 : w.cell? ⟨cb, 1, none⟩ = some (.int .i64 H)) :
    Calls Try.prog 90 #[.pointer (some ⟨cb, 0, none⟩)] w fun e w' => e = .returned (.agg #[.int .i64 0, .int .i64 0, .int .i64 W, .int .i64 H]) ∧ Below w.heap.size w w' := by
  have hlt := World.block_lt_of_cell? w _ h0
  simp only at hlt
  have n0 := World.new_ne w _ h0
  have n1 := World.new_ne w _ h1
  go_enter Try.func90, Try.ntmps90
  go_wp2
  go_region_held3 (fun w' => w'.cell? ⟨cb, 0, none⟩ = some (.int .i64 W) ∧ w'.cell? ⟨cb, 1, none⟩ = some (.int .i64 H)) (go_keep) (fail)
  go_wp2
  refine bodyPost_ret (v := .agg #[.int .i64 0, .int .i64 0, .int .i64 W, .int .i64 H]) (by simp [results, Try.results90, go_sem]) rfl ⟨rfl, by (repeat (first | (with_reducible exact Below.refl _ _) | (with_reducible refine below_al ?_ _) | (with_reducible refine below_dr ?_) | (with_reducible refine below_dn ?_ _) | (with_reducible refine below_set ?_ (by first | rfl | (simp; done) | (simp; omega)) _) | (with_reducible refine below_call ?_ (by with_reducible assumption))))⟩

end Go.Proofs.Ytkahhglgebhfbaa
