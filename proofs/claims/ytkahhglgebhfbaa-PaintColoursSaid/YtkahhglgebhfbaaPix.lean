/- Pictures as rows of colours: what painting a rectangle does to them. Plain lists, no program. -/
import Derived.Test.YtkahhglgebhfbaaProg
namespace Go.Proofs.Ytkahhglgebhfbaa

/-- A picture W wide with the places of a rectangle in one colour. -/
def paintR (px : List Int) (W x y n m : Nat) (col : Int) : List Int :=
  px.mapIdx fun i p => if x ≤ i % W ∧ i % W < x + n ∧ y ≤ i / W ∧ i / W < y + m then col else p

theorem paintR_length (px : List Int) (W x y n m : Nat) (col : Int) : (paintR px W x y n m col).length = px.length := by simp [paintR]
theorem paintR_get (px : List Int) (W x y n m : Nat) (col : Int) (i : Nat) (h : i < px.length) :
    (paintR px W x y n m col)[i]? = some (if x ≤ i % W ∧ i % W < x + n ∧ y ≤ i / W ∧ i / W < y + m then col else px[i]) := by
  simp [paintR, h]
theorem paintR_none (px : List Int) (W x y n m : Nat) (col : Int) (h : n = 0 ∨ m = 0) : paintR px W x y n m col = px := by
  apply List.ext_getElem?
  intro i
  by_cases hi : i < px.length
  · rw [paintR_get _ _ _ _ _ _ _ _ hi, if_neg (by omega), List.getElem?_eq_getElem hi]
  · rw [List.getElem?_eq_none (by rw [paintR_length]; omega), List.getElem?_eq_none (by omega)]
theorem div_mod_at (W x y i : Nat) (hx : x < W) : i = y * W + x ↔ i / W = y ∧ i % W = x := by
  constructor
  · rintro rfl
    have hW : 0 < W := by omega
    rw [Nat.add_comm, Nat.add_mul_div_right _ _ hW, Nat.add_mul_mod_self_right, Nat.div_eq_of_lt hx, Nat.mod_eq_of_lt hx]
    exact ⟨Nat.zero_add _, rfl⟩
  · rintro ⟨rfl, rfl⟩
    rw [Nat.mul_comm]; exact (Nat.div_add_mod i W).symm
/-- One place more of a row. -/
theorem paintR_step (px : List Int) (W x y k : Nat) (col : Int) (hx : x + k < W) :
    (paintR px W x y k 1 col).set (y * W + (x + k)) col = paintR px W x y (k + 1) 1 col := by
  apply List.ext_getElem?
  intro i
  by_cases hi : i < px.length
  · rw [List.getElem?_set, paintR_get _ _ _ _ _ _ _ _ hi, paintR_get _ _ _ _ _ _ _ _ hi, paintR_length]
    have hd := div_mod_at W (x + k) y i hx
    by_cases he : i = y * W + (x + k)
    · obtain ⟨h1, h2⟩ := hd.1 he
      rw [if_pos he.symm, if_pos (by omega), if_pos (by omega)]
    · rw [if_neg (Ne.symm he)]
      have : ¬ (i / W = y ∧ i % W = x + k) := fun h => he (hd.2 h)
      by_cases hc : x ≤ i % W ∧ i % W < x + k ∧ y ≤ i / W ∧ i / W < y + 1
      · rw [if_pos hc, if_pos (by omega)]
      · rw [if_neg hc, if_neg (by omega)]
  · rw [List.getElem?_eq_none (by rw [List.length_set, paintR_length]; omega), List.getElem?_eq_none (by rw [paintR_length]; omega)]
/-- One row more of a rectangle. -/
theorem paintR_row (px : List Int) (W x y n k : Nat) (col : Int) : paintR (paintR px W x y n k col) W x (y + k) n 1 col = paintR px W x y n (k + 1) col := by
  apply List.ext_getElem?
  intro i
  by_cases hi : i < px.length
  · rw [paintR_get _ _ _ _ _ _ _ _ (by rw [paintR_length]; exact hi), paintR_get _ _ _ _ _ _ _ _ hi]
    have h1 := paintR_get px W x y n k col i hi
    rw [List.getElem?_eq_getElem (by rw [paintR_length]; exact hi)] at h1
    rw [Option.some.inj h1]
    congr 1
    by_cases hc : x ≤ i % W ∧ i % W < x + n ∧ y ≤ i / W ∧ i / W < y + (k + 1)
    · rw [if_pos hc]
      by_cases h2 : i / W < y + k
      · rw [if_neg (by omega), if_pos (by omega)]
      · rw [if_pos (by omega)]
    · rw [if_neg hc, if_neg (by omega), if_neg (by omega)]
  · rw [List.getElem?_eq_none (by rw [paintR_length, paintR_length]; omega), List.getElem?_eq_none (by rw [paintR_length]; omega)]

end Go.Proofs.Ytkahhglgebhfbaa
