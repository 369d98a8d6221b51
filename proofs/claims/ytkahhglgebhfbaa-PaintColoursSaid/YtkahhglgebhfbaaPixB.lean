/- What writing a text does to a picture, place by place. No program. -/
import Derived.Test.YtkahhglgebhfbaaFit
namespace Go.Proofs.Ytkahhglgebhfbaa
open Go.RowKit

/-- A picture with some places in one colour. -/
def paintP (px : List Int) (P : Nat → Bool) (col : Int) : List Int := px.mapIdx fun i p => if P i = true then col else p
theorem paintP_length (px : List Int) (P : Nat → Bool) (col : Int) : (paintP px P col).length = px.length := by simp [paintP]
theorem paintP_get (px : List Int) (P : Nat → Bool) (col : Int) (i : Nat) (h : i < px.length) : (paintP px P col)[i]? = some (if P i = true then col else px[i]) := by
  simp [paintP, h]
theorem paintP_congr {px : List Int} {P Q : Nat → Bool} (col : Int) (h : ∀ i, i < px.length → P i = Q i) : paintP px P col = paintP px Q col := by
  apply List.ext_getElem?
  intro i
  by_cases hi : i < px.length
  · rw [paintP_get _ _ _ _ hi, paintP_get _ _ _ _ hi, h i hi]
  · rw [List.getElem?_eq_none (by rw [paintP_length]; omega), List.getElem?_eq_none (by rw [paintP_length]; omega)]
theorem paintP_none (px : List Int) (P : Nat → Bool) (col : Int) (h : ∀ i, i < px.length → P i = false) : paintP px P col = px := by
  apply List.ext_getElem?
  intro i
  by_cases hi : i < px.length
  · rw [paintP_get _ _ _ _ hi, h i hi, if_neg (by simp), List.getElem?_eq_getElem hi]
  · rw [List.getElem?_eq_none (by rw [paintP_length]; omega), List.getElem?_eq_none (by omega)]
theorem paintP_paintP (px : List Int) (P Q : Nat → Bool) (col : Int) : paintP (paintP px P col) Q col = paintP px (fun i => P i || Q i) col := by
  apply List.ext_getElem?
  intro i
  by_cases hi : i < px.length
  · rw [paintP_get _ _ _ _ (by rw [paintP_length]; exact hi), paintP_get _ _ _ _ hi]
    have h1 := paintP_get px P col i hi
    rw [List.getElem?_eq_getElem (by rw [paintP_length]; exact hi)] at h1
    rw [Option.some.inj h1]
    cases P i <;> cases Q i <;> simp
  · rw [List.getElem?_eq_none (by rw [paintP_length, paintP_length]; omega), List.getElem?_eq_none (by rw [paintP_length]; omega)]
theorem paintR_P (px : List Int) (W x y n m : Nat) (col : Int) : paintR px W x y n m col = paintP px (fun i => decide (x ≤ i % W ∧ i % W < x + n ∧ y ≤ i / W ∧ i / W < y + m)) col := by
  unfold paintR paintP
  congr 1
  funext i p
  simp

/-- Is a place one that may be painted on? -/
def inC (W cx cy cw ch j : Nat) : Bool := decide (cx ≤ j % W ∧ j % W < cx + cw ∧ cy ≤ j / W ∧ j / W < cy + ch)

theorem wrap64_id {a : Int} (h : -9223372036854775808 ≤ a ∧ a ≤ 9223372036854775807) : wrap64 a = a := by unfold wrap64; omega

/-- What a rectangle and a clip have in common, as numbers that are not below 0. -/
theorem intR_clip (rx ry rw rh : Int) (W H cx cy cw ch : Nat) (hw : W ≤ 1024) (hh : H ≤ 1024) (hx : cx + cw ≤ W) (hy : cy + ch ≤ H) :
    ∃ x y n m : Nat, intR rx ry rw rh cx cy cw ch = ((x : Int), (y : Int), (n : Int), (m : Int)) ∧ x + n ≤ W ∧ y + m ≤ H ∧
      ∀ u v : Nat, (x ≤ u ∧ u < x + n ∧ y ≤ v ∧ v < y + m) ↔ (rightB rx ry rw rh = true ∧ rx ≤ u ∧ u < rx + rw ∧ ry ≤ v ∧ v < ry + rh) ∧ (cx ≤ u ∧ u < cx + cw ∧ cy ≤ v ∧ v < cy + ch) := by
  have hc : rightB cx cy cw ch = true := by unfold rightB sideB; simp; omega
  by_cases he : emptyB rx ry rw rh = true ∨ emptyB cx cy cw ch = true
  · refine ⟨0, 0, 0, 0, by unfold intR; rw [if_pos he]; rfl, by omega, by omega, fun u v => ⟨fun h => by omega, ?_⟩⟩
    rintro ⟨⟨h1, h2⟩, h3⟩
    unfold emptyB at he
    rw [h1, hc] at he
    simp at he
    omega
  · have hr : rightB rx ry rw rh = true := by
      cases h : rightB rx ry rw rh with
      | true => rfl
      | false => exact absurd (Or.inl (by unfold emptyB; rw [h]; rfl)) he
    have hr' := hr
    unfold rightB sideB at hr'
    simp at hr'
    obtain ⟨h1, h2⟩ := hr'
    unfold intR
    rw [if_neg he, wrap64_id (a := rx + rw) (by omega), wrap64_id (a := ry + rh) (by omega), wrap64_id (a := (cx : Int) + cw) (by omega), wrap64_id (a := (cy : Int) + ch) (by omega)]
    clear he hc
    obtain ⟨X, hX⟩ : ∃ X, X = max rx (cx : Int) := ⟨_, rfl⟩
    obtain ⟨Y, hY⟩ : ∃ Y, Y = max ry (cy : Int) := ⟨_, rfl⟩
    obtain ⟨U, hU⟩ : ∃ U, U = min (rx + rw) ((cx : Int) + cw) := ⟨_, rfl⟩
    obtain ⟨V, hV⟩ : ∃ V, V = min (ry + rh) ((cy : Int) + ch) := ⟨_, rfl⟩
    rw [← hX, ← hY, ← hU, ← hV]
    unfold btwR
    rw [wrap64_id (a := U - X) (by omega), wrap64_id (a := V - Y) (by omega)]
    by_cases hb : X ≥ U ∨ Y ≥ V ∨ emptyB X Y (U - X) (V - Y) = true
    · rw [if_pos hb]
      refine ⟨0, 0, 0, 0, rfl, by omega, by omega, fun u v => ⟨fun h => by omega, ?_⟩⟩
      rintro ⟨⟨_, h3⟩, h4⟩
      rcases hb with hb | hb | hb
      · omega
      · omega
      · exfalso
        have : rightB X Y (U - X) (V - Y) = true := by unfold rightB sideB; simp; omega
        unfold emptyB at hb
        rw [this] at hb
        simp at hb
        omega
    · rw [if_neg hb]
      refine ⟨X.toNat, Y.toNat, (U - X).toNat, (V - Y).toNat, ?_, by omega, by omega, fun u v => ?_⟩
      · rw [Int.toNat_of_nonneg (by omega), Int.toNat_of_nonneg (by omega), Int.toNat_of_nonneg (by omega), Int.toNat_of_nonneg (by omega)]
      · rw [hr]
        simp only [true_and]
        omega

end Go.Proofs.Ytkahhglgebhfbaa
