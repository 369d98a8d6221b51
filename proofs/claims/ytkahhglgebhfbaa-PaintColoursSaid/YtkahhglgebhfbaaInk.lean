/- A place at a time: Fill of a dot; which places a text has. -/
import Derived.Test.YtkahhglgebhfbaaPixB
namespace Go.Proofs.Ytkahhglgebhfbaa
open Go.RowKit
set_option linter.unusedSimpArgs false
set_option linter.unusedVariables false
attribute [local go_sem] max_ints min_ints

theorem dotR_has (x y : Int) (u v : Nat) (hu : u ≤ 1024) (hv : v ≤ 1024) :
    (rightB (dotR x y).1 (dotR x y).2.1 (dotR x y).2.2.1 (dotR x y).2.2.2 = true ∧ (dotR x y).1 ≤ u ∧ (u : Int) < (dotR x y).1 + (dotR x y).2.2.1 ∧ (dotR x y).2.1 ≤ v ∧ (v : Int) < (dotR x y).2.1 + (dotR x y).2.2.2) ↔ ((u : Int) = x ∧ (v : Int) = y) := by
  unfold dotR
  by_cases h : rightB x y 1 1 = true
  · rw [if_pos h]
    simp only [h, true_and]
    omega
  · rw [if_neg h]
    constructor
    · rintro ⟨_, h1, h2, _⟩; simp at h1 h2; omega
    · rintro ⟨rfl, rfl⟩
      exact absurd (by unfold rightB sideB; simp; omega) h

theorem fill_dot (cb pb W H cx cy cw ch : Nat) (px : List Int) (col x y : Int) (w : World) (hcv : Cv w cb pb W H cx cy cw ch px) :
    Calls Try.prog 53 #[.pointer (some ⟨cb, 0, none⟩), .agg #[.int .i64 (dotR x y).1, .int .i64 (dotR x y).2.1, .int .i64 (dotR x y).2.2.1, .int .i64 (dotR x y).2.2.2], .int .u32 col] w fun e w' =>
      e = .returned (.tuple #[]) ∧ Cv w' cb pb W H cx cy cw ch (paintP px (fun j => inC W cx cy cw ch j && decide (((j % W : Nat) : Int) = x ∧ ((j / W : Nat) : Int) = y)) col) ∧ Chg (· = pb) w w' := by
  obtain ⟨x', y', n, m, hI, hx, hy, hiff⟩ := intR_clip (dotR x y).1 (dotR x y).2.1 (dotR x y).2.2.1 (dotR x y).2.2.2 W H cx cy cw ch hcv.wide hcv.high hcv.inw hcv.inh
  have h := fill_any cb pb W H cx cy cw ch px col _ _ _ _ x' y' n m w hcv hI hx hy
  rw [paintR_P] at h
  rw [paintP_congr (Q := fun j => inC W cx cy cw ch j && decide (((j % W : Nat) : Int) = x ∧ ((j / W : Nat) : Int) = y)) col (fun j hj => ?_)] at h
  · exact h
  · rw [hcv.len] at hj
    have hW : 0 < W := by rcases Nat.eq_zero_or_pos W with h0 | h0; · rw [h0, Nat.zero_mul] at hj; omega
                          · exact h0
    have hu : j % W < W := Nat.mod_lt _ hW
    have hv : j / W < H := by rw [Nat.div_lt_iff_lt_mul hW, Nat.mul_comm]; exact hj
    have w1 := hcv.wide
    have w2 := hcv.high
    apply bool_eq
    unfold inC
    simp only [decide_eq_true_eq, Bool.and_eq_true]
    rw [hiff, dotR_has x y (j % W) (j / W) (by omega) (by omega)]
    exact And.comm

/-- A byte of a text. -/
def byteAt (s : ByteArray) (i : Nat) : Int := if h : i < s.size then ((s[i]'h).toNat : Int) else 0
theorem byteAt_pos (s : ByteArray) (i : Nat) (h : i < s.size) : byteAt s i = ((s[i]'h).toNat : Int) := by unfold byteAt; rw [dif_pos h]

/-- Is a bit of a row set? -/
def bitB (b : Int) (k : Nat) : Bool := Go.bits .and .u8 (b / 2 ^ k) 1 == 1

/-- Is a place one of a text's whose first sign's corner is at X, Y? -/
def inkB (X Y : Int) (s : ByteArray) (u v : Int) : Bool :=
  decide (-32768 ≤ X ∧ X ≤ 32767 ∧ -32768 ≤ Y ∧ Y ≤ 32767 ∧ X ≤ u ∧ (u - X) / 8 < min (s.size : Int) 1024 ∧ X + (u - X) / 8 * 8 ≤ 32767 ∧ Y ≤ v ∧ v ≤ Y + 15) &&
    bitB (fontB (byteAt s ((u - X) / 8).toNat) (v - Y)) (7 - ((u - X) % 8).toNat)

/-- Has it been painted when so many signs, rows and bits are done? -/
def donB (X Y : Int) (i r k : Nat) (u v : Int) : Bool := decide ((u - X) / 8 < i ∨ (u - X) / 8 = i ∧ (v - Y < r ∨ v - Y = r ∧ (u - X) % 8 < k))
def pz (W cx cy cw ch : Nat) (X Y : Int) (s : ByteArray) (i r k : Nat) (j : Nat) : Bool :=
  inC W cx cy cw ch j && (inkB X Y s ((j % W : Nat) : Int) ((j / W : Nat) : Int) && donB X Y i r k ((j % W : Nat) : Int) ((j / W : Nat) : Int))

section
variable {X Y : Int} {s : ByteArray} {i r k : Nat} (u v : Int)
theorem ink_set (h1 : -32768 ≤ X ∧ X ≤ 32767 ∧ -32768 ≤ Y ∧ Y ≤ 32767) (h2 : X + i * 8 ≤ 32767) (h3 : (i : Int) < min (s.size : Int) 1024) (hr : r < 16) (hk : k < 8) (hb : bitB (fontB (byteAt s i) r) (7 - k) = true) :
    (inkB X Y s u v && donB X Y i r (k + 1) u v) = (inkB X Y s u v && donB X Y i r k u v || decide (u = X + i * 8 + k ∧ v = Y + r)) := by
  by_cases he : u = X + i * 8 + k ∧ v = Y + r
  · obtain ⟨rfl, rfl⟩ := he
    have e1 : (X + i * 8 + k - X) / 8 = i := by omega
    have e2 : (X + i * 8 + k - X) % 8 = k := by omega
    have e3 : Y + (r : Int) - Y = r := by omega
    have a : inkB X Y s (X + i * 8 + k) (Y + r) = true := by
      unfold inkB
      rw [e1, e2, e3, Int.toNat_natCast, Int.toNat_natCast, hb, Bool.and_true, decide_eq_true_eq]
      omega
    have b : donB X Y i r (k + 1) (X + i * 8 + k) (Y + r) = true := by
      unfold donB
      rw [decide_eq_true_eq, e1, e2, e3]
      omega
    rw [a, b]; simp
  · have d : decide (u = X + i * 8 + k ∧ v = Y + r) = false := by simpa using he
    rw [d, Bool.or_false]
    congr 1
    unfold donB
    rw [decide_eq_decide]
    omega
theorem ink_clear (hr : r < 16) (hk : k < 8) (hb : bitB (fontB (byteAt s i) r) (7 - k) = false) :
    (inkB X Y s u v && donB X Y i r (k + 1) u v) = (inkB X Y s u v && donB X Y i r k u v) := by
  by_cases he : (u - X) / 8 = i ∧ v - Y = r ∧ (u - X) % 8 = k
  · obtain ⟨e1, e2, e3⟩ := he
    have a : inkB X Y s u v = false := by
      unfold inkB
      rw [e1, e2, e3, Int.toNat_natCast, Int.toNat_natCast, hb, Bool.and_false]
    rw [a]; rfl
  · congr 1
    unfold donB
    rw [decide_eq_decide]
    omega
theorem ink_row : (inkB X Y s u v && donB X Y i r 8 u v) = (inkB X Y s u v && donB X Y i (r + 1) 0 u v) := by
  congr 1
  unfold donB
  rw [decide_eq_decide]
  omega
theorem ink_col : (inkB X Y s u v && donB X Y i 16 0 u v) = (inkB X Y s u v && donB X Y (i + 1) 0 0 u v) := by
  cases h : inkB X Y s u v with
  | false => rfl
  | true =>
    unfold inkB at h
    rw [Bool.and_eq_true, decide_eq_true_eq] at h
    obtain ⟨h, _⟩ := h
    simp only [Bool.true_and]
    unfold donB
    rw [decide_eq_decide]
    omega
theorem ink_start : (inkB X Y s u v && donB X Y 0 0 0 u v) = false := by
  cases h : inkB X Y s u v with
  | false => rfl
  | true =>
    unfold inkB at h
    rw [Bool.and_eq_true, decide_eq_true_eq] at h
    obtain ⟨h, _⟩ := h
    simp only [Bool.true_and]
    unfold donB
    rw [decide_eq_false_iff_not]
    omega
theorem ink_end (he : min (s.size : Int) 1024 ≤ i ∨ ¬ (-32768 ≤ X ∧ X ≤ 32767 ∧ -32768 ≤ Y ∧ Y ≤ 32767) ∨ 32767 < X + i * 8) : (inkB X Y s u v && donB X Y i 0 0 u v) = inkB X Y s u v := by
  cases h : inkB X Y s u v with
  | false => rfl
  | true =>
    unfold inkB at h
    rw [Bool.and_eq_true, decide_eq_true_eq] at h
    obtain ⟨h, _⟩ := h
    simp only [Bool.true_and]
    unfold donB
    rw [decide_eq_true_eq]
    omega
end

end Go.Proofs.Ytkahhglgebhfbaa
