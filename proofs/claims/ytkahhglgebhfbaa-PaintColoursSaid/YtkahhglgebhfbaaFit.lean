/- Walk of font's Fit: a text cut to a width. -/
import Derived.Test.YtkahhglgebhfbaaFon
namespace Go.Proofs.Ytkahhglgebhfbaa
open Go.RowKit
set_option linter.unusedSimpArgs false
set_option linter.unusedVariables false
attribute [local go_sem] max_ints min_ints

/-- A text cut so that it is not wider than so many places. -/
def fitS (s : ByteArray) (w : Int) : ByteArray :=
  if w < 0 ∨ (w / 8 < 3 ∧ w / 8 < s.size) then ⟨#[]⟩ else if (s.size : Int) ≤ w / 8 then s else s.extract 0 (w / 8 - 3).toNat ++ ⟨#[46, 46, 46]⟩

theorem ret_str {a b : ByteArray} (h : a = b) : Ending.returned (.string a) = .returned (.string b) := by rw [h]

set_option maxHeartbeats 1000000 in
theorem fit_any (s : ByteArray) (wd : Int) (w : World) (hs : s.size ≤ maxLen) (hw : wd ≤ 1048576) (hw2 : -1048576 ≤ wd) : Calls Try.prog 95 #[.string s, .int .i64 wd] w fun e w' => e = .returned (.string (fitS s wd)) ∧ w = w' := by
  unfold maxLen at hs
  generalize hf : fitS s wd = r
  have Hf := Lib.hid hf
  clear hf
  have ht : wd < 0 ∨ wd.tdiv 8 = wd / 8 := by
    rcases Int.lt_or_le wd 0 with h | h
    · exact .inl h
    · exact .inr (Int.tdiv_eq_ediv_of_nonneg h)
  by_cases h0 : wd < 0
  · have e : r = ⟨#[]⟩ := by rw [← Hf.out]; exact if_pos (.inl h0)
    have He := Lib.hid e
    clear e Hf ht
    go_enter Try.func95, Try.ntmps95
    go_wp2
    go_ret
    exact ⟨ret_str He.out.symm, rfl⟩
  · have ht : wd.tdiv 8 = wd / 8 := by rcases ht with h | h; exact absurd h h0; exact h
    have h0' : 0 ≤ wd := by omega
    by_cases h1 : wd / 8 < 3 ∧ wd / 8 < s.size
    · have e : r = ⟨#[]⟩ := by rw [← Hf.out]; exact if_pos (.inr h1)
      have He := Lib.hid e
      obtain ⟨h1a, h1b⟩ := h1
      clear e Hf ht
      go_enter Try.func95, Try.ntmps95
      go_wp2
      go_ret
      exact ⟨ret_str He.out.symm, rfl⟩
    · by_cases h2 : (s.size : Int) ≤ wd / 8
      · have e : r = s := by rw [← Hf.out]; unfold fitS; rw [if_neg (by omega), if_pos h2]
        have He := Lib.hid e
        clear e Hf ht h1
        go_enter Try.func95, Try.ntmps95
        go_wp2
        all_goals (go_ret; exact ⟨ret_str He.out.symm, rfl⟩)
      · have e : r = s.extract 0 (wd / 8 - 3).toNat ++ ⟨#[46, 46, 46]⟩ := by rw [← Hf.out]; unfold fitS; rw [if_neg (by omega), if_neg h2]
        have He := Lib.hid e
        have h3 : 3 ≤ wd / 8 := by omega
        have h4 : wd / 8 < s.size := by omega
        have Ht := Lib.hid ht
        clear e Hf ht h1 h2
        go_enter Try.func95, Try.ntmps95
        go_wp2
        go_ret
        exact ⟨ret_str (by rw [Ht.out]; exact He.out.symm), rfl⟩
end Go.Proofs.Ytkahhglgebhfbaa
