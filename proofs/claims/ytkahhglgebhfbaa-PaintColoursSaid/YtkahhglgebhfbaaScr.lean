/- Walk of paint's Screen. -/
import Derived.Test.YtkahhglgebhfbaaWrt
namespace Go.Proofs.Ytkahhglgebhfbaa
open Go.RowKit
set_option linter.unusedSimpArgs false
set_option linter.unusedVariables false
attribute [local go_sem] max_ints min_ints

/-- A title, and a shape, as numbers. -/
structure Lab where
  x : Int
  y : Int
  n : Int
  m : Int
  name : ByteArray
  op : Bool
structure Sha where
  c : Int
  x : Int
  y : Int
  n : Int
  m : Int
  x2 : Int
  y2 : Int
  n2 : Int
  m2 : Int
  x3 : Int
  y3 : Int
  n3 : Int
  m3 : Int
  name : ByteArray
  f : Bool
  u : Bool
def Lab.vals (l : Lab) : List Value := [.int .i64 l.x, .int .i64 l.y, .int .i64 l.n, .int .i64 l.m, .string l.name, .bool l.op]
def Sha.vals (s : Sha) : List Value := [.int .i64 s.c, .int .i64 s.x, .int .i64 s.y, .int .i64 s.n, .int .i64 s.m, .int .i64 s.x2, .int .i64 s.y2, .int .i64 s.n2, .int .i64 s.m2, .int .i64 s.x3, .int .i64 s.y3, .int .i64 s.n3, .int .i64 s.m3, .string s.name, .bool s.f, .bool s.u]

/-- What a title does to a picture; and a shape. -/
def labP (ax ay : Int) (W H : Nat) (px : List Int) (l : Lab) : List Int :=
  paintP (paintP px (fun j => hasR (hereR ax ay W H l.x l.y l.n l.m) ((j % W : Nat) : Int) ((j / W : Nat) : Int)) (if l.op = true then 4284442474 else 4280427042))
    (fun j => wriB ax ay W H l.x l.y l.n l.m l.name ((j % W : Nat) : Int) ((j / W : Nat) : Int)) 4294967295
def shaP (ax ay : Int) (W H : Nat) (px : List Int) (s : Sha) : List Int :=
  paintP (paintP (paintP px (fun j => hasR (hereR ax ay W H s.x s.y s.n s.m) ((j % W : Nat) : Int) ((j / W : Nat) : Int)) (edgeC s.f s.u))
    (fun j => wriB ax ay W H s.x2 s.y2 s.n2 s.m2 s.name ((j % W : Nat) : Int) ((j / W : Nat) : Int)) 4294967295)
    (fun j => hasR (hereR ax ay W H s.x3 s.y3 s.n3 s.m3) ((j % W : Nat) : Int) ((j / W : Nat) : Int)) (colC s.c)

theorem fill_full (cb pb W H : Nat) (px : List Int) (col : Int) (q : Int × Int × Int × Int) (w : World) (hcv : CvF w cb pb W H px) :
    Calls Try.prog 53 #[.pointer (some ⟨cb, 0, none⟩), .agg #[.int .i64 q.1, .int .i64 q.2.1, .int .i64 q.2.2.1, .int .i64 q.2.2.2], .int .u32 col] w fun e w' =>
      e = .returned (.tuple #[]) ∧ CvF w' cb pb W H (paintP px (fun j => hasR q ((j % W : Nat) : Int) ((j / W : Nat) : Int)) col) ∧ Chg (· = pb) w w' := by
  obtain ⟨cw, ch, hcv, hful⟩ := hcv
  obtain ⟨x', y', n, m, hI, hx, hy, hiff⟩ := intR_clip q.1 q.2.1 q.2.2.1 q.2.2.2 W H 0 0 cw ch hcv.wide hcv.high hcv.inw hcv.inh
  have h := fill_any cb pb W H 0 0 cw ch px col _ _ _ _ x' y' n m w hcv hI hx hy
  rw [paintR_P] at h
  rw [paintP_congr (Q := fun j => hasR q ((j % W : Nat) : Int) ((j / W : Nat) : Int)) col (fun j hj => ?_)] at h
  · refine h.mono ?_
    rintro e w' ⟨he, h1, h2⟩
    exact ⟨he, ⟨cw, ch, h1, hful⟩, h2⟩
  · rw [hcv.len] at hj
    have hW : 0 < W := by
      rcases Nat.eq_zero_or_pos W with h0 | h0
      · rw [h0, Nat.zero_mul] at hj; omega
      · exact h0
    have hu : j % W < W := Nat.mod_lt _ hW
    have hv : j / W < H := by rw [Nat.div_lt_iff_lt_mul hW, Nat.mul_comm]; exact hj
    obtain ⟨rfl, rfl⟩ := hful (by omega)
    unfold hasR
    rw [decide_eq_decide, hiff]
    generalize j % cw = a at *
    generalize j / cw = b at *
    constructor
    · rintro ⟨h, _⟩; exact h
    · intro h; exact ⟨h, by omega⟩

/-- Element i of a slice has these cells. -/
def RowsAt (w : World) (b size n : Nat) (f : Nat → List Value) : Prop := ∀ i, i < n → ∀ j v, (f i)[j]? = some v → w.cell? ⟨b, i * size + j, none⟩ = some v

/-- What is known of memory while a screen is painted. -/
structure Sc (w wr : World) (cb pb W H : Nat) (px : List Int) (ax ay : Int) (g : Nat) : Prop where
  cv : CvF wr cb pb W H px
  p : Blk wr g 108 #[.pointer (some ⟨cb, 0, none⟩), .int .i64 ax, .int .i64 ay, .int .i64 W, .int .i64 H]
  r : Blk wr (w.heap.size + 1) 30 #[.int .i64 0, .int .i64 0, .slice none 0 0]
  b : Below w.heap.size w wr
  c1 : w.heap.size ≤ cb
  c2 : w.heap.size ≤ pb
theorem CvF.hd {w : World} {cb pb W H : Nat} {px : List Int} (h : CvF w cb pb W H px) : cb < w.heap.size ∧ pb < w.heap.size := by
  obtain ⟨_, _, h, _⟩ := h; exact ⟨h.hd.lt, h.pix.lt⟩
theorem CvF.ne {w : World} {cb pb W H : Nat} {px : List Int} (h : CvF w cb pb W H px) {g t : Nat} {cs : Array Value} (hb : Blk w g t cs) (h1 : t ≠ 158) (h2 : t ≠ 41) : g ≠ cb ∧ g ≠ pb := by
  obtain ⟨_, _, h, _⟩ := h; exact ⟨hb.ne h.hd h1, hb.ne h.pix h2⟩
theorem CvF.alloc {w : World} {cb pb W H : Nat} {px : List Int} (h : CvF w cb pb W H px) (o : Obj) : CvF (w.alloc o) cb pb W H px := by
  obtain ⟨a, b, h, hf⟩ := h; exact ⟨a, b, h.alloc o, hf⟩
theorem CvF.drewN {w : World} {cb pb W H : Nat} {px : List Int} (h : CvF w cb pb W H px) (n : Nat) : CvF (w.drewN n) cb pb W H px := by
  obtain ⟨a, b, h, hf⟩ := h; exact ⟨a, b, h.drewN n, hf⟩
theorem CvF.below {w w' : World} {cb pb W H : Nat} {px : List Int} (h : CvF w cb pb W H px) (hb : Below w.heap.size w w') : CvF w' cb pb W H px := by
  obtain ⟨a, b, h, hf⟩ := h; exact ⟨a, b, h.below hb, hf⟩
section
variable {w wr w' : World} {cb pb W H : Nat} {px px' : List Int} {ax ay : Int} {g : Nat}
theorem Sc.below (h : Sc w wr cb pb W H px ax ay g) (hb : Below wr.heap.size wr w') : Sc w w' cb pb W H px ax ay g :=
  ⟨h.cv.below hb, h.p.call hb, h.r.call hb, below_call h.b hb, h.c1, h.c2⟩
theorem Sc.drewN (h : Sc w wr cb pb W H px ax ay g) (n : Nat) : Sc w (wr.drewN n) cb pb W H px ax ay g :=
  ⟨h.cv.drewN n, h.p.drewN n, h.r.drewN n, below_dn h.b n, h.c1, h.c2⟩
theorem Sc.alloc (h : Sc w wr cb pb W H px ax ay g) (o : Obj) : Sc w (wr.alloc o) cb pb W H px ax ay g := h.below (below_al (Below.refl _ _) o)
theorem Sc.paint (h : Sc w wr cb pb W H px ax ay g) (hcv : CvF w' cb pb W H px') (hc : Chg (fun k => k = pb ∨ k = cb) wr w') : Sc w w' cb pb W H px' ax ay g := by
  have hp := h.cv.ne h.p (by decide) (by decide)
  have hr := h.cv.ne h.r (by decide) (by decide)
  refine ⟨hcv, h.p.chg hc (by simp; omega), h.r.chg hc (by simp; omega), ?_, h.c1, h.c2⟩
  have hc1 := h.c1
  have hc2 := h.c2
  exact ((Chg.of_below h.b).call (T := fun k => k = pb ∨ k = cb) (S := fun _ => False) hc (fun i hi ht => by omega)).to_below (fun _ _ h => h)
end

end Go.Proofs.Ytkahhglgebhfbaa
