/- Canvases in memory; walks of raster's each and Fill. -/
import Derived.Test.YtkahhglgebhfbaaPix
import Derived.Test.YtkahhglgebhfbaaRep
namespace Go.Proofs.Ytkahhglgebhfbaa
open Go.RowKit
set_option linter.unusedSimpArgs false
set_option linter.unusedVariables false
attribute [local go_sem] max_ints min_ints

/-- Only the blocks of S may have turned, and there may be new ones. -/
structure Chg (S : Nat → Prop) (w w' : World) : Prop where
  os : w'.os = w.os
  tape : w'.tape = w.tape
  output : w'.output = w.output
  size : w.heap.size ≤ w'.heap.size
  block : ∀ k, k < w.heap.size → ¬ S k → w'.heap[k]? = w.heap[k]?
section
variable {S : Nat → Prop} {a w w' : World}
theorem Chg.refl (w : World) : Chg S w w := ⟨rfl, rfl, rfl, Nat.le_refl _, fun _ _ _ => rfl⟩
theorem Chg.trans {b c : World} (h : Chg S a b) (k : Chg S b c) : Chg S a c :=
  ⟨k.os.trans h.os, k.tape.trans h.tape, k.output.trans h.output, Nat.le_trans h.size k.size, fun i hi hs => (k.block i (Nat.lt_of_lt_of_le hi h.size) hs).trans (h.block i hi hs)⟩
theorem Chg.of_below (h : Below w.heap.size w w') : Chg S w w' := ⟨h.os, h.tape, h.output, h.size, fun i hi _ => h.block i hi⟩
theorem Chg.mono {T : Nat → Prop} (h : Chg S w w') (hs : ∀ k, k < w.heap.size → S k → T k) : Chg T w w' := ⟨h.os, h.tape, h.output, h.size, fun i hi ht => h.block i hi fun hk => ht (hs i hi hk)⟩
theorem Chg.below (h : Chg S a w) (hb : Below w.heap.size w w') : Chg S a w' := h.trans (Chg.of_below hb)
theorem Chg.drewN (h : Chg S a w) (n : Nat) : Chg S a (w.drewN n) := ⟨h.os, h.tape, h.output, h.size, h.block⟩
theorem Chg.drew (h : Chg S a w) : Chg S a w.drew := ⟨h.os, h.tape, h.output, h.size, h.block⟩
theorem Chg.alloc (h : Chg S a w) (o : Obj) : Chg S a (w.alloc o) := h.below (below_al (Below.refl _ _) o)
theorem Chg.setCell (h : Chg S a w) {p : Addr} (hp : p.block < a.heap.size → S p.block) (u : Value) : Chg S a (w.setCell p u) :=
  ⟨h.os, h.tape, h.output, by simpa [World.setCell] using h.size, fun k hk hs => (Below.heap_setCell w p u k (by rintro rfl; exact hs (hp hk))).trans (h.block k hk hs)⟩
theorem Chg.call {T : Nat → Prop} (h : Chg S a w) (k : Chg T w w') (hs : ∀ i, i < a.heap.size → T i → S i) : Chg S a w' :=
  ⟨k.os.trans h.os, k.tape.trans h.tape, k.output.trans h.output, Nat.le_trans h.size k.size, fun i hi hn => (k.block i (Nat.lt_of_lt_of_le hi h.size) fun ht => hn (hs i hi ht)).trans (h.block i hi hn)⟩
theorem Chg.to_below (h : Chg S a w) (hs : ∀ i, i < a.heap.size → ¬ S i) : Below a.heap.size a w := ⟨h.os, h.tape, h.output, h.size, fun i hi => h.block i hi (hs i hi)⟩
theorem Blk.chg {g : Nat} {t : TypeId} {cs : Array Value} (h : Blk w g t cs) (k : Chg S w w') (hs : ¬ S g) : Blk w' g t cs := ⟨(k.block g h.lt hs).trans h.out⟩
theorem Blk.ne {g g' : Nat} {t t' : TypeId} {cs cs' : Array Value} (h : Blk w g t cs) (h' : Blk w g' t' cs') (hne : t ≠ t') : g ≠ g' := by
  rintro rfl
  have e := h.out.symm.trans h'.out
  injection e with e
  injection e with _ e
  exact hne e
end

/-- The cells of a picture. -/
def pixV (px : List Int) : Array Value := (px.map fun c => Value.int .u32 c).toArray
theorem pixV_set (px : List Int) (k : Nat) (c : Int) : (pixV px).setIfInBounds k (.int .u32 c) = pixV (px.set k c) := by
  unfold pixV; simp [List.map_set]
theorem pixV_get (px : List Int) (k : Nat) (h : k < px.length) : (pixV px)[k]? = some (.int .u32 px[k]) := by
  unfold pixV; simp [h]
/-- A canvas in memory: its picture, and what may be painted on. -/
structure Cv (w : World) (cb pb : Nat) (W H : Nat) (cx cy cw ch : Nat) (px : List Int) : Prop where
  hd : Blk w cb 158 #[.int .i64 W, .int .i64 H, .slice (some ⟨pb, 0, none⟩) px.length px.length, .int .i64 cx, .int .i64 cy, .int .i64 cw, .int .i64 ch]
  pix : Blk w pb 41 (pixV px)
  len : px.length = W * H
  wide : W ≤ 1024
  high : H ≤ 1024
  inw : cx + cw ≤ W
  inh : cy + ch ≤ H
section
variable {w w' : World} {cb pb W H cx cy cw ch : Nat} {px : List Int}
theorem Cv.ne (h : Cv w cb pb W H cx cy cw ch px) : cb ≠ pb := h.hd.ne h.pix (by decide)
theorem Cv.drewN (h : Cv w cb pb W H cx cy cw ch px) (n : Nat) : Cv (w.drewN n) cb pb W H cx cy cw ch px := { h with hd := h.hd.drewN n, pix := h.pix.drewN n }
theorem Cv.alloc (h : Cv w cb pb W H cx cy cw ch px) (o : Obj) : Cv (w.alloc o) cb pb W H cx cy cw ch px := { h with hd := h.hd.alloc o, pix := h.pix.alloc o }
theorem Cv.below (h : Cv w cb pb W H cx cy cw ch px) (hb : Below w.heap.size w w') : Cv w' cb pb W H cx cy cw ch px := { h with hd := h.hd.call hb, pix := h.pix.call hb }
theorem Cv.far (h : Cv w cb pb W H cx cy cw ch px) {p : Addr} (h1 : cb ≠ p.block) (h2 : pb ≠ p.block) (u : Value) : Cv (w.setCell p u) cb pb W H cx cy cw ch px := { h with hd := h.hd.far h1 u, pix := h.pix.far h2 u }
theorem Cv.dot (h : Cv w cb pb W H cx cy cw ch px) (k : Nat) (c : Int) : Cv (w.setCell ⟨pb, k, none⟩ (.int .u32 c)) cb pb W H cx cy cw ch (px.set k c) :=
  { h with hd := by rw [List.length_set]; exact h.hd.far h.ne _, pix := by rw [← pixV_set]; exact h.pix.set_ k _, len := by rw [List.length_set]; exact h.len }
end

end Go.Proofs.Ytkahhglgebhfbaa
