/-
  NARROWER THAN 'FOR EVERY INPUT', by the rows' own cells (each row's printed sentence says how): LayoutPlaces: loops · LayoutInside: loops · LayoutSeen: loops · LayoutCovers: loops.
  DERIVED. THE GIVEN ROWS OF THIS SEAT. 11 by the template 'for every input the law returns true; each argument reads behind the call as it read before'; 0 by the template 'total and deterministic' (their statements: YtkahhglgebhfbaaTotals.lean).
  GIVEN WITH THE SEED: the statements are not yours to turn. If you find one false, say at which input.
  Laid BY PROGRAM, IN A SANDBOX (cutbox-rows.mjs): the forced cells as the released guide's own fill.sh prints them over the translation 2e0c784f836f887b… (all of the seat's roots in one cut). By AI agents, Wed Nov 11 2026. No macro, syntax, notation, axiom, sorry.
-/
import Derived.Test.YtkahhglgebhfbaaChecked
import GoSem.Claim
import GoSem.ClaimJoined
import GoSem.ClaimMapViews
import Derived.JoinedTies
import Derived.KernelRfl
namespace Go.Proofs.Ytkahhglgebhfbaa
/- THE CELL 'sum', in the pinned program and in every row, IS THE sha256 OF THE DUMP (.gsa) THAT YtkahhglgebhfbaaProg.lean LOADS. Nothing in Lean hashes anything: it is a label: what it is worth is what the hold of that sum in a sandbox is worth. -/
noncomputable def Try.pinned : Pinned := { name := "ytkahhglgebhfbaa", sum := "2e0c784f836f887bd8be35b36378d4e81bafc87fb15d0338eb140873020315b5", checked := Try.checked }
namespace Rows
def none {H : Type} : Left H := { results := [], args := [] }

/-- 'casementlaw22.PaintScreens': WHATEVER THE INPUT: true; the input reads as it did. -/
def paintScreensSpec : ChangeSpec := { name := "paintScreens", fn := fun _ => fun
  | [d1, d2, d3] => { results := [.lit (.bool true)], args := [d1, d2, d3] }
  | _ => none }
def paintScreensRow : OpenClaim := { program := "ytkahhglgebhfbaa", sum := "2e0c784f836f887bd8be35b36378d4e81bafc87fb15d0338eb140873020315b5", func := "casement/casementlaw22.PaintScreens", spec := "paintScreens", unfollowed := true, recurses := true, apart := false }
def PaintScreensSaid : Prop := paintScreensRow.holds Try.pinned (OpenSpec.ofChange paintScreensSpec)

/-- ITS FALSE NEIGHBOUR: 'it returns false'. Refute it at one input. -/
def paintScreensWrong : ChangeSpec := { name := "paintScreens", fn := fun _ => fun
  | [d1, d2, d3] => { results := [.lit (.bool false)], args := [d1, d2, d3] }
  | _ => none }
def PaintScreensWrongFalsely : Prop := paintScreensRow.holds Try.pinned (OpenSpec.ofChange paintScreensWrong)

/-- 'casementlaw22.PaintColours': WHATEVER THE INPUT: true; the input reads as it did. -/
def paintColoursSpec : ChangeSpec := { name := "paintColours", fn := fun _ => fun
  | [d] => { results := [.lit (.bool true)], args := [d] }
  | _ => none }
def paintColoursRow : OpenClaim := { program := "ytkahhglgebhfbaa", sum := "2e0c784f836f887bd8be35b36378d4e81bafc87fb15d0338eb140873020315b5", func := "casement/casementlaw22.PaintColours", spec := "paintColours", unfollowed := true, recurses := true, apart := false }
def PaintColoursSaid : Prop := paintColoursRow.holds Try.pinned (OpenSpec.ofChange paintColoursSpec)

/-- ITS FALSE NEIGHBOUR: 'it returns false'. Refute it at one input. -/
def paintColoursWrong : ChangeSpec := { name := "paintColours", fn := fun _ => fun
  | [d] => { results := [.lit (.bool false)], args := [d] }
  | _ => none }
def PaintColoursWrongFalsely : Prop := paintColoursRow.holds Try.pinned (OpenSpec.ofChange paintColoursWrong)

/-- 'casementlaw22.PaintTop': WHATEVER THE INPUT: true; the input reads as it did. -/
def paintTopSpec : ChangeSpec := { name := "paintTop", fn := fun _ => fun
  | [d1, d2, d3, d4, d5] => { results := [.lit (.bool true)], args := [d1, d2, d3, d4, d5] }
  | _ => none }
def paintTopRow : OpenClaim := { program := "ytkahhglgebhfbaa", sum := "2e0c784f836f887bd8be35b36378d4e81bafc87fb15d0338eb140873020315b5", func := "casement/casementlaw22.PaintTop", spec := "paintTop", unfollowed := true, recurses := true, apart := false }
def PaintTopSaid : Prop := paintTopRow.holds Try.pinned (OpenSpec.ofChange paintTopSpec)

/-- ITS FALSE NEIGHBOUR: 'it returns false'. Refute it at one input. -/
def paintTopWrong : ChangeSpec := { name := "paintTop", fn := fun _ => fun
  | [d1, d2, d3, d4, d5] => { results := [.lit (.bool false)], args := [d1, d2, d3, d4, d5] }
  | _ => none }
def PaintTopWrongFalsely : Prop := paintTopRow.holds Try.pinned (OpenSpec.ofChange paintTopWrong)

/-- 'casementlaw22.PaintApart': WHATEVER THE INPUT: true; the input reads as it did. -/
def paintApartSpec : ChangeSpec := { name := "paintApart", fn := fun _ => fun
  | [d1, d2, d3, d4] => { results := [.lit (.bool true)], args := [d1, d2, d3, d4] }
  | _ => none }
def paintApartRow : OpenClaim := { program := "ytkahhglgebhfbaa", sum := "2e0c784f836f887bd8be35b36378d4e81bafc87fb15d0338eb140873020315b5", func := "casement/casementlaw22.PaintApart", spec := "paintApart", unfollowed := true, recurses := true, apart := false }
def PaintApartSaid : Prop := paintApartRow.holds Try.pinned (OpenSpec.ofChange paintApartSpec)

/-- ITS FALSE NEIGHBOUR: 'it returns false'. Refute it at one input. -/
def paintApartWrong : ChangeSpec := { name := "paintApart", fn := fun _ => fun
  | [d1, d2, d3, d4] => { results := [.lit (.bool false)], args := [d1, d2, d3, d4] }
  | _ => none }
def PaintApartWrongFalsely : Prop := paintApartRow.holds Try.pinned (OpenSpec.ofChange paintApartWrong)

/-- 'casementlaw14.LayoutPlaces': WHATEVER THE INPUT: true; the input reads as it did. -/
def layoutPlacesSpec : ChangeSpec := { name := "layoutPlaces", fn := fun _ => fun
  | [d1, d2, d3] => { results := [.lit (.bool true)], args := [d1, d2, d3] }
  | _ => none }
def layoutPlacesRow : OpenClaim := { program := "ytkahhglgebhfbaa", sum := "2e0c784f836f887bd8be35b36378d4e81bafc87fb15d0338eb140873020315b5", func := "casement/casementlaw14.LayoutPlaces", spec := "layoutPlaces", unfollowed := true, recurses := true, loops := true, apart := false }
def LayoutPlacesSaid : Prop := layoutPlacesRow.holds Try.pinned (OpenSpec.ofChange layoutPlacesSpec)

/-- ITS FALSE NEIGHBOUR: 'it returns false'. Refute it at one input. -/
def layoutPlacesWrong : ChangeSpec := { name := "layoutPlaces", fn := fun _ => fun
  | [d1, d2, d3] => { results := [.lit (.bool false)], args := [d1, d2, d3] }
  | _ => none }
def LayoutPlacesWrongFalsely : Prop := layoutPlacesRow.holds Try.pinned (OpenSpec.ofChange layoutPlacesWrong)

/-- 'casementlaw14.LayoutLeaves': WHATEVER THE INPUT: true; the input reads as it did. -/
def layoutLeavesSpec : ChangeSpec := { name := "layoutLeaves", fn := fun _ => fun
  | [d1, d2, d3, d4] => { results := [.lit (.bool true)], args := [d1, d2, d3, d4] }
  | _ => none }
def layoutLeavesRow : OpenClaim := { program := "ytkahhglgebhfbaa", sum := "2e0c784f836f887bd8be35b36378d4e81bafc87fb15d0338eb140873020315b5", func := "casement/casementlaw14.LayoutLeaves", spec := "layoutLeaves", unfollowed := true, recurses := true, apart := false }
def LayoutLeavesSaid : Prop := layoutLeavesRow.holds Try.pinned (OpenSpec.ofChange layoutLeavesSpec)

/-- ITS FALSE NEIGHBOUR: 'it returns false'. Refute it at one input. -/
def layoutLeavesWrong : ChangeSpec := { name := "layoutLeaves", fn := fun _ => fun
  | [d1, d2, d3, d4] => { results := [.lit (.bool false)], args := [d1, d2, d3, d4] }
  | _ => none }
def LayoutLeavesWrongFalsely : Prop := layoutLeavesRow.holds Try.pinned (OpenSpec.ofChange layoutLeavesWrong)

/-- 'casementlaw14.LayoutInside': WHATEVER THE INPUT: true; the input reads as it did. -/
def layoutInsideSpec : ChangeSpec := { name := "layoutInside", fn := fun _ => fun
  | [d1, d2, d3] => { results := [.lit (.bool true)], args := [d1, d2, d3] }
  | _ => none }
def layoutInsideRow : OpenClaim := { program := "ytkahhglgebhfbaa", sum := "2e0c784f836f887bd8be35b36378d4e81bafc87fb15d0338eb140873020315b5", func := "casement/casementlaw14.LayoutInside", spec := "layoutInside", unfollowed := true, recurses := true, loops := true, apart := false }
def LayoutInsideSaid : Prop := layoutInsideRow.holds Try.pinned (OpenSpec.ofChange layoutInsideSpec)

/-- ITS FALSE NEIGHBOUR: 'it returns false'. Refute it at one input. -/
def layoutInsideWrong : ChangeSpec := { name := "layoutInside", fn := fun _ => fun
  | [d1, d2, d3] => { results := [.lit (.bool false)], args := [d1, d2, d3] }
  | _ => none }
def LayoutInsideWrongFalsely : Prop := layoutInsideRow.holds Try.pinned (OpenSpec.ofChange layoutInsideWrong)

/-- 'casementlaw14.LayoutSeen': WHATEVER THE INPUT: true; the input reads as it did. -/
def layoutSeenSpec : ChangeSpec := { name := "layoutSeen", fn := fun _ => fun
  | [d1, d2, d3, d4, d5] => { results := [.lit (.bool true)], args := [d1, d2, d3, d4, d5] }
  | _ => none }
def layoutSeenRow : OpenClaim := { program := "ytkahhglgebhfbaa", sum := "2e0c784f836f887bd8be35b36378d4e81bafc87fb15d0338eb140873020315b5", func := "casement/casementlaw14.LayoutSeen", spec := "layoutSeen", unfollowed := true, recurses := true, loops := true, apart := false }
def LayoutSeenSaid : Prop := layoutSeenRow.holds Try.pinned (OpenSpec.ofChange layoutSeenSpec)

/-- ITS FALSE NEIGHBOUR: 'it returns false'. Refute it at one input. -/
def layoutSeenWrong : ChangeSpec := { name := "layoutSeen", fn := fun _ => fun
  | [d1, d2, d3, d4, d5] => { results := [.lit (.bool false)], args := [d1, d2, d3, d4, d5] }
  | _ => none }
def LayoutSeenWrongFalsely : Prop := layoutSeenRow.holds Try.pinned (OpenSpec.ofChange layoutSeenWrong)

/-- 'casementlaw14.LayoutTabs': WHATEVER THE INPUT: true; the input reads as it did. -/
def layoutTabsSpec : ChangeSpec := { name := "layoutTabs", fn := fun _ => fun
  | [d1, d2, d3] => { results := [.lit (.bool true)], args := [d1, d2, d3] }
  | _ => none }
def layoutTabsRow : OpenClaim := { program := "ytkahhglgebhfbaa", sum := "2e0c784f836f887bd8be35b36378d4e81bafc87fb15d0338eb140873020315b5", func := "casement/casementlaw14.LayoutTabs", spec := "layoutTabs", unfollowed := true, recurses := true, apart := false }
def LayoutTabsSaid : Prop := layoutTabsRow.holds Try.pinned (OpenSpec.ofChange layoutTabsSpec)

/-- ITS FALSE NEIGHBOUR: 'it returns false'. Refute it at one input. -/
def layoutTabsWrong : ChangeSpec := { name := "layoutTabs", fn := fun _ => fun
  | [d1, d2, d3] => { results := [.lit (.bool false)], args := [d1, d2, d3] }
  | _ => none }
def LayoutTabsWrongFalsely : Prop := layoutTabsRow.holds Try.pinned (OpenSpec.ofChange layoutTabsWrong)

/-- 'casementlaw22.PaintLabels': WHATEVER THE INPUT: true; the input reads as it did. -/
def paintLabelsSpec : ChangeSpec := { name := "paintLabels", fn := fun _ => fun
  | [d1, d2] => { results := [.lit (.bool true)], args := [d1, d2] }
  | _ => none }
def paintLabelsRow : OpenClaim := { program := "ytkahhglgebhfbaa", sum := "2e0c784f836f887bd8be35b36378d4e81bafc87fb15d0338eb140873020315b5", func := "casement/casementlaw22.PaintLabels", spec := "paintLabels", unfollowed := true, recurses := true, apart := false }
def PaintLabelsSaid : Prop := paintLabelsRow.holds Try.pinned (OpenSpec.ofChange paintLabelsSpec)

/-- ITS FALSE NEIGHBOUR: 'it returns false'. Refute it at one input. -/
def paintLabelsWrong : ChangeSpec := { name := "paintLabels", fn := fun _ => fun
  | [d1, d2] => { results := [.lit (.bool false)], args := [d1, d2] }
  | _ => none }
def PaintLabelsWrongFalsely : Prop := paintLabelsRow.holds Try.pinned (OpenSpec.ofChange paintLabelsWrong)

/-- 'casementlaw14.LayoutCovers': WHATEVER THE INPUT: true; the input reads as it did. -/
def layoutCoversSpec : ChangeSpec := { name := "layoutCovers", fn := fun _ => fun
  | [d1, d2, d3] => { results := [.lit (.bool true)], args := [d1, d2, d3] }
  | _ => none }
def layoutCoversRow : OpenClaim := { program := "ytkahhglgebhfbaa", sum := "2e0c784f836f887bd8be35b36378d4e81bafc87fb15d0338eb140873020315b5", func := "casement/casementlaw14.LayoutCovers", spec := "layoutCovers", unfollowed := true, recurses := true, loops := true, apart := false }
def LayoutCoversSaid : Prop := layoutCoversRow.holds Try.pinned (OpenSpec.ofChange layoutCoversSpec)

/-- ITS FALSE NEIGHBOUR: 'it returns false'. Refute it at one input. -/
def layoutCoversWrong : ChangeSpec := { name := "layoutCovers", fn := fun _ => fun
  | [d1, d2, d3] => { results := [.lit (.bool false)], args := [d1, d2, d3] }
  | _ => none }
def LayoutCoversWrongFalsely : Prop := layoutCoversRow.holds Try.pinned (OpenSpec.ofChange layoutCoversWrong)

/- THE SECOND FORM. 'bulk': how many values and letters a reading holds, each counted each time it is reached (what is shared counts as often as it is met; a slice's spare places count too). A statement '..UptoSaid' is the law's where the arguments, and the package variables that the reading takes, are together of bulk at most 1048576: NARROWER than '..Said'. Prove '..Said' where nothing that the law and all that it calls make is longer than what came in: it says more and counts as full. Else prove '..UptoSaid'. A law counts once. -/
mutual
def uptoBulk {H : Type} : DataW H → Nat
  | .lit (.string bytes) => bytes.length + 1
  | .lit _ => 1
  | .nil => 1
  | .ptr d => uptoBulk d + 1
  | .slice elems spare => uptoBulkAll elems + uptoBulkAll spare + 1
  | .agg parts => uptoBulkAll parts + 1
  | .iface _ d => uptoBulk d + 1
  | .map entries => uptoBulkEntries entries + 1
  | .held _ => 1
def uptoBulkAll {H : Type} : List (DataW H) → Nat
  | [] => 0
  | d :: r => uptoBulk d + uptoBulkAll r
def uptoBulkEntries {H : Type} : List (Lit × DataW H) → Nat
  | [] => 0
  | x :: r => uptoBulkEntry x + uptoBulkEntries r
def uptoBulkEntry {H : Type} : Lit × DataW H → Nat
  | (.string bytes, d) => bytes.length + uptoBulk d + 1
  | (_, d) => uptoBulk d + 1
 end
def uptoSmall : (H : Type) → List (DataW H) → Bool := fun _ ds => decide (uptoBulkAll ds ≤ 1048576)
def OpenSpec.upto (s : _root_.Go.ChangeSpec) : _root_.Go.OpenSpec := { _root_.Go.OpenSpec.ofChange s with cond := some uptoSmall }

/-- 'casementlaw22.PaintScreens', WHERE WHAT IT READS IS OF BULK AT MOST 1048576: true; the input reads as it did. -/
def paintScreensUptoRow : OpenClaim := { program := "ytkahhglgebhfbaa", sum := "2e0c784f836f887bd8be35b36378d4e81bafc87fb15d0338eb140873020315b5", func := "casement/casementlaw22.PaintScreens", spec := "paintScreens", unfollowed := true, recurses := true, apart := false, narrowed := true }
def PaintScreensUptoSaid : Prop := paintScreensUptoRow.holds Try.pinned (OpenSpec.upto paintScreensSpec)

/-- 'casementlaw22.PaintColours', WHERE WHAT IT READS IS OF BULK AT MOST 1048576: true; the input reads as it did. -/
def paintColoursUptoRow : OpenClaim := { program := "ytkahhglgebhfbaa", sum := "2e0c784f836f887bd8be35b36378d4e81bafc87fb15d0338eb140873020315b5", func := "casement/casementlaw22.PaintColours", spec := "paintColours", unfollowed := true, recurses := true, apart := false, narrowed := true }
def PaintColoursUptoSaid : Prop := paintColoursUptoRow.holds Try.pinned (OpenSpec.upto paintColoursSpec)

/-- 'casementlaw22.PaintTop', WHERE WHAT IT READS IS OF BULK AT MOST 1048576: true; the input reads as it did. -/
def paintTopUptoRow : OpenClaim := { program := "ytkahhglgebhfbaa", sum := "2e0c784f836f887bd8be35b36378d4e81bafc87fb15d0338eb140873020315b5", func := "casement/casementlaw22.PaintTop", spec := "paintTop", unfollowed := true, recurses := true, apart := false, narrowed := true }
def PaintTopUptoSaid : Prop := paintTopUptoRow.holds Try.pinned (OpenSpec.upto paintTopSpec)

/-- 'casementlaw22.PaintApart', WHERE WHAT IT READS IS OF BULK AT MOST 1048576: true; the input reads as it did. -/
def paintApartUptoRow : OpenClaim := { program := "ytkahhglgebhfbaa", sum := "2e0c784f836f887bd8be35b36378d4e81bafc87fb15d0338eb140873020315b5", func := "casement/casementlaw22.PaintApart", spec := "paintApart", unfollowed := true, recurses := true, apart := false, narrowed := true }
def PaintApartUptoSaid : Prop := paintApartUptoRow.holds Try.pinned (OpenSpec.upto paintApartSpec)

/-- 'casementlaw14.LayoutPlaces', WHERE WHAT IT READS IS OF BULK AT MOST 1048576: true; the input reads as it did. -/
def layoutPlacesUptoRow : OpenClaim := { program := "ytkahhglgebhfbaa", sum := "2e0c784f836f887bd8be35b36378d4e81bafc87fb15d0338eb140873020315b5", func := "casement/casementlaw14.LayoutPlaces", spec := "layoutPlaces", unfollowed := true, recurses := true, loops := true, apart := false, narrowed := true }
def LayoutPlacesUptoSaid : Prop := layoutPlacesUptoRow.holds Try.pinned (OpenSpec.upto layoutPlacesSpec)

/-- 'casementlaw14.LayoutLeaves', WHERE WHAT IT READS IS OF BULK AT MOST 1048576: true; the input reads as it did. -/
def layoutLeavesUptoRow : OpenClaim := { program := "ytkahhglgebhfbaa", sum := "2e0c784f836f887bd8be35b36378d4e81bafc87fb15d0338eb140873020315b5", func := "casement/casementlaw14.LayoutLeaves", spec := "layoutLeaves", unfollowed := true, recurses := true, apart := false, narrowed := true }
def LayoutLeavesUptoSaid : Prop := layoutLeavesUptoRow.holds Try.pinned (OpenSpec.upto layoutLeavesSpec)

/-- 'casementlaw14.LayoutInside', WHERE WHAT IT READS IS OF BULK AT MOST 1048576: true; the input reads as it did. -/
def layoutInsideUptoRow : OpenClaim := { program := "ytkahhglgebhfbaa", sum := "2e0c784f836f887bd8be35b36378d4e81bafc87fb15d0338eb140873020315b5", func := "casement/casementlaw14.LayoutInside", spec := "layoutInside", unfollowed := true, recurses := true, loops := true, apart := false, narrowed := true }
def LayoutInsideUptoSaid : Prop := layoutInsideUptoRow.holds Try.pinned (OpenSpec.upto layoutInsideSpec)

/-- 'casementlaw14.LayoutSeen', WHERE WHAT IT READS IS OF BULK AT MOST 1048576: true; the input reads as it did. -/
def layoutSeenUptoRow : OpenClaim := { program := "ytkahhglgebhfbaa", sum := "2e0c784f836f887bd8be35b36378d4e81bafc87fb15d0338eb140873020315b5", func := "casement/casementlaw14.LayoutSeen", spec := "layoutSeen", unfollowed := true, recurses := true, loops := true, apart := false, narrowed := true }
def LayoutSeenUptoSaid : Prop := layoutSeenUptoRow.holds Try.pinned (OpenSpec.upto layoutSeenSpec)

/-- 'casementlaw14.LayoutTabs', WHERE WHAT IT READS IS OF BULK AT MOST 1048576: true; the input reads as it did. -/
def layoutTabsUptoRow : OpenClaim := { program := "ytkahhglgebhfbaa", sum := "2e0c784f836f887bd8be35b36378d4e81bafc87fb15d0338eb140873020315b5", func := "casement/casementlaw14.LayoutTabs", spec := "layoutTabs", unfollowed := true, recurses := true, apart := false, narrowed := true }
def LayoutTabsUptoSaid : Prop := layoutTabsUptoRow.holds Try.pinned (OpenSpec.upto layoutTabsSpec)

/-- 'casementlaw22.PaintLabels', WHERE WHAT IT READS IS OF BULK AT MOST 1048576: true; the input reads as it did. -/
def paintLabelsUptoRow : OpenClaim := { program := "ytkahhglgebhfbaa", sum := "2e0c784f836f887bd8be35b36378d4e81bafc87fb15d0338eb140873020315b5", func := "casement/casementlaw22.PaintLabels", spec := "paintLabels", unfollowed := true, recurses := true, apart := false, narrowed := true }
def PaintLabelsUptoSaid : Prop := paintLabelsUptoRow.holds Try.pinned (OpenSpec.upto paintLabelsSpec)

/-- 'casementlaw14.LayoutCovers', WHERE WHAT IT READS IS OF BULK AT MOST 1048576: true; the input reads as it did. -/
def layoutCoversUptoRow : OpenClaim := { program := "ytkahhglgebhfbaa", sum := "2e0c784f836f887bd8be35b36378d4e81bafc87fb15d0338eb140873020315b5", func := "casement/casementlaw14.LayoutCovers", spec := "layoutCovers", unfollowed := true, recurses := true, loops := true, apart := false, narrowed := true }
def LayoutCoversUptoSaid : Prop := layoutCoversUptoRow.holds Try.pinned (OpenSpec.upto layoutCoversSpec)

end Rows
end Go.Proofs.Ytkahhglgebhfbaa
