/-
  No cell of these rows narrows 'for every input' (looked for: loops, veiled, ifaces, maps, wideKeys, modest, calm, conditions, laid).
  DERIVED. THE GIVEN ROWS OF THIS SEAT. 9 by the template 'for every input the law returns true; each argument reads behind the call as it read before'; 0 by the template 'total and deterministic' (their statements: YtmlmcidljiibaaaTotals.lean).
  GIVEN WITH THE SEED: the statements are not yours to turn. If you find one false, say at which input.
  Laid BY PROGRAM, IN A SANDBOX (cutbox-rows.mjs): the forced cells as the released guide's own fill.sh prints them over the translation 0c2d05b0eb675233… (all of the seat's roots in one cut). By AI agents, Wed Nov 11 2026. No macro, syntax, notation, axiom, sorry.
-/
import Derived.Test.YtmlmcidljiibaaaChecked
import GoSem.Claim
import GoSem.ClaimJoined
import GoSem.ClaimMapViews
import Derived.JoinedTies
import Derived.KernelRfl
namespace Go.Proofs.Ytmlmcidljiibaaa
/- THE CELL 'sum', in the pinned program and in every row, IS THE sha256 OF THE DUMP (.gsa) THAT YtmlmcidljiibaaaProg.lean LOADS. Nothing in Lean hashes anything: it is a label: what it is worth is what the hold of that sum in a sandbox is worth. -/
noncomputable def Try.pinned : Pinned := { name := "ytmlmcidljiibaaa", sum := "0c2d05b0eb6752335a4161992db3bbc46718bd002fd6077f75ae8fc5ddc95fe9", checked := Try.checked }
namespace Rows
def none {H : Type} : Left H := { results := [], args := [] }

/-- 'roquetlaw02.LawnPuts': WHATEVER THE INPUT: true; the input reads as it did. -/
def lawnPutsSpec : ChangeSpec := { name := "lawnPuts", fn := fun _ => fun
  | [d1, d2, d3, d4] => { results := [.lit (.bool true)], args := [d1, d2, d3, d4] }
  | _ => none }
def lawnPutsRow : OpenClaim := { program := "ytmlmcidljiibaaa", sum := "0c2d05b0eb6752335a4161992db3bbc46718bd002fd6077f75ae8fc5ddc95fe9", func := "roquet/roquetlaw02.LawnPuts", spec := "lawnPuts", unfollowed := true, recurses := true, apart := false }
def LawnPutsSaid : Prop := lawnPutsRow.holds Try.pinned (OpenSpec.ofChange lawnPutsSpec)

/-- ITS FALSE NEIGHBOUR: 'it returns false'. Refute it at one input. -/
def lawnPutsWrong : ChangeSpec := { name := "lawnPuts", fn := fun _ => fun
  | [d1, d2, d3, d4] => { results := [.lit (.bool false)], args := [d1, d2, d3, d4] }
  | _ => none }
def LawnPutsWrongFalsely : Prop := lawnPutsRow.holds Try.pinned (OpenSpec.ofChange lawnPutsWrong)

/-- 'roquetlaw02.LawnMirrored': WHATEVER THE INPUT: true; the input reads as it did. -/
def lawnMirroredSpec : ChangeSpec := { name := "lawnMirrored", fn := fun _ => fun
  | [d1, d2, d3, d4, d5] => { results := [.lit (.bool true)], args := [d1, d2, d3, d4, d5] }
  | _ => none }
def lawnMirroredRow : OpenClaim := { program := "ytmlmcidljiibaaa", sum := "0c2d05b0eb6752335a4161992db3bbc46718bd002fd6077f75ae8fc5ddc95fe9", func := "roquet/roquetlaw02.LawnMirrored", spec := "lawnMirrored", unfollowed := true, recurses := true, apart := false }
def LawnMirroredSaid : Prop := lawnMirroredRow.holds Try.pinned (OpenSpec.ofChange lawnMirroredSpec)

/-- ITS FALSE NEIGHBOUR: 'it returns false'. Refute it at one input. -/
def lawnMirroredWrong : ChangeSpec := { name := "lawnMirrored", fn := fun _ => fun
  | [d1, d2, d3, d4, d5] => { results := [.lit (.bool false)], args := [d1, d2, d3, d4, d5] }
  | _ => none }
def LawnMirroredWrongFalsely : Prop := lawnMirroredRow.holds Try.pinned (OpenSpec.ofChange lawnMirroredWrong)

/-- 'roquetlaw02.LawnWays': WHATEVER THE INPUT: true; the input reads as it did. -/
def lawnWaysSpec : ChangeSpec := { name := "lawnWays", fn := fun _ => fun
  | [d1, d2, d3, d4, d5, d6, d7] => { results := [.lit (.bool true)], args := [d1, d2, d3, d4, d5, d6, d7] }
  | _ => none }
def lawnWaysRow : OpenClaim := { program := "ytmlmcidljiibaaa", sum := "0c2d05b0eb6752335a4161992db3bbc46718bd002fd6077f75ae8fc5ddc95fe9", func := "roquet/roquetlaw02.LawnWays", spec := "lawnWays", unfollowed := true, recurses := true, apart := false }
def LawnWaysSaid : Prop := lawnWaysRow.holds Try.pinned (OpenSpec.ofChange lawnWaysSpec)

/-- ITS FALSE NEIGHBOUR: 'it returns false'. Refute it at one input. -/
def lawnWaysWrong : ChangeSpec := { name := "lawnWays", fn := fun _ => fun
  | [d1, d2, d3, d4, d5, d6, d7] => { results := [.lit (.bool false)], args := [d1, d2, d3, d4, d5, d6, d7] }
  | _ => none }
def LawnWaysWrongFalsely : Prop := lawnWaysRow.holds Try.pinned (OpenSpec.ofChange lawnWaysWrong)

/-- 'roquetlaw02.LawnHoops': WHATEVER THE INPUT: true; the input reads as it did. -/
def lawnHoopsSpec : ChangeSpec := { name := "lawnHoops", fn := fun _ => fun
  | [d1, d2, d3, d4, d5] => { results := [.lit (.bool true)], args := [d1, d2, d3, d4, d5] }
  | _ => none }
def lawnHoopsRow : OpenClaim := { program := "ytmlmcidljiibaaa", sum := "0c2d05b0eb6752335a4161992db3bbc46718bd002fd6077f75ae8fc5ddc95fe9", func := "roquet/roquetlaw02.LawnHoops", spec := "lawnHoops", unfollowed := true, recurses := true, apart := false }
def LawnHoopsSaid : Prop := lawnHoopsRow.holds Try.pinned (OpenSpec.ofChange lawnHoopsSpec)

/-- ITS FALSE NEIGHBOUR: 'it returns false'. Refute it at one input. -/
def lawnHoopsWrong : ChangeSpec := { name := "lawnHoops", fn := fun _ => fun
  | [d1, d2, d3, d4, d5] => { results := [.lit (.bool false)], args := [d1, d2, d3, d4, d5] }
  | _ => none }
def LawnHoopsWrongFalsely : Prop := lawnHoopsRow.holds Try.pinned (OpenSpec.ofChange lawnHoopsWrong)

/-- 'roquetlaw02.LawnTouches': WHATEVER THE INPUT: true; the input reads as it did. -/
def lawnTouchesSpec : ChangeSpec := { name := "lawnTouches", fn := fun _ => fun
  | [d1, d2, d3, d4, d5] => { results := [.lit (.bool true)], args := [d1, d2, d3, d4, d5] }
  | _ => none }
def lawnTouchesRow : OpenClaim := { program := "ytmlmcidljiibaaa", sum := "0c2d05b0eb6752335a4161992db3bbc46718bd002fd6077f75ae8fc5ddc95fe9", func := "roquet/roquetlaw02.LawnTouches", spec := "lawnTouches", unfollowed := true, recurses := true, apart := false }
def LawnTouchesSaid : Prop := lawnTouchesRow.holds Try.pinned (OpenSpec.ofChange lawnTouchesSpec)

/-- ITS FALSE NEIGHBOUR: 'it returns false'. Refute it at one input. -/
def lawnTouchesWrong : ChangeSpec := { name := "lawnTouches", fn := fun _ => fun
  | [d1, d2, d3, d4, d5] => { results := [.lit (.bool false)], args := [d1, d2, d3, d4, d5] }
  | _ => none }
def LawnTouchesWrongFalsely : Prop := lawnTouchesRow.holds Try.pinned (OpenSpec.ofChange lawnTouchesWrong)

/-- 'roquetlaw02.LawnGaps': WHATEVER THE INPUT: true; the input reads as it did. -/
def lawnGapsSpec : ChangeSpec := { name := "lawnGaps", fn := fun _ => fun
  | [d1, d2, d3, d4, d5, d6, d7] => { results := [.lit (.bool true)], args := [d1, d2, d3, d4, d5, d6, d7] }
  | _ => none }
def lawnGapsRow : OpenClaim := { program := "ytmlmcidljiibaaa", sum := "0c2d05b0eb6752335a4161992db3bbc46718bd002fd6077f75ae8fc5ddc95fe9", func := "roquet/roquetlaw02.LawnGaps", spec := "lawnGaps", unfollowed := true, recurses := true, apart := false }
def LawnGapsSaid : Prop := lawnGapsRow.holds Try.pinned (OpenSpec.ofChange lawnGapsSpec)

/-- ITS FALSE NEIGHBOUR: 'it returns false'. Refute it at one input. -/
def lawnGapsWrong : ChangeSpec := { name := "lawnGaps", fn := fun _ => fun
  | [d1, d2, d3, d4, d5, d6, d7] => { results := [.lit (.bool false)], args := [d1, d2, d3, d4, d5, d6, d7] }
  | _ => none }
def LawnGapsWrongFalsely : Prop := lawnGapsRow.holds Try.pinned (OpenSpec.ofChange lawnGapsWrong)

/-- 'roquetlaw02.LawnFree': WHATEVER THE INPUT: true; the input reads as it did. -/
def lawnFreeSpec : ChangeSpec := { name := "lawnFree", fn := fun _ => fun
  | [d1, d2, d3, d4, d5] => { results := [.lit (.bool true)], args := [d1, d2, d3, d4, d5] }
  | _ => none }
def lawnFreeRow : OpenClaim := { program := "ytmlmcidljiibaaa", sum := "0c2d05b0eb6752335a4161992db3bbc46718bd002fd6077f75ae8fc5ddc95fe9", func := "roquet/roquetlaw02.LawnFree", spec := "lawnFree", unfollowed := true, recurses := true, apart := false }
def LawnFreeSaid : Prop := lawnFreeRow.holds Try.pinned (OpenSpec.ofChange lawnFreeSpec)

/-- ITS FALSE NEIGHBOUR: 'it returns false'. Refute it at one input. -/
def lawnFreeWrong : ChangeSpec := { name := "lawnFree", fn := fun _ => fun
  | [d1, d2, d3, d4, d5] => { results := [.lit (.bool false)], args := [d1, d2, d3, d4, d5] }
  | _ => none }
def LawnFreeWrongFalsely : Prop := lawnFreeRow.holds Try.pinned (OpenSpec.ofChange lawnFreeWrong)

/-- 'roquetlaw02.LawnLine': WHATEVER THE INPUT: true; the input reads as it did. -/
def lawnLineSpec : ChangeSpec := { name := "lawnLine", fn := fun _ => fun
  | [d1, d2, d3, d4] => { results := [.lit (.bool true)], args := [d1, d2, d3, d4] }
  | _ => none }
def lawnLineRow : OpenClaim := { program := "ytmlmcidljiibaaa", sum := "0c2d05b0eb6752335a4161992db3bbc46718bd002fd6077f75ae8fc5ddc95fe9", func := "roquet/roquetlaw02.LawnLine", spec := "lawnLine", unfollowed := true, recurses := true, apart := false }
def LawnLineSaid : Prop := lawnLineRow.holds Try.pinned (OpenSpec.ofChange lawnLineSpec)

/-- ITS FALSE NEIGHBOUR: 'it returns false'. Refute it at one input. -/
def lawnLineWrong : ChangeSpec := { name := "lawnLine", fn := fun _ => fun
  | [d1, d2, d3, d4] => { results := [.lit (.bool false)], args := [d1, d2, d3, d4] }
  | _ => none }
def LawnLineWrongFalsely : Prop := lawnLineRow.holds Try.pinned (OpenSpec.ofChange lawnLineWrong)

/-- 'roquetlaw02.LawnPlaces': WHATEVER THE INPUT: true; the input reads as it did. -/
def lawnPlacesSpec : ChangeSpec := { name := "lawnPlaces", fn := fun _ => fun
  | [d1, d2, d3] => { results := [.lit (.bool true)], args := [d1, d2, d3] }
  | _ => none }
def lawnPlacesRow : OpenClaim := { program := "ytmlmcidljiibaaa", sum := "0c2d05b0eb6752335a4161992db3bbc46718bd002fd6077f75ae8fc5ddc95fe9", func := "roquet/roquetlaw02.LawnPlaces", spec := "lawnPlaces", unfollowed := true, recurses := true, apart := false }
def LawnPlacesSaid : Prop := lawnPlacesRow.holds Try.pinned (OpenSpec.ofChange lawnPlacesSpec)

/-- ITS FALSE NEIGHBOUR: 'it returns false'. Refute it at one input. -/
def lawnPlacesWrong : ChangeSpec := { name := "lawnPlaces", fn := fun _ => fun
  | [d1, d2, d3] => { results := [.lit (.bool false)], args := [d1, d2, d3] }
  | _ => none }
def LawnPlacesWrongFalsely : Prop := lawnPlacesRow.holds Try.pinned (OpenSpec.ofChange lawnPlacesWrong)

/- THE SECOND FORM. 'bulk': how many values and letters a reading holds, each counted each time it is reached (what is shared counts as often as it is met; a slice's spare places count too). A statement '..UptoSaid' is the law's where the arguments, and the package variables that the reading takes, are together of bulk at most 1048576: NARROWER than '..Said'. Prove '..Said' where nothing that the law and all that it calls make is longer than what came in: it says more and counts as full. Else prove '..UptoSaid'. A law counts once. -/
mutual
def uptoBulk {H : Type} : DataW H → Nat
  | .lit (.string bytes) => bytes.length + 1
  | .lit _ => 1
  | .nil => 1
  | .ptr d => uptoBulk d + 1
  | .slice elems spare => uptoBulkAll elems + uptoBulkAll spare + 1
  | .agg parts => uptoBulkAll parts + 1
  | .iface _ d => uptoBulk d + 1
  | .map entries => uptoBulkEntries entries + 1
  | .held _ => 1
def uptoBulkAll {H : Type} : List (DataW H) → Nat
  | [] => 0
  | d :: r => uptoBulk d + uptoBulkAll r
def uptoBulkEntries {H : Type} : List (Lit × DataW H) → Nat
  | [] => 0
  | x :: r => uptoBulkEntry x + uptoBulkEntries r
def uptoBulkEntry {H : Type} : Lit × DataW H → Nat
  | (.string bytes, d) => bytes.length + uptoBulk d + 1
  | (_, d) => uptoBulk d + 1
 end
def uptoSmall : (H : Type) → List (DataW H) → Bool := fun _ ds => decide (uptoBulkAll ds ≤ 1048576)
def OpenSpec.upto (s : _root_.Go.ChangeSpec) : _root_.Go.OpenSpec := { _root_.Go.OpenSpec.ofChange s with cond := some uptoSmall }

/-- 'roquetlaw02.LawnPuts', WHERE WHAT IT READS IS OF BULK AT MOST 1048576: true; the input reads as it did. -/
def lawnPutsUptoRow : OpenClaim := { program := "ytmlmcidljiibaaa", sum := "0c2d05b0eb6752335a4161992db3bbc46718bd002fd6077f75ae8fc5ddc95fe9", func := "roquet/roquetlaw02.LawnPuts", spec := "lawnPuts", unfollowed := true, recurses := true, apart := false, narrowed := true }
def LawnPutsUptoSaid : Prop := lawnPutsUptoRow.holds Try.pinned (OpenSpec.upto lawnPutsSpec)

/-- 'roquetlaw02.LawnMirrored', WHERE WHAT IT READS IS OF BULK AT MOST 1048576: true; the input reads as it did. -/
def lawnMirroredUptoRow : OpenClaim := { program := "ytmlmcidljiibaaa", sum := "0c2d05b0eb6752335a4161992db3bbc46718bd002fd6077f75ae8fc5ddc95fe9", func := "roquet/roquetlaw02.LawnMirrored", spec := "lawnMirrored", unfollowed := true, recurses := true, apart := false, narrowed := true }
def LawnMirroredUptoSaid : Prop := lawnMirroredUptoRow.holds Try.pinned (OpenSpec.upto lawnMirroredSpec)

/-- 'roquetlaw02.LawnWays', WHERE WHAT IT READS IS OF BULK AT MOST 1048576: true; the input reads as it did. -/
def lawnWaysUptoRow : OpenClaim := { program := "ytmlmcidljiibaaa", sum := "0c2d05b0eb6752335a4161992db3bbc46718bd002fd6077f75ae8fc5ddc95fe9", func := "roquet/roquetlaw02.LawnWays", spec := "lawnWays", unfollowed := true, recurses := true, apart := false, narrowed := true }
def LawnWaysUptoSaid : Prop := lawnWaysUptoRow.holds Try.pinned (OpenSpec.upto lawnWaysSpec)

/-- 'roquetlaw02.LawnHoops', WHERE WHAT IT READS IS OF BULK AT MOST 1048576: true; the input reads as it did. -/
def lawnHoopsUptoRow : OpenClaim := { program := "ytmlmcidljiibaaa", sum := "0c2d05b0eb6752335a4161992db3bbc46718bd002fd6077f75ae8fc5ddc95fe9", func := "roquet/roquetlaw02.LawnHoops", spec := "lawnHoops", unfollowed := true, recurses := true, apart := false, narrowed := true }
def LawnHoopsUptoSaid : Prop := lawnHoopsUptoRow.holds Try.pinned (OpenSpec.upto lawnHoopsSpec)

/-- 'roquetlaw02.LawnTouches', WHERE WHAT IT READS IS OF BULK AT MOST 1048576: true; the input reads as it did. -/
def lawnTouchesUptoRow : OpenClaim := { program := "ytmlmcidljiibaaa", sum := "0c2d05b0eb6752335a4161992db3bbc46718bd002fd6077f75ae8fc5ddc95fe9", func := "roquet/roquetlaw02.LawnTouches", spec := "lawnTouches", unfollowed := true, recurses := true, apart := false, narrowed := true }
def LawnTouchesUptoSaid : Prop := lawnTouchesUptoRow.holds Try.pinned (OpenSpec.upto lawnTouchesSpec)

/-- 'roquetlaw02.LawnGaps', WHERE WHAT IT READS IS OF BULK AT MOST 1048576: true; the input reads as it did. -/
def lawnGapsUptoRow : OpenClaim := { program := "ytmlmcidljiibaaa", sum := "0c2d05b0eb6752335a4161992db3bbc46718bd002fd6077f75ae8fc5ddc95fe9", func := "roquet/roquetlaw02.LawnGaps", spec := "lawnGaps", unfollowed := true, recurses := true, apart := false, narrowed := true }
def LawnGapsUptoSaid : Prop := lawnGapsUptoRow.holds Try.pinned (OpenSpec.upto lawnGapsSpec)

/-- 'roquetlaw02.LawnFree', WHERE WHAT IT READS IS OF BULK AT MOST 1048576: true; the input reads as it did. -/
def lawnFreeUptoRow : OpenClaim := { program := "ytmlmcidljiibaaa", sum := "0c2d05b0eb6752335a4161992db3bbc46718bd002fd6077f75ae8fc5ddc95fe9", func := "roquet/roquetlaw02.LawnFree", spec := "lawnFree", unfollowed := true, recurses := true, apart := false, narrowed := true }
def LawnFreeUptoSaid : Prop := lawnFreeUptoRow.holds Try.pinned (OpenSpec.upto lawnFreeSpec)

/-- 'roquetlaw02.LawnLine', WHERE WHAT IT READS IS OF BULK AT MOST 1048576: true; the input reads as it did. -/
def lawnLineUptoRow : OpenClaim := { program := "ytmlmcidljiibaaa", sum := "0c2d05b0eb6752335a4161992db3bbc46718bd002fd6077f75ae8fc5ddc95fe9", func := "roquet/roquetlaw02.LawnLine", spec := "lawnLine", unfollowed := true, recurses := true, apart := false, narrowed := true }
def LawnLineUptoSaid : Prop := lawnLineUptoRow.holds Try.pinned (OpenSpec.upto lawnLineSpec)

/-- 'roquetlaw02.LawnPlaces', WHERE WHAT IT READS IS OF BULK AT MOST 1048576: true; the input reads as it did. -/
def lawnPlacesUptoRow : OpenClaim := { program := "ytmlmcidljiibaaa", sum := "0c2d05b0eb6752335a4161992db3bbc46718bd002fd6077f75ae8fc5ddc95fe9", func := "roquet/roquetlaw02.LawnPlaces", spec := "lawnPlaces", unfollowed := true, recurses := true, apart := false, narrowed := true }
def LawnPlacesUptoSaid : Prop := lawnPlacesUptoRow.holds Try.pinned (OpenSpec.upto lawnPlacesSpec)

end Rows
end Go.Proofs.Ytmlmcidljiibaaa
