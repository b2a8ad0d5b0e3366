/-
  No cell of these rows narrows 'for every input' (looked for: loops, veiled, ifaces, maps, wideKeys, modest, calm, conditions, laid).
  DERIVED. THE GIVEN ROWS OF THIS SEAT. 12 by the template 'for every input the law returns true; each argument reads behind the call as it read before'; 0 by the template 'total and deterministic' (their statements: YtikbgnmcfncnaaaTotals.lean).
  GIVEN WITH THE SEED: the statements are not yours to turn. If you find one false, say at which input.
  Laid BY PROGRAM, IN A SANDBOX (cutbox-rows.mjs): the forced cells as the released guide's own fill.sh prints them over the translation 11171d253ca1af37… (all of the seat's roots in one cut). By AI agents, Wed Nov 11 2026. No macro, syntax, notation, axiom, sorry.
-/
import Derived.Test.YtikbgnmcfncnaaaChecked
import GoSem.Claim
import GoSem.ClaimJoined
import GoSem.ClaimMapViews
import Derived.JoinedTies
import Derived.KernelRfl
namespace Go.Proofs.Ytikbgnmcfncnaaa
/- THE CELL 'sum', in the pinned program and in every row, IS THE sha256 OF THE DUMP (.gsa) THAT YtikbgnmcfncnaaaProg.lean LOADS. Nothing in Lean hashes anything: it is a label: what it is worth is what the hold of that sum in a sandbox is worth. -/
noncomputable def Try.pinned : Pinned := { name := "ytikbgnmcfncnaaa", sum := "11171d253ca1af37cc2b27fb7b78368250bf4ba51f546d374d4d640ff27acb84", checked := Try.checked }
namespace Rows
def none {H : Type} : Left H := { results := [], args := [] }

/-- 'roquetlaw10.IndexKept': WHATEVER THE INPUT: true; the input reads as it did. -/
def indexKeptSpec : ChangeSpec := { name := "indexKept", fn := fun _ => fun
  | [d1, d2, d3, d4] => { results := [.lit (.bool true)], args := [d1, d2, d3, d4] }
  | _ => none }
def indexKeptRow : OpenClaim := { program := "ytikbgnmcfncnaaa", sum := "11171d253ca1af37cc2b27fb7b78368250bf4ba51f546d374d4d640ff27acb84", func := "roquet/roquetlaw10.IndexKept", spec := "indexKept", inPlace := ["internal/bytealg.abigen_runtime_cmpstring"], unfollowed := true, recurses := true, plainKeys := false, apart := false }
def IndexKeptSaid : Prop := indexKeptRow.holds Try.pinned (OpenSpec.ofChange indexKeptSpec)

/-- ITS FALSE NEIGHBOUR: 'it returns false'. Refute it at one input. -/
def indexKeptWrong : ChangeSpec := { name := "indexKept", fn := fun _ => fun
  | [d1, d2, d3, d4] => { results := [.lit (.bool false)], args := [d1, d2, d3, d4] }
  | _ => none }
def IndexKeptWrongFalsely : Prop := indexKeptRow.holds Try.pinned (OpenSpec.ofChange indexKeptWrong)

/-- 'roquetlaw10.IndexGrades': WHATEVER THE INPUT: true; the input reads as it did. -/
def indexGradesSpec : ChangeSpec := { name := "indexGrades", fn := fun _ => fun
  | [d1, d2, d3] => { results := [.lit (.bool true)], args := [d1, d2, d3] }
  | _ => none }
def indexGradesRow : OpenClaim := { program := "ytikbgnmcfncnaaa", sum := "11171d253ca1af37cc2b27fb7b78368250bf4ba51f546d374d4d640ff27acb84", func := "roquet/roquetlaw10.IndexGrades", spec := "indexGrades", inPlace := ["internal/bytealg.abigen_runtime_cmpstring"], unfollowed := true, recurses := true, plainKeys := false, apart := false }
def IndexGradesSaid : Prop := indexGradesRow.holds Try.pinned (OpenSpec.ofChange indexGradesSpec)

/-- ITS FALSE NEIGHBOUR: 'it returns false'. Refute it at one input. -/
def indexGradesWrong : ChangeSpec := { name := "indexGrades", fn := fun _ => fun
  | [d1, d2, d3] => { results := [.lit (.bool false)], args := [d1, d2, d3] }
  | _ => none }
def IndexGradesWrongFalsely : Prop := indexGradesRow.holds Try.pinned (OpenSpec.ofChange indexGradesWrong)

/-- 'roquetlaw10.IndexCorrected': WHATEVER THE INPUT: true; the input reads as it did. -/
def indexCorrectedSpec : ChangeSpec := { name := "indexCorrected", fn := fun _ => fun
  | [d1, d2, d3, d4, d5] => { results := [.lit (.bool true)], args := [d1, d2, d3, d4, d5] }
  | _ => none }
def indexCorrectedRow : OpenClaim := { program := "ytikbgnmcfncnaaa", sum := "11171d253ca1af37cc2b27fb7b78368250bf4ba51f546d374d4d640ff27acb84", func := "roquet/roquetlaw10.IndexCorrected", spec := "indexCorrected", inPlace := ["internal/bytealg.abigen_runtime_cmpstring"], unfollowed := true, recurses := true, plainKeys := false, apart := false }
def IndexCorrectedSaid : Prop := indexCorrectedRow.holds Try.pinned (OpenSpec.ofChange indexCorrectedSpec)

/-- ITS FALSE NEIGHBOUR: 'it returns false'. Refute it at one input. -/
def indexCorrectedWrong : ChangeSpec := { name := "indexCorrected", fn := fun _ => fun
  | [d1, d2, d3, d4, d5] => { results := [.lit (.bool false)], args := [d1, d2, d3, d4, d5] }
  | _ => none }
def IndexCorrectedWrongFalsely : Prop := indexCorrectedRow.holds Try.pinned (OpenSpec.ofChange indexCorrectedWrong)

/-- 'roquetlaw10.IndexKnown': WHATEVER THE INPUT: true; the input reads as it did. -/
def indexKnownSpec : ChangeSpec := { name := "indexKnown", fn := fun _ => fun
  | [] => { results := [.lit (.bool true)], args := [] }
  | _ => none }
def indexKnownRow : OpenClaim := { program := "ytikbgnmcfncnaaa", sum := "11171d253ca1af37cc2b27fb7b78368250bf4ba51f546d374d4d640ff27acb84", func := "roquet/roquetlaw10.IndexKnown", spec := "indexKnown", inPlace := ["internal/bytealg.abigen_runtime_cmpstring"], unfollowed := true, recurses := true, plainKeys := false, apart := false }
def IndexKnownSaid : Prop := indexKnownRow.holds Try.pinned (OpenSpec.ofChange indexKnownSpec)

/-- ITS FALSE NEIGHBOUR: 'it returns false'. Refute it at one input. -/
def indexKnownWrong : ChangeSpec := { name := "indexKnown", fn := fun _ => fun
  | [] => { results := [.lit (.bool false)], args := [] }
  | _ => none }
def IndexKnownWrongFalsely : Prop := indexKnownRow.holds Try.pinned (OpenSpec.ofChange indexKnownWrong)

/-- 'roquetlaw10.IndexTables': WHATEVER THE INPUT: true; the input reads as it did. -/
def indexTablesSpec : ChangeSpec := { name := "indexTables", fn := fun _ => fun
  | [d1, d2, d3, d4, d5, d6, d7] => { results := [.lit (.bool true)], args := [d1, d2, d3, d4, d5, d6, d7] }
  | _ => none }
def indexTablesRow : OpenClaim := { program := "ytikbgnmcfncnaaa", sum := "11171d253ca1af37cc2b27fb7b78368250bf4ba51f546d374d4d640ff27acb84", func := "roquet/roquetlaw10.IndexTables", spec := "indexTables", inPlace := ["internal/bytealg.abigen_runtime_cmpstring"], unfollowed := true, recurses := true, plainKeys := false, apart := false }
def IndexTablesSaid : Prop := indexTablesRow.holds Try.pinned (OpenSpec.ofChange indexTablesSpec)

/-- ITS FALSE NEIGHBOUR: 'it returns false'. Refute it at one input. -/
def indexTablesWrong : ChangeSpec := { name := "indexTables", fn := fun _ => fun
  | [d1, d2, d3, d4, d5, d6, d7] => { results := [.lit (.bool false)], args := [d1, d2, d3, d4, d5, d6, d7] }
  | _ => none }
def IndexTablesWrongFalsely : Prop := indexTablesRow.holds Try.pinned (OpenSpec.ofChange indexTablesWrong)

/-- 'roquetlaw10.IndexPlaced': WHATEVER THE INPUT: true; the input reads as it did. -/
def indexPlacedSpec : ChangeSpec := { name := "indexPlaced", fn := fun _ => fun
  | [d1, d2, d3, d4, d5, d6] => { results := [.lit (.bool true)], args := [d1, d2, d3, d4, d5, d6] }
  | _ => none }
def indexPlacedRow : OpenClaim := { program := "ytikbgnmcfncnaaa", sum := "11171d253ca1af37cc2b27fb7b78368250bf4ba51f546d374d4d640ff27acb84", func := "roquet/roquetlaw10.IndexPlaced", spec := "indexPlaced", inPlace := ["internal/bytealg.abigen_runtime_cmpstring"], unfollowed := true, recurses := true, plainKeys := false, apart := false }
def IndexPlacedSaid : Prop := indexPlacedRow.holds Try.pinned (OpenSpec.ofChange indexPlacedSpec)

/-- ITS FALSE NEIGHBOUR: 'it returns false'. Refute it at one input. -/
def indexPlacedWrong : ChangeSpec := { name := "indexPlaced", fn := fun _ => fun
  | [d1, d2, d3, d4, d5, d6] => { results := [.lit (.bool false)], args := [d1, d2, d3, d4, d5, d6] }
  | _ => none }
def IndexPlacedWrongFalsely : Prop := indexPlacedRow.holds Try.pinned (OpenSpec.ofChange indexPlacedWrong)

/-- 'roquetlaw10.IndexSettles': WHATEVER THE INPUT: true; the input reads as it did. -/
def indexSettlesSpec : ChangeSpec := { name := "indexSettles", fn := fun _ => fun
  | [d1, d2, d3] => { results := [.lit (.bool true)], args := [d1, d2, d3] }
  | _ => none }
def indexSettlesRow : OpenClaim := { program := "ytikbgnmcfncnaaa", sum := "11171d253ca1af37cc2b27fb7b78368250bf4ba51f546d374d4d640ff27acb84", func := "roquet/roquetlaw10.IndexSettles", spec := "indexSettles", inPlace := ["internal/bytealg.abigen_runtime_cmpstring"], unfollowed := true, recurses := true, plainKeys := false, apart := false }
def IndexSettlesSaid : Prop := indexSettlesRow.holds Try.pinned (OpenSpec.ofChange indexSettlesSpec)

/-- ITS FALSE NEIGHBOUR: 'it returns false'. Refute it at one input. -/
def indexSettlesWrong : ChangeSpec := { name := "indexSettles", fn := fun _ => fun
  | [d1, d2, d3] => { results := [.lit (.bool false)], args := [d1, d2, d3] }
  | _ => none }
def IndexSettlesWrongFalsely : Prop := indexSettlesRow.holds Try.pinned (OpenSpec.ofChange indexSettlesWrong)

/-- 'roquetlaw10.IndexHistory': WHATEVER THE INPUT: true; the input reads as it did. -/
def indexHistorySpec : ChangeSpec := { name := "indexHistory", fn := fun _ => fun
  | [d1, d2, d3] => { results := [.lit (.bool true)], args := [d1, d2, d3] }
  | _ => none }
def indexHistoryRow : OpenClaim := { program := "ytikbgnmcfncnaaa", sum := "11171d253ca1af37cc2b27fb7b78368250bf4ba51f546d374d4d640ff27acb84", func := "roquet/roquetlaw10.IndexHistory", spec := "indexHistory", inPlace := ["internal/bytealg.abigen_runtime_cmpstring"], unfollowed := true, recurses := true, plainKeys := false, apart := false }
def IndexHistorySaid : Prop := indexHistoryRow.holds Try.pinned (OpenSpec.ofChange indexHistorySpec)

/-- ITS FALSE NEIGHBOUR: 'it returns false'. Refute it at one input. -/
def indexHistoryWrong : ChangeSpec := { name := "indexHistory", fn := fun _ => fun
  | [d1, d2, d3] => { results := [.lit (.bool false)], args := [d1, d2, d3] }
  | _ => none }
def IndexHistoryWrongFalsely : Prop := indexHistoryRow.holds Try.pinned (OpenSpec.ofChange indexHistoryWrong)

/-- 'roquetlaw10.IndexBooks': WHATEVER THE INPUT: true; the input reads as it did. -/
def indexBooksSpec : ChangeSpec := { name := "indexBooks", fn := fun _ => fun
  | [d1, d2] => { results := [.lit (.bool true)], args := [d1, d2] }
  | _ => none }
def indexBooksRow : OpenClaim := { program := "ytikbgnmcfncnaaa", sum := "11171d253ca1af37cc2b27fb7b78368250bf4ba51f546d374d4d640ff27acb84", func := "roquet/roquetlaw10.IndexBooks", spec := "indexBooks", inPlace := ["internal/bytealg.abigen_runtime_cmpstring"], unfollowed := true, recurses := true, plainKeys := false, apart := false }
def IndexBooksSaid : Prop := indexBooksRow.holds Try.pinned (OpenSpec.ofChange indexBooksSpec)

/-- ITS FALSE NEIGHBOUR: 'it returns false'. Refute it at one input. -/
def indexBooksWrong : ChangeSpec := { name := "indexBooks", fn := fun _ => fun
  | [d1, d2] => { results := [.lit (.bool false)], args := [d1, d2] }
  | _ => none }
def IndexBooksWrongFalsely : Prop := indexBooksRow.holds Try.pinned (OpenSpec.ofChange indexBooksWrong)

/-- 'roquetlaw10.IndexCounts': WHATEVER THE INPUT: true; the input reads as it did. -/
def indexCountsSpec : ChangeSpec := { name := "indexCounts", fn := fun _ => fun
  | [d1, d2, d3, d4, d5, d6, d7] => { results := [.lit (.bool true)], args := [d1, d2, d3, d4, d5, d6, d7] }
  | _ => none }
def indexCountsRow : OpenClaim := { program := "ytikbgnmcfncnaaa", sum := "11171d253ca1af37cc2b27fb7b78368250bf4ba51f546d374d4d640ff27acb84", func := "roquet/roquetlaw10.IndexCounts", spec := "indexCounts", inPlace := ["internal/bytealg.abigen_runtime_cmpstring"], unfollowed := true, recurses := true, plainKeys := false, apart := false }
def IndexCountsSaid : Prop := indexCountsRow.holds Try.pinned (OpenSpec.ofChange indexCountsSpec)

/-- ITS FALSE NEIGHBOUR: 'it returns false'. Refute it at one input. -/
def indexCountsWrong : ChangeSpec := { name := "indexCounts", fn := fun _ => fun
  | [d1, d2, d3, d4, d5, d6, d7] => { results := [.lit (.bool false)], args := [d1, d2, d3, d4, d5, d6, d7] }
  | _ => none }
def IndexCountsWrongFalsely : Prop := indexCountsRow.holds Try.pinned (OpenSpec.ofChange indexCountsWrong)

/-- 'roquetlaw10.IndexOrder': WHATEVER THE INPUT: true; the input reads as it did. -/
def indexOrderSpec : ChangeSpec := { name := "indexOrder", fn := fun _ => fun
  | [d1, d2, d3, d4, d5, d6] => { results := [.lit (.bool true)], args := [d1, d2, d3, d4, d5, d6] }
  | _ => none }
def indexOrderRow : OpenClaim := { program := "ytikbgnmcfncnaaa", sum := "11171d253ca1af37cc2b27fb7b78368250bf4ba51f546d374d4d640ff27acb84", func := "roquet/roquetlaw10.IndexOrder", spec := "indexOrder", inPlace := ["internal/bytealg.abigen_runtime_cmpstring"], unfollowed := true, recurses := true, plainKeys := false, apart := false }
def IndexOrderSaid : Prop := indexOrderRow.holds Try.pinned (OpenSpec.ofChange indexOrderSpec)

/-- ITS FALSE NEIGHBOUR: 'it returns false'. Refute it at one input. -/
def indexOrderWrong : ChangeSpec := { name := "indexOrder", fn := fun _ => fun
  | [d1, d2, d3, d4, d5, d6] => { results := [.lit (.bool false)], args := [d1, d2, d3, d4, d5, d6] }
  | _ => none }
def IndexOrderWrongFalsely : Prop := indexOrderRow.holds Try.pinned (OpenSpec.ofChange indexOrderWrong)

/-- 'roquetlaw10.IndexBegins': WHATEVER THE INPUT: true; the input reads as it did. -/
def indexBeginsSpec : ChangeSpec := { name := "indexBegins", fn := fun _ => fun
  | [d1, d2, d3] => { results := [.lit (.bool true)], args := [d1, d2, d3] }
  | _ => none }
def indexBeginsRow : OpenClaim := { program := "ytikbgnmcfncnaaa", sum := "11171d253ca1af37cc2b27fb7b78368250bf4ba51f546d374d4d640ff27acb84", func := "roquet/roquetlaw10.IndexBegins", spec := "indexBegins", inPlace := ["internal/bytealg.abigen_runtime_cmpstring"], unfollowed := true, recurses := true, plainKeys := false, apart := false }
def IndexBeginsSaid : Prop := indexBeginsRow.holds Try.pinned (OpenSpec.ofChange indexBeginsSpec)

/-- ITS FALSE NEIGHBOUR: 'it returns false'. Refute it at one input. -/
def indexBeginsWrong : ChangeSpec := { name := "indexBegins", fn := fun _ => fun
  | [d1, d2, d3] => { results := [.lit (.bool false)], args := [d1, d2, d3] }
  | _ => none }
def IndexBeginsWrongFalsely : Prop := indexBeginsRow.holds Try.pinned (OpenSpec.ofChange indexBeginsWrong)

/- THE SECOND FORM. 'bulk': how many values and letters a reading holds, each counted each time it is reached (what is shared counts as often as it is met; a slice's spare places count too). A statement '..UptoSaid' is the law's where the arguments, and the package variables that the reading takes, are together of bulk at most 1048576: NARROWER than '..Said'. Prove '..Said' where nothing that the law and all that it calls make is longer than what came in: it says more and counts as full. Else prove '..UptoSaid'. A law counts once. -/
mutual
def uptoBulk {H : Type} : DataW H → Nat
  | .lit (.string bytes) => bytes.length + 1
  | .lit _ => 1
  | .nil => 1
  | .ptr d => uptoBulk d + 1
  | .slice elems spare => uptoBulkAll elems + uptoBulkAll spare + 1
  | .agg parts => uptoBulkAll parts + 1
  | .iface _ d => uptoBulk d + 1
  | .map entries => uptoBulkEntries entries + 1
  | .held _ => 1
def uptoBulkAll {H : Type} : List (DataW H) → Nat
  | [] => 0
  | d :: r => uptoBulk d + uptoBulkAll r
def uptoBulkEntries {H : Type} : List (Lit × DataW H) → Nat
  | [] => 0
  | x :: r => uptoBulkEntry x + uptoBulkEntries r
def uptoBulkEntry {H : Type} : Lit × DataW H → Nat
  | (.string bytes, d) => bytes.length + uptoBulk d + 1
  | (_, d) => uptoBulk d + 1
 end
def uptoSmall : (H : Type) → List (DataW H) → Bool := fun _ ds => decide (uptoBulkAll ds ≤ 1048576)
def OpenSpec.upto (s : _root_.Go.ChangeSpec) : _root_.Go.OpenSpec := { _root_.Go.OpenSpec.ofChange s with cond := some uptoSmall }

/-- 'roquetlaw10.IndexKept', WHERE WHAT IT READS IS OF BULK AT MOST 1048576: true; the input reads as it did. -/
def indexKeptUptoRow : OpenClaim := { program := "ytikbgnmcfncnaaa", sum := "11171d253ca1af37cc2b27fb7b78368250bf4ba51f546d374d4d640ff27acb84", func := "roquet/roquetlaw10.IndexKept", spec := "indexKept", inPlace := ["internal/bytealg.abigen_runtime_cmpstring"], unfollowed := true, recurses := true, plainKeys := false, apart := false, narrowed := true }
def IndexKeptUptoSaid : Prop := indexKeptUptoRow.holds Try.pinned (OpenSpec.upto indexKeptSpec)

/-- 'roquetlaw10.IndexGrades', WHERE WHAT IT READS IS OF BULK AT MOST 1048576: true; the input reads as it did. -/
def indexGradesUptoRow : OpenClaim := { program := "ytikbgnmcfncnaaa", sum := "11171d253ca1af37cc2b27fb7b78368250bf4ba51f546d374d4d640ff27acb84", func := "roquet/roquetlaw10.IndexGrades", spec := "indexGrades", inPlace := ["internal/bytealg.abigen_runtime_cmpstring"], unfollowed := true, recurses := true, plainKeys := false, apart := false, narrowed := true }
def IndexGradesUptoSaid : Prop := indexGradesUptoRow.holds Try.pinned (OpenSpec.upto indexGradesSpec)

/-- 'roquetlaw10.IndexCorrected', WHERE WHAT IT READS IS OF BULK AT MOST 1048576: true; the input reads as it did. -/
def indexCorrectedUptoRow : OpenClaim := { program := "ytikbgnmcfncnaaa", sum := "11171d253ca1af37cc2b27fb7b78368250bf4ba51f546d374d4d640ff27acb84", func := "roquet/roquetlaw10.IndexCorrected", spec := "indexCorrected", inPlace := ["internal/bytealg.abigen_runtime_cmpstring"], unfollowed := true, recurses := true, plainKeys := false, apart := false, narrowed := true }
def IndexCorrectedUptoSaid : Prop := indexCorrectedUptoRow.holds Try.pinned (OpenSpec.upto indexCorrectedSpec)

/-- 'roquetlaw10.IndexKnown', WHERE WHAT IT READS IS OF BULK AT MOST 1048576: true; the input reads as it did. -/
def indexKnownUptoRow : OpenClaim := { program := "ytikbgnmcfncnaaa", sum := "11171d253ca1af37cc2b27fb7b78368250bf4ba51f546d374d4d640ff27acb84", func := "roquet/roquetlaw10.IndexKnown", spec := "indexKnown", inPlace := ["internal/bytealg.abigen_runtime_cmpstring"], unfollowed := true, recurses := true, plainKeys := false, apart := false, narrowed := true }
def IndexKnownUptoSaid : Prop := indexKnownUptoRow.holds Try.pinned (OpenSpec.upto indexKnownSpec)

/-- 'roquetlaw10.IndexTables', WHERE WHAT IT READS IS OF BULK AT MOST 1048576: true; the input reads as it did. -/
def indexTablesUptoRow : OpenClaim := { program := "ytikbgnmcfncnaaa", sum := "11171d253ca1af37cc2b27fb7b78368250bf4ba51f546d374d4d640ff27acb84", func := "roquet/roquetlaw10.IndexTables", spec := "indexTables", inPlace := ["internal/bytealg.abigen_runtime_cmpstring"], unfollowed := true, recurses := true, plainKeys := false, apart := false, narrowed := true }
def IndexTablesUptoSaid : Prop := indexTablesUptoRow.holds Try.pinned (OpenSpec.upto indexTablesSpec)

/-- 'roquetlaw10.IndexPlaced', WHERE WHAT IT READS IS OF BULK AT MOST 1048576: true; the input reads as it did. -/
def indexPlacedUptoRow : OpenClaim := { program := "ytikbgnmcfncnaaa", sum := "11171d253ca1af37cc2b27fb7b78368250bf4ba51f546d374d4d640ff27acb84", func := "roquet/roquetlaw10.IndexPlaced", spec := "indexPlaced", inPlace := ["internal/bytealg.abigen_runtime_cmpstring"], unfollowed := true, recurses := true, plainKeys := false, apart := false, narrowed := true }
def IndexPlacedUptoSaid : Prop := indexPlacedUptoRow.holds Try.pinned (OpenSpec.upto indexPlacedSpec)

/-- 'roquetlaw10.IndexSettles', WHERE WHAT IT READS IS OF BULK AT MOST 1048576: true; the input reads as it did. -/
def indexSettlesUptoRow : OpenClaim := { program := "ytikbgnmcfncnaaa", sum := "11171d253ca1af37cc2b27fb7b78368250bf4ba51f546d374d4d640ff27acb84", func := "roquet/roquetlaw10.IndexSettles", spec := "indexSettles", inPlace := ["internal/bytealg.abigen_runtime_cmpstring"], unfollowed := true, recurses := true, plainKeys := false, apart := false, narrowed := true }
def IndexSettlesUptoSaid : Prop := indexSettlesUptoRow.holds Try.pinned (OpenSpec.upto indexSettlesSpec)

/-- 'roquetlaw10.IndexHistory', WHERE WHAT IT READS IS OF BULK AT MOST 1048576: true; the input reads as it did. -/
def indexHistoryUptoRow : OpenClaim := { program := "ytikbgnmcfncnaaa", sum := "11171d253ca1af37cc2b27fb7b78368250bf4ba51f546d374d4d640ff27acb84", func := "roquet/roquetlaw10.IndexHistory", spec := "indexHistory", inPlace := ["internal/bytealg.abigen_runtime_cmpstring"], unfollowed := true, recurses := true, plainKeys := false, apart := false, narrowed := true }
def IndexHistoryUptoSaid : Prop := indexHistoryUptoRow.holds Try.pinned (OpenSpec.upto indexHistorySpec)

/-- 'roquetlaw10.IndexBooks', WHERE WHAT IT READS IS OF BULK AT MOST 1048576: true; the input reads as it did. -/
def indexBooksUptoRow : OpenClaim := { program := "ytikbgnmcfncnaaa", sum := "11171d253ca1af37cc2b27fb7b78368250bf4ba51f546d374d4d640ff27acb84", func := "roquet/roquetlaw10.IndexBooks", spec := "indexBooks", inPlace := ["internal/bytealg.abigen_runtime_cmpstring"], unfollowed := true, recurses := true, plainKeys := false, apart := false, narrowed := true }
def IndexBooksUptoSaid : Prop := indexBooksUptoRow.holds Try.pinned (OpenSpec.upto indexBooksSpec)

/-- 'roquetlaw10.IndexCounts', WHERE WHAT IT READS IS OF BULK AT MOST 1048576: true; the input reads as it did. -/
def indexCountsUptoRow : OpenClaim := { program := "ytikbgnmcfncnaaa", sum := "11171d253ca1af37cc2b27fb7b78368250bf4ba51f546d374d4d640ff27acb84", func := "roquet/roquetlaw10.IndexCounts", spec := "indexCounts", inPlace := ["internal/bytealg.abigen_runtime_cmpstring"], unfollowed := true, recurses := true, plainKeys := false, apart := false, narrowed := true }
def IndexCountsUptoSaid : Prop := indexCountsUptoRow.holds Try.pinned (OpenSpec.upto indexCountsSpec)

/-- 'roquetlaw10.IndexOrder', WHERE WHAT IT READS IS OF BULK AT MOST 1048576: true; the input reads as it did. -/
def indexOrderUptoRow : OpenClaim := { program := "ytikbgnmcfncnaaa", sum := "11171d253ca1af37cc2b27fb7b78368250bf4ba51f546d374d4d640ff27acb84", func := "roquet/roquetlaw10.IndexOrder", spec := "indexOrder", inPlace := ["internal/bytealg.abigen_runtime_cmpstring"], unfollowed := true, recurses := true, plainKeys := false, apart := false, narrowed := true }
def IndexOrderUptoSaid : Prop := indexOrderUptoRow.holds Try.pinned (OpenSpec.upto indexOrderSpec)

/-- 'roquetlaw10.IndexBegins', WHERE WHAT IT READS IS OF BULK AT MOST 1048576: true; the input reads as it did. -/
def indexBeginsUptoRow : OpenClaim := { program := "ytikbgnmcfncnaaa", sum := "11171d253ca1af37cc2b27fb7b78368250bf4ba51f546d374d4d640ff27acb84", func := "roquet/roquetlaw10.IndexBegins", spec := "indexBegins", inPlace := ["internal/bytealg.abigen_runtime_cmpstring"], unfollowed := true, recurses := true, plainKeys := false, apart := false, narrowed := true }
def IndexBeginsUptoSaid : Prop := indexBeginsUptoRow.holds Try.pinned (OpenSpec.upto indexBeginsSpec)

end Rows
end Go.Proofs.Ytikbgnmcfncnaaa
