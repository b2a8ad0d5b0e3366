/-
  No cell of these rows narrows 'for every input' (looked for: loops, veiled, ifaces, maps, wideKeys, modest, calm, conditions, laid).
  DERIVED. THE GIVEN ROWS OF THIS SEAT. 8 by the template 'for every input the law returns true; each argument reads behind the call as it read before'; 0 by the template 'total and deterministic' (their statements: YtcinpabggaepfaaTotals.lean).
  GIVEN WITH THE SEED: the statements are not yours to turn. If you find one false, say at which input.
  Laid BY PROGRAM, IN A SANDBOX (cutbox-rows.mjs): the forced cells as the released guide's own fill.sh prints them over the translation ca39142a0273bc15… (all of the seat's roots in one cut). By AI agents, Wed Nov 11 2026. No macro, syntax, notation, axiom, sorry.
-/
import Derived.Test.YtcinpabggaepfaaChecked
import GoSem.Claim
import GoSem.ClaimJoined
import GoSem.ClaimMapViews
import Derived.JoinedTies
import Derived.KernelRfl
namespace Go.Proofs.Ytcinpabggaepfaa
/- THE CELL 'sum', in the pinned program and in every row, IS THE sha256 OF THE DUMP (.gsa) THAT YtcinpabggaepfaaProg.lean LOADS. Nothing in Lean hashes anything: it is a label: what it is worth is what the hold of that sum in a sandbox is worth. -/
noncomputable def Try.pinned : Pinned := { name := "ytcinpabggaepfaa", sum := "ca39142a0273bc15093c953610b89803241b92b4e8a6873a103e83903e5eccf8", checked := Try.checked }
namespace Rows
def none {H : Type} : Left H := { results := [], args := [] }

/-- 'roquetlaw05.GamePlays': WHATEVER THE INPUT: true; the input reads as it did. -/
def gamePlaysSpec : ChangeSpec := { name := "gamePlays", fn := fun _ => fun
  | [d1, d2] => { results := [.lit (.bool true)], args := [d1, d2] }
  | _ => none }
def gamePlaysRow : OpenClaim := { program := "ytcinpabggaepfaa", sum := "ca39142a0273bc15093c953610b89803241b92b4e8a6873a103e83903e5eccf8", func := "roquet/roquetlaw05.GamePlays", spec := "gamePlays", unfollowed := true, recurses := true, apart := false }
def GamePlaysSaid : Prop := gamePlaysRow.holds Try.pinned (OpenSpec.ofChange gamePlaysSpec)

/-- ITS FALSE NEIGHBOUR: 'it returns false'. Refute it at one input. -/
def gamePlaysWrong : ChangeSpec := { name := "gamePlays", fn := fun _ => fun
  | [d1, d2] => { results := [.lit (.bool false)], args := [d1, d2] }
  | _ => none }
def GamePlaysWrongFalsely : Prop := gamePlaysRow.holds Try.pinned (OpenSpec.ofChange gamePlaysWrong)

/-- 'roquetlaw05.GameTurns': WHATEVER THE INPUT: true; the input reads as it did. -/
def gameTurnsSpec : ChangeSpec := { name := "gameTurns", fn := fun _ => fun
  | [d1, d2] => { results := [.lit (.bool true)], args := [d1, d2] }
  | _ => none }
def gameTurnsRow : OpenClaim := { program := "ytcinpabggaepfaa", sum := "ca39142a0273bc15093c953610b89803241b92b4e8a6873a103e83903e5eccf8", func := "roquet/roquetlaw05.GameTurns", spec := "gameTurns", unfollowed := true, recurses := true, apart := false }
def GameTurnsSaid : Prop := gameTurnsRow.holds Try.pinned (OpenSpec.ofChange gameTurnsSpec)

/-- ITS FALSE NEIGHBOUR: 'it returns false'. Refute it at one input. -/
def gameTurnsWrong : ChangeSpec := { name := "gameTurns", fn := fun _ => fun
  | [d1, d2] => { results := [.lit (.bool false)], args := [d1, d2] }
  | _ => none }
def GameTurnsWrongFalsely : Prop := gameTurnsRow.holds Try.pinned (OpenSpec.ofChange gameTurnsWrong)

/-- 'roquetlaw05.GamePoints': WHATEVER THE INPUT: true; the input reads as it did. -/
def gamePointsSpec : ChangeSpec := { name := "gamePoints", fn := fun _ => fun
  | [d1, d2] => { results := [.lit (.bool true)], args := [d1, d2] }
  | _ => none }
def gamePointsRow : OpenClaim := { program := "ytcinpabggaepfaa", sum := "ca39142a0273bc15093c953610b89803241b92b4e8a6873a103e83903e5eccf8", func := "roquet/roquetlaw05.GamePoints", spec := "gamePoints", unfollowed := true, recurses := true, apart := false }
def GamePointsSaid : Prop := gamePointsRow.holds Try.pinned (OpenSpec.ofChange gamePointsSpec)

/-- ITS FALSE NEIGHBOUR: 'it returns false'. Refute it at one input. -/
def gamePointsWrong : ChangeSpec := { name := "gamePoints", fn := fun _ => fun
  | [d1, d2] => { results := [.lit (.bool false)], args := [d1, d2] }
  | _ => none }
def GamePointsWrongFalsely : Prop := gamePointsRow.holds Try.pinned (OpenSpec.ofChange gamePointsWrong)

/-- 'roquetlaw05.GameOnce': WHATEVER THE INPUT: true; the input reads as it did. -/
def gameOnceSpec : ChangeSpec := { name := "gameOnce", fn := fun _ => fun
  | [d1, d2, d3, d4] => { results := [.lit (.bool true)], args := [d1, d2, d3, d4] }
  | _ => none }
def gameOnceRow : OpenClaim := { program := "ytcinpabggaepfaa", sum := "ca39142a0273bc15093c953610b89803241b92b4e8a6873a103e83903e5eccf8", func := "roquet/roquetlaw05.GameOnce", spec := "gameOnce", unfollowed := true, recurses := true, apart := false }
def GameOnceSaid : Prop := gameOnceRow.holds Try.pinned (OpenSpec.ofChange gameOnceSpec)

/-- ITS FALSE NEIGHBOUR: 'it returns false'. Refute it at one input. -/
def gameOnceWrong : ChangeSpec := { name := "gameOnce", fn := fun _ => fun
  | [d1, d2, d3, d4] => { results := [.lit (.bool false)], args := [d1, d2, d3, d4] }
  | _ => none }
def GameOnceWrongFalsely : Prop := gameOnceRow.holds Try.pinned (OpenSpec.ofChange gameOnceWrong)

/-- 'roquetlaw05.GameAll': WHATEVER THE INPUT: true; the input reads as it did. -/
def gameAllSpec : ChangeSpec := { name := "gameAll", fn := fun _ => fun
  | [d1, d2] => { results := [.lit (.bool true)], args := [d1, d2] }
  | _ => none }
def gameAllRow : OpenClaim := { program := "ytcinpabggaepfaa", sum := "ca39142a0273bc15093c953610b89803241b92b4e8a6873a103e83903e5eccf8", func := "roquet/roquetlaw05.GameAll", spec := "gameAll", unfollowed := true, recurses := true, apart := false }
def GameAllSaid : Prop := gameAllRow.holds Try.pinned (OpenSpec.ofChange gameAllSpec)

/-- ITS FALSE NEIGHBOUR: 'it returns false'. Refute it at one input. -/
def gameAllWrong : ChangeSpec := { name := "gameAll", fn := fun _ => fun
  | [d1, d2] => { results := [.lit (.bool false)], args := [d1, d2] }
  | _ => none }
def GameAllWrongFalsely : Prop := gameAllRow.holds Try.pinned (OpenSpec.ofChange gameAllWrong)

/-- 'roquetlaw05.GameLegal': WHATEVER THE INPUT: true; the input reads as it did. -/
def gameLegalSpec : ChangeSpec := { name := "gameLegal", fn := fun _ => fun
  | [d1, d2, d3, d4] => { results := [.lit (.bool true)], args := [d1, d2, d3, d4] }
  | _ => none }
def gameLegalRow : OpenClaim := { program := "ytcinpabggaepfaa", sum := "ca39142a0273bc15093c953610b89803241b92b4e8a6873a103e83903e5eccf8", func := "roquet/roquetlaw05.GameLegal", spec := "gameLegal", unfollowed := true, recurses := true, apart := false }
def GameLegalSaid : Prop := gameLegalRow.holds Try.pinned (OpenSpec.ofChange gameLegalSpec)

/-- ITS FALSE NEIGHBOUR: 'it returns false'. Refute it at one input. -/
def gameLegalWrong : ChangeSpec := { name := "gameLegal", fn := fun _ => fun
  | [d1, d2, d3, d4] => { results := [.lit (.bool false)], args := [d1, d2, d3, d4] }
  | _ => none }
def GameLegalWrongFalsely : Prop := gameLegalRow.holds Try.pinned (OpenSpec.ofChange gameLegalWrong)

/-- 'roquetlaw05.GameTogether': WHATEVER THE INPUT: true; the input reads as it did. -/
def gameTogetherSpec : ChangeSpec := { name := "gameTogether", fn := fun _ => fun
  | [d1, d2] => { results := [.lit (.bool true)], args := [d1, d2] }
  | _ => none }
def gameTogetherRow : OpenClaim := { program := "ytcinpabggaepfaa", sum := "ca39142a0273bc15093c953610b89803241b92b4e8a6873a103e83903e5eccf8", func := "roquet/roquetlaw05.GameTogether", spec := "gameTogether", unfollowed := true, recurses := true, apart := false }
def GameTogetherSaid : Prop := gameTogetherRow.holds Try.pinned (OpenSpec.ofChange gameTogetherSpec)

/-- ITS FALSE NEIGHBOUR: 'it returns false'. Refute it at one input. -/
def gameTogetherWrong : ChangeSpec := { name := "gameTogether", fn := fun _ => fun
  | [d1, d2] => { results := [.lit (.bool false)], args := [d1, d2] }
  | _ => none }
def GameTogetherWrongFalsely : Prop := gameTogetherRow.holds Try.pinned (OpenSpec.ofChange gameTogetherWrong)

/-- 'roquetlaw05.GameRules': WHATEVER THE INPUT: true; the input reads as it did. -/
def gameRulesSpec : ChangeSpec := { name := "gameRules", fn := fun _ => fun
  | [d1, d2, d3] => { results := [.lit (.bool true)], args := [d1, d2, d3] }
  | _ => none }
def gameRulesRow : OpenClaim := { program := "ytcinpabggaepfaa", sum := "ca39142a0273bc15093c953610b89803241b92b4e8a6873a103e83903e5eccf8", func := "roquet/roquetlaw05.GameRules", spec := "gameRules", unfollowed := true, recurses := true, apart := false }
def GameRulesSaid : Prop := gameRulesRow.holds Try.pinned (OpenSpec.ofChange gameRulesSpec)

/-- ITS FALSE NEIGHBOUR: 'it returns false'. Refute it at one input. -/
def gameRulesWrong : ChangeSpec := { name := "gameRules", fn := fun _ => fun
  | [d1, d2, d3] => { results := [.lit (.bool false)], args := [d1, d2, d3] }
  | _ => none }
def GameRulesWrongFalsely : Prop := gameRulesRow.holds Try.pinned (OpenSpec.ofChange gameRulesWrong)

/- THE SECOND FORM. 'bulk': how many values and letters a reading holds, each counted each time it is reached (what is shared counts as often as it is met; a slice's spare places count too). A statement '..UptoSaid' is the law's where the arguments, and the package variables that the reading takes, are together of bulk at most 1048576: NARROWER than '..Said'. Prove '..Said' where nothing that the law and all that it calls make is longer than what came in: it says more and counts as full. Else prove '..UptoSaid'. A law counts once. -/
mutual
def uptoBulk {H : Type} : DataW H → Nat
  | .lit (.string bytes) => bytes.length + 1
  | .lit _ => 1
  | .nil => 1
  | .ptr d => uptoBulk d + 1
  | .slice elems spare => uptoBulkAll elems + uptoBulkAll spare + 1
  | .agg parts => uptoBulkAll parts + 1
  | .iface _ d => uptoBulk d + 1
  | .map entries => uptoBulkEntries entries + 1
  | .held _ => 1
def uptoBulkAll {H : Type} : List (DataW H) → Nat
  | [] => 0
  | d :: r => uptoBulk d + uptoBulkAll r
def uptoBulkEntries {H : Type} : List (Lit × DataW H) → Nat
  | [] => 0
  | x :: r => uptoBulkEntry x + uptoBulkEntries r
def uptoBulkEntry {H : Type} : Lit × DataW H → Nat
  | (.string bytes, d) => bytes.length + uptoBulk d + 1
  | (_, d) => uptoBulk d + 1
 end
def uptoSmall : (H : Type) → List (DataW H) → Bool := fun _ ds => decide (uptoBulkAll ds ≤ 1048576)
def OpenSpec.upto (s : _root_.Go.ChangeSpec) : _root_.Go.OpenSpec := { _root_.Go.OpenSpec.ofChange s with cond := some uptoSmall }

/-- 'roquetlaw05.GamePlays', WHERE WHAT IT READS IS OF BULK AT MOST 1048576: true; the input reads as it did. -/
def gamePlaysUptoRow : OpenClaim := { program := "ytcinpabggaepfaa", sum := "ca39142a0273bc15093c953610b89803241b92b4e8a6873a103e83903e5eccf8", func := "roquet/roquetlaw05.GamePlays", spec := "gamePlays", unfollowed := true, recurses := true, apart := false, narrowed := true }
def GamePlaysUptoSaid : Prop := gamePlaysUptoRow.holds Try.pinned (OpenSpec.upto gamePlaysSpec)

/-- 'roquetlaw05.GameTurns', WHERE WHAT IT READS IS OF BULK AT MOST 1048576: true; the input reads as it did. -/
def gameTurnsUptoRow : OpenClaim := { program := "ytcinpabggaepfaa", sum := "ca39142a0273bc15093c953610b89803241b92b4e8a6873a103e83903e5eccf8", func := "roquet/roquetlaw05.GameTurns", spec := "gameTurns", unfollowed := true, recurses := true, apart := false, narrowed := true }
def GameTurnsUptoSaid : Prop := gameTurnsUptoRow.holds Try.pinned (OpenSpec.upto gameTurnsSpec)

/-- 'roquetlaw05.GamePoints', WHERE WHAT IT READS IS OF BULK AT MOST 1048576: true; the input reads as it did. -/
def gamePointsUptoRow : OpenClaim := { program := "ytcinpabggaepfaa", sum := "ca39142a0273bc15093c953610b89803241b92b4e8a6873a103e83903e5eccf8", func := "roquet/roquetlaw05.GamePoints", spec := "gamePoints", unfollowed := true, recurses := true, apart := false, narrowed := true }
def GamePointsUptoSaid : Prop := gamePointsUptoRow.holds Try.pinned (OpenSpec.upto gamePointsSpec)

/-- 'roquetlaw05.GameOnce', WHERE WHAT IT READS IS OF BULK AT MOST 1048576: true; the input reads as it did. -/
def gameOnceUptoRow : OpenClaim := { program := "ytcinpabggaepfaa", sum := "ca39142a0273bc15093c953610b89803241b92b4e8a6873a103e83903e5eccf8", func := "roquet/roquetlaw05.GameOnce", spec := "gameOnce", unfollowed := true, recurses := true, apart := false, narrowed := true }
def GameOnceUptoSaid : Prop := gameOnceUptoRow.holds Try.pinned (OpenSpec.upto gameOnceSpec)

/-- 'roquetlaw05.GameAll', WHERE WHAT IT READS IS OF BULK AT MOST 1048576: true; the input reads as it did. -/
def gameAllUptoRow : OpenClaim := { program := "ytcinpabggaepfaa", sum := "ca39142a0273bc15093c953610b89803241b92b4e8a6873a103e83903e5eccf8", func := "roquet/roquetlaw05.GameAll", spec := "gameAll", unfollowed := true, recurses := true, apart := false, narrowed := true }
def GameAllUptoSaid : Prop := gameAllUptoRow.holds Try.pinned (OpenSpec.upto gameAllSpec)

/-- 'roquetlaw05.GameLegal', WHERE WHAT IT READS IS OF BULK AT MOST 1048576: true; the input reads as it did. -/
def gameLegalUptoRow : OpenClaim := { program := "ytcinpabggaepfaa", sum := "ca39142a0273bc15093c953610b89803241b92b4e8a6873a103e83903e5eccf8", func := "roquet/roquetlaw05.GameLegal", spec := "gameLegal", unfollowed := true, recurses := true, apart := false, narrowed := true }
def GameLegalUptoSaid : Prop := gameLegalUptoRow.holds Try.pinned (OpenSpec.upto gameLegalSpec)

/-- 'roquetlaw05.GameTogether', WHERE WHAT IT READS IS OF BULK AT MOST 1048576: true; the input reads as it did. -/
def gameTogetherUptoRow : OpenClaim := { program := "ytcinpabggaepfaa", sum := "ca39142a0273bc15093c953610b89803241b92b4e8a6873a103e83903e5eccf8", func := "roquet/roquetlaw05.GameTogether", spec := "gameTogether", unfollowed := true, recurses := true, apart := false, narrowed := true }
def GameTogetherUptoSaid : Prop := gameTogetherUptoRow.holds Try.pinned (OpenSpec.upto gameTogetherSpec)

/-- 'roquetlaw05.GameRules', WHERE WHAT IT READS IS OF BULK AT MOST 1048576: true; the input reads as it did. -/
def gameRulesUptoRow : OpenClaim := { program := "ytcinpabggaepfaa", sum := "ca39142a0273bc15093c953610b89803241b92b4e8a6873a103e83903e5eccf8", func := "roquet/roquetlaw05.GameRules", spec := "gameRules", unfollowed := true, recurses := true, apart := false, narrowed := true }
def GameRulesUptoSaid : Prop := gameRulesUptoRow.holds Try.pinned (OpenSpec.upto gameRulesSpec)

end Rows
end Go.Proofs.Ytcinpabggaepfaa
