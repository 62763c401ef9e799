/-
  No cell of these rows narrows 'for every input' (looked for: loops, veiled, ifaces, maps, wideKeys, modest, calm, conditions, laid).
  DERIVED. THE GIVEN ROWS OF THIS SEAT. 3 by the template 'for every input the law returns true; each argument reads behind the call as it read before'; 0 by the template 'total and deterministic' (their statements: YtjjmfbdijmbamaaGreatTotals.lean).
  GIVEN WITH THE SEED: the statements are not yours to turn. If you find one false, say at which input.
  Laid BY PROGRAM, IN A SANDBOX (cutbox-rows.mjs): the forced cells as the released guide's own fill.sh prints them over the translation ce975ac9aac3cf06… (all of the seat's roots in one cut). By AI agents, Wed Nov 11 2026. No macro, syntax, notation, axiom, sorry.
-/
import Derived.Test.YtjjmfbdijmbamaaGreatChecked
import GoSem.Claim
import GoSem.ClaimJoined
import GoSem.ClaimMapViews
import Derived.JoinedTies
import Derived.KernelRfl
namespace Go.Proofs.YtjjmfbdijmbamaaGreat
/- THE CELL 'sum', in the pinned program and in every row, IS THE sha256 OF THE DUMP (.gsa) THAT YtjjmfbdijmbamaaGreatProg.lean LOADS. Nothing in Lean hashes anything: it is a label: what it is worth is what the hold of that sum in a sandbox is worth. -/
noncomputable def Tryz.pinned : Pinned := { name := "ytjjmfbdijmbamaagreat", sum := "ce975ac9aac3cf06aba7e7b49fd6f94187c25b4758e93e2d5d57bddb16364fe4", checked := Tryz.checked }
namespace Rows
def none {H : Type} : Left H := { results := [], args := [] }

/-- 'garnerlaw19.LoggerWorkers': WHATEVER THE INPUT: true; the input reads as it did. -/
def loggerWorkersSpec : ChangeSpec := { name := "loggerWorkers", fn := fun _ => fun
  | [d1, d2] => { results := [.lit (.bool true)], args := [d1, d2] }
  | _ => none }
def loggerWorkersRow : OpenClaim := { program := "ytjjmfbdijmbamaagreat", sum := "ce975ac9aac3cf06aba7e7b49fd6f94187c25b4758e93e2d5d57bddb16364fe4", func := "garner/garnerlaw19.LoggerWorkers", spec := "loggerWorkers", unfollowed := true, recurses := true, apart := false }
def LoggerWorkersSaid : Prop := loggerWorkersRow.holds Tryz.pinned (OpenSpec.ofChange loggerWorkersSpec)

/-- ITS FALSE NEIGHBOUR: 'it returns false'. Refute it at one input. -/
def loggerWorkersWrong : ChangeSpec := { name := "loggerWorkers", fn := fun _ => fun
  | [d1, d2] => { results := [.lit (.bool false)], args := [d1, d2] }
  | _ => none }
def LoggerWorkersWrongFalsely : Prop := loggerWorkersRow.holds Tryz.pinned (OpenSpec.ofChange loggerWorkersWrong)

/-- 'garnerlaw19.LoggerRounds': WHATEVER THE INPUT: true; the input reads as it did. -/
def loggerRoundsSpec : ChangeSpec := { name := "loggerRounds", fn := fun _ => fun
  | [d1, d2, d3] => { results := [.lit (.bool true)], args := [d1, d2, d3] }
  | _ => none }
def loggerRoundsRow : OpenClaim := { program := "ytjjmfbdijmbamaagreat", sum := "ce975ac9aac3cf06aba7e7b49fd6f94187c25b4758e93e2d5d57bddb16364fe4", func := "garner/garnerlaw19.LoggerRounds", spec := "loggerRounds", unfollowed := true, recurses := true, apart := false }
def LoggerRoundsSaid : Prop := loggerRoundsRow.holds Tryz.pinned (OpenSpec.ofChange loggerRoundsSpec)

/-- ITS FALSE NEIGHBOUR: 'it returns false'. Refute it at one input. -/
def loggerRoundsWrong : ChangeSpec := { name := "loggerRounds", fn := fun _ => fun
  | [d1, d2, d3] => { results := [.lit (.bool false)], args := [d1, d2, d3] }
  | _ => none }
def LoggerRoundsWrongFalsely : Prop := loggerRoundsRow.holds Tryz.pinned (OpenSpec.ofChange loggerRoundsWrong)

/-- 'garnerlaw19.LoggerSays': WHATEVER THE INPUT: true; the input reads as it did. -/
def loggerSaysSpec : ChangeSpec := { name := "loggerSays", fn := fun _ => fun
  | [d1, d2, d3] => { results := [.lit (.bool true)], args := [d1, d2, d3] }
  | _ => none }
def loggerSaysRow : OpenClaim := { program := "ytjjmfbdijmbamaagreat", sum := "ce975ac9aac3cf06aba7e7b49fd6f94187c25b4758e93e2d5d57bddb16364fe4", func := "garner/garnerlaw19.LoggerSays", spec := "loggerSays", unfollowed := true, recurses := true, apart := false }
def LoggerSaysSaid : Prop := loggerSaysRow.holds Tryz.pinned (OpenSpec.ofChange loggerSaysSpec)

/-- ITS FALSE NEIGHBOUR: 'it returns false'. Refute it at one input. -/
def loggerSaysWrong : ChangeSpec := { name := "loggerSays", fn := fun _ => fun
  | [d1, d2, d3] => { results := [.lit (.bool false)], args := [d1, d2, d3] }
  | _ => none }
def LoggerSaysWrongFalsely : Prop := loggerSaysRow.holds Tryz.pinned (OpenSpec.ofChange loggerSaysWrong)

/- THE SECOND FORM. 'bulk': how many values and letters a reading holds, each counted each time it is reached (what is shared counts as often as it is met; a slice's spare places count too). A statement '..UptoSaid' is the law's where the arguments, and the package variables that the reading takes, are together of bulk at most 1048576: NARROWER than '..Said'. Prove '..Said' where nothing that the law and all that it calls make is longer than what came in: it says more and counts as full. Else prove '..UptoSaid'. A law counts once. -/
mutual
def uptoBulk {H : Type} : DataW H → Nat
  | .lit (.string bytes) => bytes.length + 1
  | .lit _ => 1
  | .nil => 1
  | .ptr d => uptoBulk d + 1
  | .slice elems spare => uptoBulkAll elems + uptoBulkAll spare + 1
  | .agg parts => uptoBulkAll parts + 1
  | .iface _ d => uptoBulk d + 1
  | .map entries => uptoBulkEntries entries + 1
  | .held _ => 1
def uptoBulkAll {H : Type} : List (DataW H) → Nat
  | [] => 0
  | d :: r => uptoBulk d + uptoBulkAll r
def uptoBulkEntries {H : Type} : List (Lit × DataW H) → Nat
  | [] => 0
  | x :: r => uptoBulkEntry x + uptoBulkEntries r
def uptoBulkEntry {H : Type} : Lit × DataW H → Nat
  | (.string bytes, d) => bytes.length + uptoBulk d + 1
  | (_, d) => uptoBulk d + 1
 end
def uptoSmall : (H : Type) → List (DataW H) → Bool := fun _ ds => decide (uptoBulkAll ds ≤ 1048576)
def OpenSpec.upto (s : _root_.Go.ChangeSpec) : _root_.Go.OpenSpec := { _root_.Go.OpenSpec.ofChange s with cond := some uptoSmall }

/-- 'garnerlaw19.LoggerWorkers', WHERE WHAT IT READS IS OF BULK AT MOST 1048576: true; the input reads as it did. -/
def loggerWorkersUptoRow : OpenClaim := { program := "ytjjmfbdijmbamaagreat", sum := "ce975ac9aac3cf06aba7e7b49fd6f94187c25b4758e93e2d5d57bddb16364fe4", func := "garner/garnerlaw19.LoggerWorkers", spec := "loggerWorkers", unfollowed := true, recurses := true, apart := false, narrowed := true }
def LoggerWorkersUptoSaid : Prop := loggerWorkersUptoRow.holds Tryz.pinned (OpenSpec.upto loggerWorkersSpec)

/-- 'garnerlaw19.LoggerRounds', WHERE WHAT IT READS IS OF BULK AT MOST 1048576: true; the input reads as it did. -/
def loggerRoundsUptoRow : OpenClaim := { program := "ytjjmfbdijmbamaagreat", sum := "ce975ac9aac3cf06aba7e7b49fd6f94187c25b4758e93e2d5d57bddb16364fe4", func := "garner/garnerlaw19.LoggerRounds", spec := "loggerRounds", unfollowed := true, recurses := true, apart := false, narrowed := true }
def LoggerRoundsUptoSaid : Prop := loggerRoundsUptoRow.holds Tryz.pinned (OpenSpec.upto loggerRoundsSpec)

/-- 'garnerlaw19.LoggerSays', WHERE WHAT IT READS IS OF BULK AT MOST 1048576: true; the input reads as it did. -/
def loggerSaysUptoRow : OpenClaim := { program := "ytjjmfbdijmbamaagreat", sum := "ce975ac9aac3cf06aba7e7b49fd6f94187c25b4758e93e2d5d57bddb16364fe4", func := "garner/garnerlaw19.LoggerSays", spec := "loggerSays", unfollowed := true, recurses := true, apart := false, narrowed := true }
def LoggerSaysUptoSaid : Prop := loggerSaysUptoRow.holds Tryz.pinned (OpenSpec.upto loggerSaysSpec)

end Rows
end Go.Proofs.YtjjmfbdijmbamaaGreat
