/-
  No cell of these rows narrows 'for every input' (looked for: loops, veiled, ifaces, maps, wideKeys, modest, calm, conditions, laid).
  DERIVED. THE GIVEN ROWS OF THIS SEAT. 4 by the template 'for every input the law returns true; each argument reads behind the call as it read before'; 0 by the template 'total and deterministic' (their statements: YtgpdibeippljdaaGreatTotals.lean).
  GIVEN WITH THE SEED: the statements are not yours to turn. If you find one false, say at which input.
  Laid BY PROGRAM, IN A SANDBOX (cutbox-rows.mjs): the forced cells as the released guide's own fill.sh prints them over the translation 3b419f1aebbdd44b… (all of the seat's roots in one cut). By AI agents, Wed Nov 11 2026. No macro, syntax, notation, axiom, sorry.
-/
import Derived.Test.YtgpdibeippljdaaGreatChecked
import GoSem.Claim
import GoSem.ClaimJoined
import GoSem.ClaimMapViews
import Derived.JoinedTies
import Derived.KernelRfl
namespace Go.Proofs.YtgpdibeippljdaaGreat
/- THE CELL 'sum', in the pinned program and in every row, IS THE sha256 OF THE DUMP (.gsa) THAT YtgpdibeippljdaaGreatProg.lean LOADS. Nothing in Lean hashes anything: it is a label: what it is worth is what the hold of that sum in a sandbox is worth. -/
noncomputable def Tryz.pinned : Pinned := { name := "ytgpdibeippljdaagreat", sum := "3b419f1aebbdd44bd15b9c8882ea8619536b9ec935d4355de1795495fa9af940", checked := Tryz.checked }
namespace Rows
def none {H : Type} : Left H := { results := [], args := [] }

/-- 'garnerlaw23.JudgeAdds': WHATEVER THE INPUT: true; the input reads as it did. -/
def judgeAddsSpec : ChangeSpec := { name := "judgeAdds", fn := fun _ => fun
  | [d1, d2] => { results := [.lit (.bool true)], args := [d1, d2] }
  | _ => none }
def judgeAddsRow : OpenClaim := { program := "ytgpdibeippljdaagreat", sum := "3b419f1aebbdd44bd15b9c8882ea8619536b9ec935d4355de1795495fa9af940", func := "garner/garnerlaw23.JudgeAdds", spec := "judgeAdds", inPlace := ["maps.clone"], unfollowed := true, recurses := true, plainKeys := false, apart := false }
def JudgeAddsSaid : Prop := judgeAddsRow.holds Tryz.pinned (OpenSpec.ofChange judgeAddsSpec)

/-- ITS FALSE NEIGHBOUR: 'it returns false'. Refute it at one input. -/
def judgeAddsWrong : ChangeSpec := { name := "judgeAdds", fn := fun _ => fun
  | [d1, d2] => { results := [.lit (.bool false)], args := [d1, d2] }
  | _ => none }
def JudgeAddsWrongFalsely : Prop := judgeAddsRow.holds Tryz.pinned (OpenSpec.ofChange judgeAddsWrong)

/-- 'garnerlaw23.JudgeMeans': WHATEVER THE INPUT: true; the input reads as it did. -/
def judgeMeansSpec : ChangeSpec := { name := "judgeMeans", fn := fun _ => fun
  | [d1, d2, d3, d4, d5] => { results := [.lit (.bool true)], args := [d1, d2, d3, d4, d5] }
  | _ => none }
def judgeMeansRow : OpenClaim := { program := "ytgpdibeippljdaagreat", sum := "3b419f1aebbdd44bd15b9c8882ea8619536b9ec935d4355de1795495fa9af940", func := "garner/garnerlaw23.JudgeMeans", spec := "judgeMeans", inPlace := ["maps.clone"], unfollowed := true, recurses := true, plainKeys := false, apart := false }
def JudgeMeansSaid : Prop := judgeMeansRow.holds Tryz.pinned (OpenSpec.ofChange judgeMeansSpec)

/-- ITS FALSE NEIGHBOUR: 'it returns false'. Refute it at one input. -/
def judgeMeansWrong : ChangeSpec := { name := "judgeMeans", fn := fun _ => fun
  | [d1, d2, d3, d4, d5] => { results := [.lit (.bool false)], args := [d1, d2, d3, d4, d5] }
  | _ => none }
def JudgeMeansWrongFalsely : Prop := judgeMeansRow.holds Tryz.pinned (OpenSpec.ofChange judgeMeansWrong)

/-- 'garnerlaw23.JudgeCopies': WHATEVER THE INPUT: true; the input reads as it did. -/
def judgeCopiesSpec : ChangeSpec := { name := "judgeCopies", fn := fun _ => fun
  | [d1, d2, d3] => { results := [.lit (.bool true)], args := [d1, d2, d3] }
  | _ => none }
def judgeCopiesRow : OpenClaim := { program := "ytgpdibeippljdaagreat", sum := "3b419f1aebbdd44bd15b9c8882ea8619536b9ec935d4355de1795495fa9af940", func := "garner/garnerlaw23.JudgeCopies", spec := "judgeCopies", inPlace := ["maps.clone"], unfollowed := true, recurses := true, plainKeys := false, apart := false }
def JudgeCopiesSaid : Prop := judgeCopiesRow.holds Tryz.pinned (OpenSpec.ofChange judgeCopiesSpec)

/-- ITS FALSE NEIGHBOUR: 'it returns false'. Refute it at one input. -/
def judgeCopiesWrong : ChangeSpec := { name := "judgeCopies", fn := fun _ => fun
  | [d1, d2, d3] => { results := [.lit (.bool false)], args := [d1, d2, d3] }
  | _ => none }
def JudgeCopiesWrongFalsely : Prop := judgeCopiesRow.holds Tryz.pinned (OpenSpec.ofChange judgeCopiesWrong)

/-- 'garnerlaw23.JudgeFlaws': WHATEVER THE INPUT: true; the input reads as it did. -/
def judgeFlawsSpec : ChangeSpec := { name := "judgeFlaws", fn := fun _ => fun
  | [] => { results := [.lit (.bool true)], args := [] }
  | _ => none }
def judgeFlawsRow : OpenClaim := { program := "ytgpdibeippljdaagreat", sum := "3b419f1aebbdd44bd15b9c8882ea8619536b9ec935d4355de1795495fa9af940", func := "garner/garnerlaw23.JudgeFlaws", spec := "judgeFlaws", inPlace := ["maps.clone"], unfollowed := true, recurses := true, plainKeys := false, apart := false }
def JudgeFlawsSaid : Prop := judgeFlawsRow.holds Tryz.pinned (OpenSpec.ofChange judgeFlawsSpec)

/-- ITS FALSE NEIGHBOUR: 'it returns false'. Refute it at one input. -/
def judgeFlawsWrong : ChangeSpec := { name := "judgeFlaws", fn := fun _ => fun
  | [] => { results := [.lit (.bool false)], args := [] }
  | _ => none }
def JudgeFlawsWrongFalsely : Prop := judgeFlawsRow.holds Tryz.pinned (OpenSpec.ofChange judgeFlawsWrong)

/- THE SECOND FORM. 'bulk': how many values and letters a reading holds, each counted each time it is reached (what is shared counts as often as it is met; a slice's spare places count too). A statement '..UptoSaid' is the law's where the arguments, and the package variables that the reading takes, are together of bulk at most 1048576: NARROWER than '..Said'. Prove '..Said' where nothing that the law and all that it calls make is longer than what came in: it says more and counts as full. Else prove '..UptoSaid'. A law counts once. -/
mutual
def uptoBulk {H : Type} : DataW H → Nat
  | .lit (.string bytes) => bytes.length + 1
  | .lit _ => 1
  | .nil => 1
  | .ptr d => uptoBulk d + 1
  | .slice elems spare => uptoBulkAll elems + uptoBulkAll spare + 1
  | .agg parts => uptoBulkAll parts + 1
  | .iface _ d => uptoBulk d + 1
  | .map entries => uptoBulkEntries entries + 1
  | .held _ => 1
def uptoBulkAll {H : Type} : List (DataW H) → Nat
  | [] => 0
  | d :: r => uptoBulk d + uptoBulkAll r
def uptoBulkEntries {H : Type} : List (Lit × DataW H) → Nat
  | [] => 0
  | x :: r => uptoBulkEntry x + uptoBulkEntries r
def uptoBulkEntry {H : Type} : Lit × DataW H → Nat
  | (.string bytes, d) => bytes.length + uptoBulk d + 1
  | (_, d) => uptoBulk d + 1
 end
def uptoSmall : (H : Type) → List (DataW H) → Bool := fun _ ds => decide (uptoBulkAll ds ≤ 1048576)
def OpenSpec.upto (s : _root_.Go.ChangeSpec) : _root_.Go.OpenSpec := { _root_.Go.OpenSpec.ofChange s with cond := some uptoSmall }

/-- 'garnerlaw23.JudgeAdds', WHERE WHAT IT READS IS OF BULK AT MOST 1048576: true; the input reads as it did. -/
def judgeAddsUptoRow : OpenClaim := { program := "ytgpdibeippljdaagreat", sum := "3b419f1aebbdd44bd15b9c8882ea8619536b9ec935d4355de1795495fa9af940", func := "garner/garnerlaw23.JudgeAdds", spec := "judgeAdds", inPlace := ["maps.clone"], unfollowed := true, recurses := true, plainKeys := false, apart := false, narrowed := true }
def JudgeAddsUptoSaid : Prop := judgeAddsUptoRow.holds Tryz.pinned (OpenSpec.upto judgeAddsSpec)

/-- 'garnerlaw23.JudgeMeans', WHERE WHAT IT READS IS OF BULK AT MOST 1048576: true; the input reads as it did. -/
def judgeMeansUptoRow : OpenClaim := { program := "ytgpdibeippljdaagreat", sum := "3b419f1aebbdd44bd15b9c8882ea8619536b9ec935d4355de1795495fa9af940", func := "garner/garnerlaw23.JudgeMeans", spec := "judgeMeans", inPlace := ["maps.clone"], unfollowed := true, recurses := true, plainKeys := false, apart := false, narrowed := true }
def JudgeMeansUptoSaid : Prop := judgeMeansUptoRow.holds Tryz.pinned (OpenSpec.upto judgeMeansSpec)

/-- 'garnerlaw23.JudgeCopies', WHERE WHAT IT READS IS OF BULK AT MOST 1048576: true; the input reads as it did. -/
def judgeCopiesUptoRow : OpenClaim := { program := "ytgpdibeippljdaagreat", sum := "3b419f1aebbdd44bd15b9c8882ea8619536b9ec935d4355de1795495fa9af940", func := "garner/garnerlaw23.JudgeCopies", spec := "judgeCopies", inPlace := ["maps.clone"], unfollowed := true, recurses := true, plainKeys := false, apart := false, narrowed := true }
def JudgeCopiesUptoSaid : Prop := judgeCopiesUptoRow.holds Tryz.pinned (OpenSpec.upto judgeCopiesSpec)

/-- 'garnerlaw23.JudgeFlaws', WHERE WHAT IT READS IS OF BULK AT MOST 1048576: true; the input reads as it did. -/
def judgeFlawsUptoRow : OpenClaim := { program := "ytgpdibeippljdaagreat", sum := "3b419f1aebbdd44bd15b9c8882ea8619536b9ec935d4355de1795495fa9af940", func := "garner/garnerlaw23.JudgeFlaws", spec := "judgeFlaws", inPlace := ["maps.clone"], unfollowed := true, recurses := true, plainKeys := false, apart := false, narrowed := true }
def JudgeFlawsUptoSaid : Prop := judgeFlawsUptoRow.holds Tryz.pinned (OpenSpec.upto judgeFlawsSpec)

end Rows
end Go.Proofs.YtgpdibeippljdaaGreat
