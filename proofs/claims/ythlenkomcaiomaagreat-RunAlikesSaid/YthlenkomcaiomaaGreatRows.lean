/-
  NARROWER THAN 'FOR EVERY INPUT', by the rows' own cells (each row's printed sentence says how): RunStarts: loops · RunPlays: loops · RunChecks: loops · RunTurns: loops · RunParts: loops · RunStep: loops · RunAlikes: loops · RunOrder: loops.
  DERIVED. THE GIVEN ROWS OF THIS SEAT. 8 by the template 'for every input the law returns true; each argument reads behind the call as it read before'; 0 by the template 'total and deterministic' (their statements: YthlenkomcaiomaaGreatTotals.lean).
  GIVEN WITH THE SEED: the statements are not yours to turn. If you find one false, say at which input.
  Laid BY PROGRAM, IN A SANDBOX (cutbox-rows.mjs): the forced cells as the released guide's own fill.sh prints them over the translation b4a8160da4f09127… (all of the seat's roots in one cut). By AI agents, Wed Nov 11 2026. No macro, syntax, notation, axiom, sorry.
-/
import Derived.Test.YthlenkomcaiomaaGreatChecked
import GoSem.Claim
import GoSem.ClaimJoined
import GoSem.ClaimMapViews
import Derived.JoinedTies
import Derived.KernelRfl
namespace Go.Proofs.YthlenkomcaiomaaGreat
/- THE CELL 'sum', in the pinned program and in every row, IS THE sha256 OF THE DUMP (.gsa) THAT YthlenkomcaiomaaGreatProg.lean LOADS. Nothing in Lean hashes anything: it is a label: what it is worth is what the hold of that sum in a sandbox is worth. -/
noncomputable def Tryz.pinned : Pinned := { name := "ythlenkomcaiomaagreat", sum := "b4a8160da4f09127892a2c835b1027abe3ebfbd4a248ab339cd2f7ea85a6b119", checked := Tryz.checked }
namespace Rows
def none {H : Type} : Left H := { results := [], args := [] }

/-- 'hearthlaw11.RunStarts': WHATEVER THE INPUT: true; the input reads as it did. -/
def runStartsSpec : ChangeSpec := { name := "runStarts", fn := fun _ => fun
  | [d1, d2] => { results := [.lit (.bool true)], args := [d1, d2] }
  | _ => none }
def runStartsRow : OpenClaim := { program := "ythlenkomcaiomaagreat", sum := "b4a8160da4f09127892a2c835b1027abe3ebfbd4a248ab339cd2f7ea85a6b119", func := "hearth/hearthlaw11.RunStarts", spec := "runStarts", unfollowed := true, recurses := true, loops := true, apart := false }
def RunStartsSaid : Prop := runStartsRow.holds Tryz.pinned (OpenSpec.ofChange runStartsSpec)

/-- ITS FALSE NEIGHBOUR: 'it returns false'. Refute it at one input. -/
def runStartsWrong : ChangeSpec := { name := "runStarts", fn := fun _ => fun
  | [d1, d2] => { results := [.lit (.bool false)], args := [d1, d2] }
  | _ => none }
def RunStartsWrongFalsely : Prop := runStartsRow.holds Tryz.pinned (OpenSpec.ofChange runStartsWrong)

/-- 'hearthlaw11.RunPlays': WHATEVER THE INPUT: true; the input reads as it did. -/
def runPlaysSpec : ChangeSpec := { name := "runPlays", fn := fun _ => fun
  | [d1, d2, d3] => { results := [.lit (.bool true)], args := [d1, d2, d3] }
  | _ => none }
def runPlaysRow : OpenClaim := { program := "ythlenkomcaiomaagreat", sum := "b4a8160da4f09127892a2c835b1027abe3ebfbd4a248ab339cd2f7ea85a6b119", func := "hearth/hearthlaw11.RunPlays", spec := "runPlays", unfollowed := true, recurses := true, loops := true, apart := false }
def RunPlaysSaid : Prop := runPlaysRow.holds Tryz.pinned (OpenSpec.ofChange runPlaysSpec)

/-- ITS FALSE NEIGHBOUR: 'it returns false'. Refute it at one input. -/
def runPlaysWrong : ChangeSpec := { name := "runPlays", fn := fun _ => fun
  | [d1, d2, d3] => { results := [.lit (.bool false)], args := [d1, d2, d3] }
  | _ => none }
def RunPlaysWrongFalsely : Prop := runPlaysRow.holds Tryz.pinned (OpenSpec.ofChange runPlaysWrong)

/-- 'hearthlaw11.RunChecks': WHATEVER THE INPUT: true; the input reads as it did. -/
def runChecksSpec : ChangeSpec := { name := "runChecks", fn := fun _ => fun
  | [d1, d2] => { results := [.lit (.bool true)], args := [d1, d2] }
  | _ => none }
def runChecksRow : OpenClaim := { program := "ythlenkomcaiomaagreat", sum := "b4a8160da4f09127892a2c835b1027abe3ebfbd4a248ab339cd2f7ea85a6b119", func := "hearth/hearthlaw11.RunChecks", spec := "runChecks", unfollowed := true, recurses := true, loops := true, apart := false }
def RunChecksSaid : Prop := runChecksRow.holds Tryz.pinned (OpenSpec.ofChange runChecksSpec)

/-- ITS FALSE NEIGHBOUR: 'it returns false'. Refute it at one input. -/
def runChecksWrong : ChangeSpec := { name := "runChecks", fn := fun _ => fun
  | [d1, d2] => { results := [.lit (.bool false)], args := [d1, d2] }
  | _ => none }
def RunChecksWrongFalsely : Prop := runChecksRow.holds Tryz.pinned (OpenSpec.ofChange runChecksWrong)

/-- 'hearthlaw11.RunTurns': WHATEVER THE INPUT: true; the input reads as it did. -/
def runTurnsSpec : ChangeSpec := { name := "runTurns", fn := fun _ => fun
  | [d1, d2, d3] => { results := [.lit (.bool true)], args := [d1, d2, d3] }
  | _ => none }
def runTurnsRow : OpenClaim := { program := "ythlenkomcaiomaagreat", sum := "b4a8160da4f09127892a2c835b1027abe3ebfbd4a248ab339cd2f7ea85a6b119", func := "hearth/hearthlaw11.RunTurns", spec := "runTurns", unfollowed := true, recurses := true, loops := true, apart := false }
def RunTurnsSaid : Prop := runTurnsRow.holds Tryz.pinned (OpenSpec.ofChange runTurnsSpec)

/-- ITS FALSE NEIGHBOUR: 'it returns false'. Refute it at one input. -/
def runTurnsWrong : ChangeSpec := { name := "runTurns", fn := fun _ => fun
  | [d1, d2, d3] => { results := [.lit (.bool false)], args := [d1, d2, d3] }
  | _ => none }
def RunTurnsWrongFalsely : Prop := runTurnsRow.holds Tryz.pinned (OpenSpec.ofChange runTurnsWrong)

/-- 'hearthlaw11.RunParts': WHATEVER THE INPUT: true; the input reads as it did. -/
def runPartsSpec : ChangeSpec := { name := "runParts", fn := fun _ => fun
  | [d1, d2, d3, d4] => { results := [.lit (.bool true)], args := [d1, d2, d3, d4] }
  | _ => none }
def runPartsRow : OpenClaim := { program := "ythlenkomcaiomaagreat", sum := "b4a8160da4f09127892a2c835b1027abe3ebfbd4a248ab339cd2f7ea85a6b119", func := "hearth/hearthlaw11.RunParts", spec := "runParts", unfollowed := true, recurses := true, loops := true, apart := false }
def RunPartsSaid : Prop := runPartsRow.holds Tryz.pinned (OpenSpec.ofChange runPartsSpec)

/-- ITS FALSE NEIGHBOUR: 'it returns false'. Refute it at one input. -/
def runPartsWrong : ChangeSpec := { name := "runParts", fn := fun _ => fun
  | [d1, d2, d3, d4] => { results := [.lit (.bool false)], args := [d1, d2, d3, d4] }
  | _ => none }
def RunPartsWrongFalsely : Prop := runPartsRow.holds Tryz.pinned (OpenSpec.ofChange runPartsWrong)

/-- 'hearthlaw11.RunStep': WHATEVER THE INPUT: true; the input reads as it did. -/
def runStepSpec : ChangeSpec := { name := "runStep", fn := fun _ => fun
  | [d1, d2, d3] => { results := [.lit (.bool true)], args := [d1, d2, d3] }
  | _ => none }
def runStepRow : OpenClaim := { program := "ythlenkomcaiomaagreat", sum := "b4a8160da4f09127892a2c835b1027abe3ebfbd4a248ab339cd2f7ea85a6b119", func := "hearth/hearthlaw11.RunStep", spec := "runStep", unfollowed := true, recurses := true, loops := true, apart := false }
def RunStepSaid : Prop := runStepRow.holds Tryz.pinned (OpenSpec.ofChange runStepSpec)

/-- ITS FALSE NEIGHBOUR: 'it returns false'. Refute it at one input. -/
def runStepWrong : ChangeSpec := { name := "runStep", fn := fun _ => fun
  | [d1, d2, d3] => { results := [.lit (.bool false)], args := [d1, d2, d3] }
  | _ => none }
def RunStepWrongFalsely : Prop := runStepRow.holds Tryz.pinned (OpenSpec.ofChange runStepWrong)

/-- 'hearthlaw11.RunAlikes': WHATEVER THE INPUT: true; the input reads as it did. -/
def runAlikesSpec : ChangeSpec := { name := "runAlikes", fn := fun _ => fun
  | [d1, d2, d3] => { results := [.lit (.bool true)], args := [d1, d2, d3] }
  | _ => none }
def runAlikesRow : OpenClaim := { program := "ythlenkomcaiomaagreat", sum := "b4a8160da4f09127892a2c835b1027abe3ebfbd4a248ab339cd2f7ea85a6b119", func := "hearth/hearthlaw11.RunAlikes", spec := "runAlikes", unfollowed := true, recurses := true, loops := true, apart := false }
def RunAlikesSaid : Prop := runAlikesRow.holds Tryz.pinned (OpenSpec.ofChange runAlikesSpec)

/-- ITS FALSE NEIGHBOUR: 'it returns false'. Refute it at one input. -/
def runAlikesWrong : ChangeSpec := { name := "runAlikes", fn := fun _ => fun
  | [d1, d2, d3] => { results := [.lit (.bool false)], args := [d1, d2, d3] }
  | _ => none }
def RunAlikesWrongFalsely : Prop := runAlikesRow.holds Tryz.pinned (OpenSpec.ofChange runAlikesWrong)

/-- 'hearthlaw11.RunOrder': WHATEVER THE INPUT: true; the input reads as it did. -/
def runOrderSpec : ChangeSpec := { name := "runOrder", fn := fun _ => fun
  | [d1, d2, d3] => { results := [.lit (.bool true)], args := [d1, d2, d3] }
  | _ => none }
def runOrderRow : OpenClaim := { program := "ythlenkomcaiomaagreat", sum := "b4a8160da4f09127892a2c835b1027abe3ebfbd4a248ab339cd2f7ea85a6b119", func := "hearth/hearthlaw11.RunOrder", spec := "runOrder", unfollowed := true, recurses := true, loops := true, apart := false }
def RunOrderSaid : Prop := runOrderRow.holds Tryz.pinned (OpenSpec.ofChange runOrderSpec)

/-- ITS FALSE NEIGHBOUR: 'it returns false'. Refute it at one input. -/
def runOrderWrong : ChangeSpec := { name := "runOrder", fn := fun _ => fun
  | [d1, d2, d3] => { results := [.lit (.bool false)], args := [d1, d2, d3] }
  | _ => none }
def RunOrderWrongFalsely : Prop := runOrderRow.holds Tryz.pinned (OpenSpec.ofChange runOrderWrong)

/- THE SECOND FORM. 'bulk': how many values and letters a reading holds, each counted each time it is reached (what is shared counts as often as it is met; a slice's spare places count too). A statement '..UptoSaid' is the law's where the arguments, and the package variables that the reading takes, are together of bulk at most 1048576: NARROWER than '..Said'. Prove '..Said' where nothing that the law and all that it calls make is longer than what came in: it says more and counts as full. Else prove '..UptoSaid'. A law counts once. -/
mutual
def uptoBulk {H : Type} : DataW H → Nat
  | .lit (.string bytes) => bytes.length + 1
  | .lit _ => 1
  | .nil => 1
  | .ptr d => uptoBulk d + 1
  | .slice elems spare => uptoBulkAll elems + uptoBulkAll spare + 1
  | .agg parts => uptoBulkAll parts + 1
  | .iface _ d => uptoBulk d + 1
  | .map entries => uptoBulkEntries entries + 1
  | .held _ => 1
def uptoBulkAll {H : Type} : List (DataW H) → Nat
  | [] => 0
  | d :: r => uptoBulk d + uptoBulkAll r
def uptoBulkEntries {H : Type} : List (Lit × DataW H) → Nat
  | [] => 0
  | x :: r => uptoBulkEntry x + uptoBulkEntries r
def uptoBulkEntry {H : Type} : Lit × DataW H → Nat
  | (.string bytes, d) => bytes.length + uptoBulk d + 1
  | (_, d) => uptoBulk d + 1
 end
def uptoSmall : (H : Type) → List (DataW H) → Bool := fun _ ds => decide (uptoBulkAll ds ≤ 1048576)
def OpenSpec.upto (s : _root_.Go.ChangeSpec) : _root_.Go.OpenSpec := { _root_.Go.OpenSpec.ofChange s with cond := some uptoSmall }

/-- 'hearthlaw11.RunStarts', WHERE WHAT IT READS IS OF BULK AT MOST 1048576: true; the input reads as it did. -/
def runStartsUptoRow : OpenClaim := { program := "ythlenkomcaiomaagreat", sum := "b4a8160da4f09127892a2c835b1027abe3ebfbd4a248ab339cd2f7ea85a6b119", func := "hearth/hearthlaw11.RunStarts", spec := "runStarts", unfollowed := true, recurses := true, loops := true, apart := false, narrowed := true }
def RunStartsUptoSaid : Prop := runStartsUptoRow.holds Tryz.pinned (OpenSpec.upto runStartsSpec)

/-- 'hearthlaw11.RunPlays', WHERE WHAT IT READS IS OF BULK AT MOST 1048576: true; the input reads as it did. -/
def runPlaysUptoRow : OpenClaim := { program := "ythlenkomcaiomaagreat", sum := "b4a8160da4f09127892a2c835b1027abe3ebfbd4a248ab339cd2f7ea85a6b119", func := "hearth/hearthlaw11.RunPlays", spec := "runPlays", unfollowed := true, recurses := true, loops := true, apart := false, narrowed := true }
def RunPlaysUptoSaid : Prop := runPlaysUptoRow.holds Tryz.pinned (OpenSpec.upto runPlaysSpec)

/-- 'hearthlaw11.RunChecks', WHERE WHAT IT READS IS OF BULK AT MOST 1048576: true; the input reads as it did. -/
def runChecksUptoRow : OpenClaim := { program := "ythlenkomcaiomaagreat", sum := "b4a8160da4f09127892a2c835b1027abe3ebfbd4a248ab339cd2f7ea85a6b119", func := "hearth/hearthlaw11.RunChecks", spec := "runChecks", unfollowed := true, recurses := true, loops := true, apart := false, narrowed := true }
def RunChecksUptoSaid : Prop := runChecksUptoRow.holds Tryz.pinned (OpenSpec.upto runChecksSpec)

/-- 'hearthlaw11.RunTurns', WHERE WHAT IT READS IS OF BULK AT MOST 1048576: true; the input reads as it did. -/
def runTurnsUptoRow : OpenClaim := { program := "ythlenkomcaiomaagreat", sum := "b4a8160da4f09127892a2c835b1027abe3ebfbd4a248ab339cd2f7ea85a6b119", func := "hearth/hearthlaw11.RunTurns", spec := "runTurns", unfollowed := true, recurses := true, loops := true, apart := false, narrowed := true }
def RunTurnsUptoSaid : Prop := runTurnsUptoRow.holds Tryz.pinned (OpenSpec.upto runTurnsSpec)

/-- 'hearthlaw11.RunParts', WHERE WHAT IT READS IS OF BULK AT MOST 1048576: true; the input reads as it did. -/
def runPartsUptoRow : OpenClaim := { program := "ythlenkomcaiomaagreat", sum := "b4a8160da4f09127892a2c835b1027abe3ebfbd4a248ab339cd2f7ea85a6b119", func := "hearth/hearthlaw11.RunParts", spec := "runParts", unfollowed := true, recurses := true, loops := true, apart := false, narrowed := true }
def RunPartsUptoSaid : Prop := runPartsUptoRow.holds Tryz.pinned (OpenSpec.upto runPartsSpec)

/-- 'hearthlaw11.RunStep', WHERE WHAT IT READS IS OF BULK AT MOST 1048576: true; the input reads as it did. -/
def runStepUptoRow : OpenClaim := { program := "ythlenkomcaiomaagreat", sum := "b4a8160da4f09127892a2c835b1027abe3ebfbd4a248ab339cd2f7ea85a6b119", func := "hearth/hearthlaw11.RunStep", spec := "runStep", unfollowed := true, recurses := true, loops := true, apart := false, narrowed := true }
def RunStepUptoSaid : Prop := runStepUptoRow.holds Tryz.pinned (OpenSpec.upto runStepSpec)

/-- 'hearthlaw11.RunAlikes', WHERE WHAT IT READS IS OF BULK AT MOST 1048576: true; the input reads as it did. -/
def runAlikesUptoRow : OpenClaim := { program := "ythlenkomcaiomaagreat", sum := "b4a8160da4f09127892a2c835b1027abe3ebfbd4a248ab339cd2f7ea85a6b119", func := "hearth/hearthlaw11.RunAlikes", spec := "runAlikes", unfollowed := true, recurses := true, loops := true, apart := false, narrowed := true }
def RunAlikesUptoSaid : Prop := runAlikesUptoRow.holds Tryz.pinned (OpenSpec.upto runAlikesSpec)

/-- 'hearthlaw11.RunOrder', WHERE WHAT IT READS IS OF BULK AT MOST 1048576: true; the input reads as it did. -/
def runOrderUptoRow : OpenClaim := { program := "ythlenkomcaiomaagreat", sum := "b4a8160da4f09127892a2c835b1027abe3ebfbd4a248ab339cd2f7ea85a6b119", func := "hearth/hearthlaw11.RunOrder", spec := "runOrder", unfollowed := true, recurses := true, loops := true, apart := false, narrowed := true }
def RunOrderUptoSaid : Prop := runOrderUptoRow.holds Tryz.pinned (OpenSpec.upto runOrderSpec)

end Rows
end Go.Proofs.YthlenkomcaiomaaGreat
