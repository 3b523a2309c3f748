/-
  NARROWER THAN 'FOR EVERY INPUT', by the rows' own cells (each row's printed sentence says how): MeanStarts: loops · MeanPlays: loops · MeanGrows: loops · MeanChecks: loops · MeanTurns: loops · MeanParts: loops · MeanSteps: loops · MeanAlikes: loops · MeanSame: loops.
  DERIVED. THE GIVEN ROWS OF THIS SEAT. 9 by the template 'for every input the law returns true; each argument reads behind the call as it read before'; 0 by the template 'total and deterministic' (their statements: YtdddliieplcejaaGreatTotals.lean).
  GIVEN WITH THE SEED: the statements are not yours to turn. If you find one false, say at which input.
  Laid BY PROGRAM, IN A SANDBOX (cutbox-rows.mjs): the forced cells as the released guide's own fill.sh prints them over the translation 4f78a42e83dc463f… (all of the seat's roots in one cut). By AI agents, Wed Nov 11 2026. No macro, syntax, notation, axiom, sorry.
-/
import Derived.Test.YtdddliieplcejaaGreatChecked
import GoSem.Claim
import GoSem.ClaimJoined
import GoSem.ClaimMapViews
import Derived.JoinedTies
import Derived.KernelRfl
namespace Go.Proofs.YtdddliieplcejaaGreat
/- THE CELL 'sum', in the pinned program and in every row, IS THE sha256 OF THE DUMP (.gsa) THAT YtdddliieplcejaaGreatProg.lean LOADS. Nothing in Lean hashes anything: it is a label: what it is worth is what the hold of that sum in a sandbox is worth. -/
noncomputable def Tryz.pinned : Pinned := { name := "ytdddliieplcejaagreat", sum := "4f78a42e83dc463f605695fd241cbb74d3562da0ce616620aa98d82a23a0ec47", checked := Tryz.checked }
namespace Rows
def none {H : Type} : Left H := { results := [], args := [] }

/-- 'hearthlaw06.MeanStarts': WHATEVER THE INPUT: true; the input reads as it did. -/
def meanStartsSpec : ChangeSpec := { name := "meanStarts", fn := fun _ => fun
  | [d1, d2] => { results := [.lit (.bool true)], args := [d1, d2] }
  | _ => none }
def meanStartsRow : OpenClaim := { program := "ytdddliieplcejaagreat", sum := "4f78a42e83dc463f605695fd241cbb74d3562da0ce616620aa98d82a23a0ec47", func := "hearth/hearthlaw06.MeanStarts", spec := "meanStarts", unfollowed := true, recurses := true, loops := true, apart := false }
def MeanStartsSaid : Prop := meanStartsRow.holds Tryz.pinned (OpenSpec.ofChange meanStartsSpec)

/-- ITS FALSE NEIGHBOUR: 'it returns false'. Refute it at one input. -/
def meanStartsWrong : ChangeSpec := { name := "meanStarts", fn := fun _ => fun
  | [d1, d2] => { results := [.lit (.bool false)], args := [d1, d2] }
  | _ => none }
def MeanStartsWrongFalsely : Prop := meanStartsRow.holds Tryz.pinned (OpenSpec.ofChange meanStartsWrong)

/-- 'hearthlaw06.MeanPlays': WHATEVER THE INPUT: true; the input reads as it did. -/
def meanPlaysSpec : ChangeSpec := { name := "meanPlays", fn := fun _ => fun
  | [d1, d2, d3] => { results := [.lit (.bool true)], args := [d1, d2, d3] }
  | _ => none }
def meanPlaysRow : OpenClaim := { program := "ytdddliieplcejaagreat", sum := "4f78a42e83dc463f605695fd241cbb74d3562da0ce616620aa98d82a23a0ec47", func := "hearth/hearthlaw06.MeanPlays", spec := "meanPlays", unfollowed := true, recurses := true, loops := true, apart := false }
def MeanPlaysSaid : Prop := meanPlaysRow.holds Tryz.pinned (OpenSpec.ofChange meanPlaysSpec)

/-- ITS FALSE NEIGHBOUR: 'it returns false'. Refute it at one input. -/
def meanPlaysWrong : ChangeSpec := { name := "meanPlays", fn := fun _ => fun
  | [d1, d2, d3] => { results := [.lit (.bool false)], args := [d1, d2, d3] }
  | _ => none }
def MeanPlaysWrongFalsely : Prop := meanPlaysRow.holds Tryz.pinned (OpenSpec.ofChange meanPlaysWrong)

/-- 'hearthlaw06.MeanGrows': WHATEVER THE INPUT: true; the input reads as it did. -/
def meanGrowsSpec : ChangeSpec := { name := "meanGrows", fn := fun _ => fun
  | [d1, d2, d3] => { results := [.lit (.bool true)], args := [d1, d2, d3] }
  | _ => none }
def meanGrowsRow : OpenClaim := { program := "ytdddliieplcejaagreat", sum := "4f78a42e83dc463f605695fd241cbb74d3562da0ce616620aa98d82a23a0ec47", func := "hearth/hearthlaw06.MeanGrows", spec := "meanGrows", unfollowed := true, recurses := true, loops := true, apart := false }
def MeanGrowsSaid : Prop := meanGrowsRow.holds Tryz.pinned (OpenSpec.ofChange meanGrowsSpec)

/-- ITS FALSE NEIGHBOUR: 'it returns false'. Refute it at one input. -/
def meanGrowsWrong : ChangeSpec := { name := "meanGrows", fn := fun _ => fun
  | [d1, d2, d3] => { results := [.lit (.bool false)], args := [d1, d2, d3] }
  | _ => none }
def MeanGrowsWrongFalsely : Prop := meanGrowsRow.holds Tryz.pinned (OpenSpec.ofChange meanGrowsWrong)

/-- 'hearthlaw06.MeanChecks': WHATEVER THE INPUT: true; the input reads as it did. -/
def meanChecksSpec : ChangeSpec := { name := "meanChecks", fn := fun _ => fun
  | [d1, d2] => { results := [.lit (.bool true)], args := [d1, d2] }
  | _ => none }
def meanChecksRow : OpenClaim := { program := "ytdddliieplcejaagreat", sum := "4f78a42e83dc463f605695fd241cbb74d3562da0ce616620aa98d82a23a0ec47", func := "hearth/hearthlaw06.MeanChecks", spec := "meanChecks", unfollowed := true, recurses := true, loops := true, apart := false }
def MeanChecksSaid : Prop := meanChecksRow.holds Tryz.pinned (OpenSpec.ofChange meanChecksSpec)

/-- ITS FALSE NEIGHBOUR: 'it returns false'. Refute it at one input. -/
def meanChecksWrong : ChangeSpec := { name := "meanChecks", fn := fun _ => fun
  | [d1, d2] => { results := [.lit (.bool false)], args := [d1, d2] }
  | _ => none }
def MeanChecksWrongFalsely : Prop := meanChecksRow.holds Tryz.pinned (OpenSpec.ofChange meanChecksWrong)

/-- 'hearthlaw06.MeanTurns': WHATEVER THE INPUT: true; the input reads as it did. -/
def meanTurnsSpec : ChangeSpec := { name := "meanTurns", fn := fun _ => fun
  | [d1, d2, d3] => { results := [.lit (.bool true)], args := [d1, d2, d3] }
  | _ => none }
def meanTurnsRow : OpenClaim := { program := "ytdddliieplcejaagreat", sum := "4f78a42e83dc463f605695fd241cbb74d3562da0ce616620aa98d82a23a0ec47", func := "hearth/hearthlaw06.MeanTurns", spec := "meanTurns", unfollowed := true, recurses := true, loops := true, apart := false }
def MeanTurnsSaid : Prop := meanTurnsRow.holds Tryz.pinned (OpenSpec.ofChange meanTurnsSpec)

/-- ITS FALSE NEIGHBOUR: 'it returns false'. Refute it at one input. -/
def meanTurnsWrong : ChangeSpec := { name := "meanTurns", fn := fun _ => fun
  | [d1, d2, d3] => { results := [.lit (.bool false)], args := [d1, d2, d3] }
  | _ => none }
def MeanTurnsWrongFalsely : Prop := meanTurnsRow.holds Tryz.pinned (OpenSpec.ofChange meanTurnsWrong)

/-- 'hearthlaw06.MeanParts': WHATEVER THE INPUT: true; the input reads as it did. -/
def meanPartsSpec : ChangeSpec := { name := "meanParts", fn := fun _ => fun
  | [d1, d2, d3, d4] => { results := [.lit (.bool true)], args := [d1, d2, d3, d4] }
  | _ => none }
def meanPartsRow : OpenClaim := { program := "ytdddliieplcejaagreat", sum := "4f78a42e83dc463f605695fd241cbb74d3562da0ce616620aa98d82a23a0ec47", func := "hearth/hearthlaw06.MeanParts", spec := "meanParts", unfollowed := true, recurses := true, loops := true, apart := false }
def MeanPartsSaid : Prop := meanPartsRow.holds Tryz.pinned (OpenSpec.ofChange meanPartsSpec)

/-- ITS FALSE NEIGHBOUR: 'it returns false'. Refute it at one input. -/
def meanPartsWrong : ChangeSpec := { name := "meanParts", fn := fun _ => fun
  | [d1, d2, d3, d4] => { results := [.lit (.bool false)], args := [d1, d2, d3, d4] }
  | _ => none }
def MeanPartsWrongFalsely : Prop := meanPartsRow.holds Tryz.pinned (OpenSpec.ofChange meanPartsWrong)

/-- 'hearthlaw06.MeanSteps': WHATEVER THE INPUT: true; the input reads as it did. -/
def meanStepsSpec : ChangeSpec := { name := "meanSteps", fn := fun _ => fun
  | [d1, d2, d3] => { results := [.lit (.bool true)], args := [d1, d2, d3] }
  | _ => none }
def meanStepsRow : OpenClaim := { program := "ytdddliieplcejaagreat", sum := "4f78a42e83dc463f605695fd241cbb74d3562da0ce616620aa98d82a23a0ec47", func := "hearth/hearthlaw06.MeanSteps", spec := "meanSteps", unfollowed := true, recurses := true, loops := true, apart := false }
def MeanStepsSaid : Prop := meanStepsRow.holds Tryz.pinned (OpenSpec.ofChange meanStepsSpec)

/-- ITS FALSE NEIGHBOUR: 'it returns false'. Refute it at one input. -/
def meanStepsWrong : ChangeSpec := { name := "meanSteps", fn := fun _ => fun
  | [d1, d2, d3] => { results := [.lit (.bool false)], args := [d1, d2, d3] }
  | _ => none }
def MeanStepsWrongFalsely : Prop := meanStepsRow.holds Tryz.pinned (OpenSpec.ofChange meanStepsWrong)

/-- 'hearthlaw06.MeanAlikes': WHATEVER THE INPUT: true; the input reads as it did. -/
def meanAlikesSpec : ChangeSpec := { name := "meanAlikes", fn := fun _ => fun
  | [d1, d2, d3] => { results := [.lit (.bool true)], args := [d1, d2, d3] }
  | _ => none }
def meanAlikesRow : OpenClaim := { program := "ytdddliieplcejaagreat", sum := "4f78a42e83dc463f605695fd241cbb74d3562da0ce616620aa98d82a23a0ec47", func := "hearth/hearthlaw06.MeanAlikes", spec := "meanAlikes", unfollowed := true, recurses := true, loops := true, apart := false }
def MeanAlikesSaid : Prop := meanAlikesRow.holds Tryz.pinned (OpenSpec.ofChange meanAlikesSpec)

/-- ITS FALSE NEIGHBOUR: 'it returns false'. Refute it at one input. -/
def meanAlikesWrong : ChangeSpec := { name := "meanAlikes", fn := fun _ => fun
  | [d1, d2, d3] => { results := [.lit (.bool false)], args := [d1, d2, d3] }
  | _ => none }
def MeanAlikesWrongFalsely : Prop := meanAlikesRow.holds Tryz.pinned (OpenSpec.ofChange meanAlikesWrong)

/-- 'hearthlaw06.MeanSame': WHATEVER THE INPUT: true; the input reads as it did. -/
def meanSameSpec : ChangeSpec := { name := "meanSame", fn := fun _ => fun
  | [d1, d2, d3] => { results := [.lit (.bool true)], args := [d1, d2, d3] }
  | _ => none }
def meanSameRow : OpenClaim := { program := "ytdddliieplcejaagreat", sum := "4f78a42e83dc463f605695fd241cbb74d3562da0ce616620aa98d82a23a0ec47", func := "hearth/hearthlaw06.MeanSame", spec := "meanSame", unfollowed := true, recurses := true, loops := true, apart := false }
def MeanSameSaid : Prop := meanSameRow.holds Tryz.pinned (OpenSpec.ofChange meanSameSpec)

/-- ITS FALSE NEIGHBOUR: 'it returns false'. Refute it at one input. -/
def meanSameWrong : ChangeSpec := { name := "meanSame", fn := fun _ => fun
  | [d1, d2, d3] => { results := [.lit (.bool false)], args := [d1, d2, d3] }
  | _ => none }
def MeanSameWrongFalsely : Prop := meanSameRow.holds Tryz.pinned (OpenSpec.ofChange meanSameWrong)

/- THE SECOND FORM. 'bulk': how many values and letters a reading holds, each counted each time it is reached (what is shared counts as often as it is met; a slice's spare places count too). A statement '..UptoSaid' is the law's where the arguments, and the package variables that the reading takes, are together of bulk at most 1048576: NARROWER than '..Said'. Prove '..Said' where nothing that the law and all that it calls make is longer than what came in: it says more and counts as full. Else prove '..UptoSaid'. A law counts once. -/
mutual
def uptoBulk {H : Type} : DataW H → Nat
  | .lit (.string bytes) => bytes.length + 1
  | .lit _ => 1
  | .nil => 1
  | .ptr d => uptoBulk d + 1
  | .slice elems spare => uptoBulkAll elems + uptoBulkAll spare + 1
  | .agg parts => uptoBulkAll parts + 1
  | .iface _ d => uptoBulk d + 1
  | .map entries => uptoBulkEntries entries + 1
  | .held _ => 1
def uptoBulkAll {H : Type} : List (DataW H) → Nat
  | [] => 0
  | d :: r => uptoBulk d + uptoBulkAll r
def uptoBulkEntries {H : Type} : List (Lit × DataW H) → Nat
  | [] => 0
  | x :: r => uptoBulkEntry x + uptoBulkEntries r
def uptoBulkEntry {H : Type} : Lit × DataW H → Nat
  | (.string bytes, d) => bytes.length + uptoBulk d + 1
  | (_, d) => uptoBulk d + 1
 end
def uptoSmall : (H : Type) → List (DataW H) → Bool := fun _ ds => decide (uptoBulkAll ds ≤ 1048576)
def OpenSpec.upto (s : _root_.Go.ChangeSpec) : _root_.Go.OpenSpec := { _root_.Go.OpenSpec.ofChange s with cond := some uptoSmall }

/-- 'hearthlaw06.MeanStarts', WHERE WHAT IT READS IS OF BULK AT MOST 1048576: true; the input reads as it did. -/
def meanStartsUptoRow : OpenClaim := { program := "ytdddliieplcejaagreat", sum := "4f78a42e83dc463f605695fd241cbb74d3562da0ce616620aa98d82a23a0ec47", func := "hearth/hearthlaw06.MeanStarts", spec := "meanStarts", unfollowed := true, recurses := true, loops := true, apart := false, narrowed := true }
def MeanStartsUptoSaid : Prop := meanStartsUptoRow.holds Tryz.pinned (OpenSpec.upto meanStartsSpec)

/-- 'hearthlaw06.MeanPlays', WHERE WHAT IT READS IS OF BULK AT MOST 1048576: true; the input reads as it did. -/
def meanPlaysUptoRow : OpenClaim := { program := "ytdddliieplcejaagreat", sum := "4f78a42e83dc463f605695fd241cbb74d3562da0ce616620aa98d82a23a0ec47", func := "hearth/hearthlaw06.MeanPlays", spec := "meanPlays", unfollowed := true, recurses := true, loops := true, apart := false, narrowed := true }
def MeanPlaysUptoSaid : Prop := meanPlaysUptoRow.holds Tryz.pinned (OpenSpec.upto meanPlaysSpec)

/-- 'hearthlaw06.MeanGrows', WHERE WHAT IT READS IS OF BULK AT MOST 1048576: true; the input reads as it did. -/
def meanGrowsUptoRow : OpenClaim := { program := "ytdddliieplcejaagreat", sum := "4f78a42e83dc463f605695fd241cbb74d3562da0ce616620aa98d82a23a0ec47", func := "hearth/hearthlaw06.MeanGrows", spec := "meanGrows", unfollowed := true, recurses := true, loops := true, apart := false, narrowed := true }
def MeanGrowsUptoSaid : Prop := meanGrowsUptoRow.holds Tryz.pinned (OpenSpec.upto meanGrowsSpec)

/-- 'hearthlaw06.MeanChecks', WHERE WHAT IT READS IS OF BULK AT MOST 1048576: true; the input reads as it did. -/
def meanChecksUptoRow : OpenClaim := { program := "ytdddliieplcejaagreat", sum := "4f78a42e83dc463f605695fd241cbb74d3562da0ce616620aa98d82a23a0ec47", func := "hearth/hearthlaw06.MeanChecks", spec := "meanChecks", unfollowed := true, recurses := true, loops := true, apart := false, narrowed := true }
def MeanChecksUptoSaid : Prop := meanChecksUptoRow.holds Tryz.pinned (OpenSpec.upto meanChecksSpec)

/-- 'hearthlaw06.MeanTurns', WHERE WHAT IT READS IS OF BULK AT MOST 1048576: true; the input reads as it did. -/
def meanTurnsUptoRow : OpenClaim := { program := "ytdddliieplcejaagreat", sum := "4f78a42e83dc463f605695fd241cbb74d3562da0ce616620aa98d82a23a0ec47", func := "hearth/hearthlaw06.MeanTurns", spec := "meanTurns", unfollowed := true, recurses := true, loops := true, apart := false, narrowed := true }
def MeanTurnsUptoSaid : Prop := meanTurnsUptoRow.holds Tryz.pinned (OpenSpec.upto meanTurnsSpec)

/-- 'hearthlaw06.MeanParts', WHERE WHAT IT READS IS OF BULK AT MOST 1048576: true; the input reads as it did. -/
def meanPartsUptoRow : OpenClaim := { program := "ytdddliieplcejaagreat", sum := "4f78a42e83dc463f605695fd241cbb74d3562da0ce616620aa98d82a23a0ec47", func := "hearth/hearthlaw06.MeanParts", spec := "meanParts", unfollowed := true, recurses := true, loops := true, apart := false, narrowed := true }
def MeanPartsUptoSaid : Prop := meanPartsUptoRow.holds Tryz.pinned (OpenSpec.upto meanPartsSpec)

/-- 'hearthlaw06.MeanSteps', WHERE WHAT IT READS IS OF BULK AT MOST 1048576: true; the input reads as it did. -/
def meanStepsUptoRow : OpenClaim := { program := "ytdddliieplcejaagreat", sum := "4f78a42e83dc463f605695fd241cbb74d3562da0ce616620aa98d82a23a0ec47", func := "hearth/hearthlaw06.MeanSteps", spec := "meanSteps", unfollowed := true, recurses := true, loops := true, apart := false, narrowed := true }
def MeanStepsUptoSaid : Prop := meanStepsUptoRow.holds Tryz.pinned (OpenSpec.upto meanStepsSpec)

/-- 'hearthlaw06.MeanAlikes', WHERE WHAT IT READS IS OF BULK AT MOST 1048576: true; the input reads as it did. -/
def meanAlikesUptoRow : OpenClaim := { program := "ytdddliieplcejaagreat", sum := "4f78a42e83dc463f605695fd241cbb74d3562da0ce616620aa98d82a23a0ec47", func := "hearth/hearthlaw06.MeanAlikes", spec := "meanAlikes", unfollowed := true, recurses := true, loops := true, apart := false, narrowed := true }
def MeanAlikesUptoSaid : Prop := meanAlikesUptoRow.holds Tryz.pinned (OpenSpec.upto meanAlikesSpec)

/-- 'hearthlaw06.MeanSame', WHERE WHAT IT READS IS OF BULK AT MOST 1048576: true; the input reads as it did. -/
def meanSameUptoRow : OpenClaim := { program := "ytdddliieplcejaagreat", sum := "4f78a42e83dc463f605695fd241cbb74d3562da0ce616620aa98d82a23a0ec47", func := "hearth/hearthlaw06.MeanSame", spec := "meanSame", unfollowed := true, recurses := true, loops := true, apart := false, narrowed := true }
def MeanSameUptoSaid : Prop := meanSameUptoRow.holds Tryz.pinned (OpenSpec.upto meanSameSpec)

end Rows
end Go.Proofs.YtdddliieplcejaaGreat
