/-
  No cell of these rows narrows 'for every input' (looked for: loops, veiled, ifaces, maps, wideKeys, modest, calm, conditions, laid).
  DERIVED. THE GIVEN ROWS OF THIS SEAT. 12 by the template 'for every input the law returns true; each argument reads behind the call as it read before'; 0 by the template 'total and deterministic' (their statements: YtppfobgmbjjdhaaTotals.lean).
  GIVEN WITH THE SEED: the statements are not yours to turn. If you find one false, say at which input.
  Laid BY PROGRAM, IN A SANDBOX (cutbox-rows.mjs): the forced cells as the released guide's own fill.sh prints them over the translation bb4962c27f10507e… (all of the seat's roots in one cut). By AI agents, Wed Nov 11 2026. No macro, syntax, notation, axiom, sorry.
-/
import Derived.Test.YtppfobgmbjjdhaaChecked
import GoSem.Claim
import GoSem.ClaimJoined
import GoSem.ClaimMapViews
import Derived.JoinedTies
import Derived.KernelRfl
namespace Go.Proofs.Ytppfobgmbjjdhaa
/- THE CELL 'sum', in the pinned program and in every row, IS THE sha256 OF THE DUMP (.gsa) THAT YtppfobgmbjjdhaaProg.lean LOADS. Nothing in Lean hashes anything: it is a label: what it is worth is what the hold of that sum in a sandbox is worth. -/
noncomputable def Try.pinned : Pinned := { name := "ytppfobgmbjjdhaa", sum := "bb4962c27f10507ec2dd207e31365dd308cd8f178ba5ad31c38db74544b6e84e", checked := Try.checked }
namespace Rows
def none {H : Type} : Left H := { results := [], args := [] }

/-- 'laws.FnExactLimitedSweep': WHATEVER THE INPUT: true; the input reads as it did. -/
def fnExactLimitedSweepSpec : ChangeSpec := { name := "fnExactLimitedSweep", fn := fun _ => fun
  | [d1, d2] => { results := [.lit (.bool true)], args := [d1, d2] }
  | _ => none }
def fnExactLimitedSweepRow : OpenClaim := { program := "ytppfobgmbjjdhaa", sum := "bb4962c27f10507ec2dd207e31365dd308cd8f178ba5ad31c38db74544b6e84e", func := "loop.example/g01286/laws.FnExactLimitedSweep", spec := "fnExactLimitedSweep", unfollowed := true, recurses := true, apart := false }
def FnExactLimitedSweepSaid : Prop := fnExactLimitedSweepRow.holds Try.pinned (OpenSpec.ofChange fnExactLimitedSweepSpec)

/-- ITS FALSE NEIGHBOUR: 'it returns false'. Refute it at one input. -/
def fnExactLimitedSweepWrong : ChangeSpec := { name := "fnExactLimitedSweep", fn := fun _ => fun
  | [d1, d2] => { results := [.lit (.bool false)], args := [d1, d2] }
  | _ => none }
def FnExactLimitedSweepWrongFalsely : Prop := fnExactLimitedSweepRow.holds Try.pinned (OpenSpec.ofChange fnExactLimitedSweepWrong)

/-- 'laws.FnExactRankWithin': WHATEVER THE INPUT: true; the input reads as it did. -/
def fnExactRankWithinSpec : ChangeSpec := { name := "fnExactRankWithin", fn := fun _ => fun
  | [d1, d2] => { results := [.lit (.bool true)], args := [d1, d2] }
  | _ => none }
def fnExactRankWithinRow : OpenClaim := { program := "ytppfobgmbjjdhaa", sum := "bb4962c27f10507ec2dd207e31365dd308cd8f178ba5ad31c38db74544b6e84e", func := "loop.example/g01286/laws.FnExactRankWithin", spec := "fnExactRankWithin", unfollowed := true, recurses := true, apart := false }
def FnExactRankWithinSaid : Prop := fnExactRankWithinRow.holds Try.pinned (OpenSpec.ofChange fnExactRankWithinSpec)

/-- ITS FALSE NEIGHBOUR: 'it returns false'. Refute it at one input. -/
def fnExactRankWithinWrong : ChangeSpec := { name := "fnExactRankWithin", fn := fun _ => fun
  | [d1, d2] => { results := [.lit (.bool false)], args := [d1, d2] }
  | _ => none }
def FnExactRankWithinWrongFalsely : Prop := fnExactRankWithinRow.holds Try.pinned (OpenSpec.ofChange fnExactRankWithinWrong)

/-- 'laws.FnExactLimitOf': WHATEVER THE INPUT: true; the input reads as it did. -/
def fnExactLimitOfSpec : ChangeSpec := { name := "fnExactLimitOf", fn := fun _ => fun
  | [d] => { results := [.lit (.bool true)], args := [d] }
  | _ => none }
def fnExactLimitOfRow : OpenClaim := { program := "ytppfobgmbjjdhaa", sum := "bb4962c27f10507ec2dd207e31365dd308cd8f178ba5ad31c38db74544b6e84e", func := "loop.example/g01286/laws.FnExactLimitOf", spec := "fnExactLimitOf", apart := false }
def FnExactLimitOfSaid : Prop := fnExactLimitOfRow.holds Try.pinned (OpenSpec.ofChange fnExactLimitOfSpec)

/-- ITS FALSE NEIGHBOUR: 'it returns false'. Refute it at one input. -/
def fnExactLimitOfWrong : ChangeSpec := { name := "fnExactLimitOf", fn := fun _ => fun
  | [d] => { results := [.lit (.bool false)], args := [d] }
  | _ => none }
def FnExactLimitOfWrongFalsely : Prop := fnExactLimitOfRow.holds Try.pinned (OpenSpec.ofChange fnExactLimitOfWrong)

/-- 'laws.FnExactIsSortableWithin': WHATEVER THE INPUT: true; the input reads as it did. -/
def fnExactIsSortableWithinSpec : ChangeSpec := { name := "fnExactIsSortableWithin", fn := fun _ => fun
  | [d1, d2] => { results := [.lit (.bool true)], args := [d1, d2] }
  | _ => none }
def fnExactIsSortableWithinRow : OpenClaim := { program := "ytppfobgmbjjdhaa", sum := "bb4962c27f10507ec2dd207e31365dd308cd8f178ba5ad31c38db74544b6e84e", func := "loop.example/g01286/laws.FnExactIsSortableWithin", spec := "fnExactIsSortableWithin", apart := false }
def FnExactIsSortableWithinSaid : Prop := fnExactIsSortableWithinRow.holds Try.pinned (OpenSpec.ofChange fnExactIsSortableWithinSpec)

/-- ITS FALSE NEIGHBOUR: 'it returns false'. Refute it at one input. -/
def fnExactIsSortableWithinWrong : ChangeSpec := { name := "fnExactIsSortableWithin", fn := fun _ => fun
  | [d1, d2] => { results := [.lit (.bool false)], args := [d1, d2] }
  | _ => none }
def FnExactIsSortableWithinWrongFalsely : Prop := fnExactIsSortableWithinRow.holds Try.pinned (OpenSpec.ofChange fnExactIsSortableWithinWrong)

/-- 'laws.FnExactCountLimitedSweeps': WHATEVER THE INPUT: true; the input reads as it did. -/
def fnExactCountLimitedSweepsSpec : ChangeSpec := { name := "fnExactCountLimitedSweeps", fn := fun _ => fun
  | [d1, d2] => { results := [.lit (.bool true)], args := [d1, d2] }
  | _ => none }
def fnExactCountLimitedSweepsRow : OpenClaim := { program := "ytppfobgmbjjdhaa", sum := "bb4962c27f10507ec2dd207e31365dd308cd8f178ba5ad31c38db74544b6e84e", func := "loop.example/g01286/laws.FnExactCountLimitedSweeps", spec := "fnExactCountLimitedSweeps", unfollowed := true, recurses := true, apart := false }
def FnExactCountLimitedSweepsSaid : Prop := fnExactCountLimitedSweepsRow.holds Try.pinned (OpenSpec.ofChange fnExactCountLimitedSweepsSpec)

/-- ITS FALSE NEIGHBOUR: 'it returns false'. Refute it at one input. -/
def fnExactCountLimitedSweepsWrong : ChangeSpec := { name := "fnExactCountLimitedSweeps", fn := fun _ => fun
  | [d1, d2] => { results := [.lit (.bool false)], args := [d1, d2] }
  | _ => none }
def FnExactCountLimitedSweepsWrongFalsely : Prop := fnExactCountLimitedSweepsRow.holds Try.pinned (OpenSpec.ofChange fnExactCountLimitedSweepsWrong)

/-- 'laws.FnLimitedSweeps': WHATEVER THE INPUT: true; the input reads as it did. -/
def fnLimitedSweepsSpec : ChangeSpec := { name := "fnLimitedSweeps", fn := fun _ => fun
  | [d] => { results := [.lit (.bool true)], args := [d] }
  | _ => none }
def fnLimitedSweepsRow : OpenClaim := { program := "ytppfobgmbjjdhaa", sum := "bb4962c27f10507ec2dd207e31365dd308cd8f178ba5ad31c38db74544b6e84e", func := "loop.example/g01286/laws.FnLimitedSweeps", spec := "fnLimitedSweeps", unfollowed := true, recurses := true, apart := false }
def FnLimitedSweepsSaid : Prop := fnLimitedSweepsRow.holds Try.pinned (OpenSpec.ofChange fnLimitedSweepsSpec)

/-- ITS FALSE NEIGHBOUR: 'it returns false'. Refute it at one input. -/
def fnLimitedSweepsWrong : ChangeSpec := { name := "fnLimitedSweeps", fn := fun _ => fun
  | [d] => { results := [.lit (.bool false)], args := [d] }
  | _ => none }
def FnLimitedSweepsWrongFalsely : Prop := fnLimitedSweepsRow.holds Try.pinned (OpenSpec.ofChange fnLimitedSweepsWrong)

/-- 'laws.FnLimits': WHATEVER THE INPUT: true; the input reads as it did. -/
def fnLimitsSpec : ChangeSpec := { name := "fnLimits", fn := fun _ => fun
  | [d] => { results := [.lit (.bool true)], args := [d] }
  | _ => none }
def fnLimitsRow : OpenClaim := { program := "ytppfobgmbjjdhaa", sum := "bb4962c27f10507ec2dd207e31365dd308cd8f178ba5ad31c38db74544b6e84e", func := "loop.example/g01286/laws.FnLimits", spec := "fnLimits", unfollowed := true, recurses := true, apart := false }
def FnLimitsSaid : Prop := fnLimitsRow.holds Try.pinned (OpenSpec.ofChange fnLimitsSpec)

/-- ITS FALSE NEIGHBOUR: 'it returns false'. Refute it at one input. -/
def fnLimitsWrong : ChangeSpec := { name := "fnLimits", fn := fun _ => fun
  | [d] => { results := [.lit (.bool false)], args := [d] }
  | _ => none }
def FnLimitsWrongFalsely : Prop := fnLimitsRow.holds Try.pinned (OpenSpec.ofChange fnLimitsWrong)

/-- 'laws.FnExactMeanInversions': WHATEVER THE INPUT: true; the input reads as it did. -/
def fnExactMeanInversionsSpec : ChangeSpec := { name := "fnExactMeanInversions", fn := fun _ => fun
  | [d] => { results := [.lit (.bool true)], args := [d] }
  | _ => none }
def fnExactMeanInversionsRow : OpenClaim := { program := "ytppfobgmbjjdhaa", sum := "bb4962c27f10507ec2dd207e31365dd308cd8f178ba5ad31c38db74544b6e84e", func := "loop.example/g01286/laws.FnExactMeanInversions", spec := "fnExactMeanInversions", unfollowed := true, recurses := true, apart := false }
def FnExactMeanInversionsSaid : Prop := fnExactMeanInversionsRow.holds Try.pinned (OpenSpec.ofChange fnExactMeanInversionsSpec)

/-- ITS FALSE NEIGHBOUR: 'it returns false'. Refute it at one input. -/
def fnExactMeanInversionsWrong : ChangeSpec := { name := "fnExactMeanInversions", fn := fun _ => fun
  | [d] => { results := [.lit (.bool false)], args := [d] }
  | _ => none }
def FnExactMeanInversionsWrongFalsely : Prop := fnExactMeanInversionsRow.holds Try.pinned (OpenSpec.ofChange fnExactMeanInversionsWrong)

/-- 'laws.FnExactChanceOutput': WHATEVER THE INPUT: true; the input reads as it did. -/
def fnExactChanceOutputSpec : ChangeSpec := { name := "fnExactChanceOutput", fn := fun _ => fun
  | [d] => { results := [.lit (.bool true)], args := [d] }
  | _ => none }
def fnExactChanceOutputRow : OpenClaim := { program := "ytppfobgmbjjdhaa", sum := "bb4962c27f10507ec2dd207e31365dd308cd8f178ba5ad31c38db74544b6e84e", func := "loop.example/g01286/laws.FnExactChanceOutput", spec := "fnExactChanceOutput", unfollowed := true, recurses := true, apart := false }
def FnExactChanceOutputSaid : Prop := fnExactChanceOutputRow.holds Try.pinned (OpenSpec.ofChange fnExactChanceOutputSpec)

/-- ITS FALSE NEIGHBOUR: 'it returns false'. Refute it at one input. -/
def fnExactChanceOutputWrong : ChangeSpec := { name := "fnExactChanceOutput", fn := fun _ => fun
  | [d] => { results := [.lit (.bool false)], args := [d] }
  | _ => none }
def FnExactChanceOutputWrongFalsely : Prop := fnExactChanceOutputRow.holds Try.pinned (OpenSpec.ofChange fnExactChanceOutputWrong)

/-- 'laws.FnExactChanceSorts': WHATEVER THE INPUT: true; the input reads as it did. -/
def fnExactChanceSortsSpec : ChangeSpec := { name := "fnExactChanceSorts", fn := fun _ => fun
  | [d] => { results := [.lit (.bool true)], args := [d] }
  | _ => none }
def fnExactChanceSortsRow : OpenClaim := { program := "ytppfobgmbjjdhaa", sum := "bb4962c27f10507ec2dd207e31365dd308cd8f178ba5ad31c38db74544b6e84e", func := "loop.example/g01286/laws.FnExactChanceSorts", spec := "fnExactChanceSorts", unfollowed := true, recurses := true, apart := false }
def FnExactChanceSortsSaid : Prop := fnExactChanceSortsRow.holds Try.pinned (OpenSpec.ofChange fnExactChanceSortsSpec)

/-- ITS FALSE NEIGHBOUR: 'it returns false'. Refute it at one input. -/
def fnExactChanceSortsWrong : ChangeSpec := { name := "fnExactChanceSorts", fn := fun _ => fun
  | [d] => { results := [.lit (.bool false)], args := [d] }
  | _ => none }
def FnExactChanceSortsWrongFalsely : Prop := fnExactChanceSortsRow.holds Try.pinned (OpenSpec.ofChange fnExactChanceSortsWrong)

/-- 'laws.FnExactMeanConflicts': WHATEVER THE INPUT: true; the input reads as it did. -/
def fnExactMeanConflictsSpec : ChangeSpec := { name := "fnExactMeanConflicts", fn := fun _ => fun
  | [d] => { results := [.lit (.bool true)], args := [d] }
  | _ => none }
def fnExactMeanConflictsRow : OpenClaim := { program := "ytppfobgmbjjdhaa", sum := "bb4962c27f10507ec2dd207e31365dd308cd8f178ba5ad31c38db74544b6e84e", func := "loop.example/g01286/laws.FnExactMeanConflicts", spec := "fnExactMeanConflicts", unfollowed := true, recurses := true, apart := false }
def FnExactMeanConflictsSaid : Prop := fnExactMeanConflictsRow.holds Try.pinned (OpenSpec.ofChange fnExactMeanConflictsSpec)

/-- ITS FALSE NEIGHBOUR: 'it returns false'. Refute it at one input. -/
def fnExactMeanConflictsWrong : ChangeSpec := { name := "fnExactMeanConflicts", fn := fun _ => fun
  | [d] => { results := [.lit (.bool false)], args := [d] }
  | _ => none }
def FnExactMeanConflictsWrongFalsely : Prop := fnExactMeanConflictsRow.holds Try.pinned (OpenSpec.ofChange fnExactMeanConflictsWrong)

/-- 'laws.FnExactMeanRise': WHATEVER THE INPUT: true; the input reads as it did. -/
def fnExactMeanRiseSpec : ChangeSpec := { name := "fnExactMeanRise", fn := fun _ => fun
  | [d] => { results := [.lit (.bool true)], args := [d] }
  | _ => none }
def fnExactMeanRiseRow : OpenClaim := { program := "ytppfobgmbjjdhaa", sum := "bb4962c27f10507ec2dd207e31365dd308cd8f178ba5ad31c38db74544b6e84e", func := "loop.example/g01286/laws.FnExactMeanRise", spec := "fnExactMeanRise", unfollowed := true, recurses := true, apart := false }
def FnExactMeanRiseSaid : Prop := fnExactMeanRiseRow.holds Try.pinned (OpenSpec.ofChange fnExactMeanRiseSpec)

/-- ITS FALSE NEIGHBOUR: 'it returns false'. Refute it at one input. -/
def fnExactMeanRiseWrong : ChangeSpec := { name := "fnExactMeanRise", fn := fun _ => fun
  | [d] => { results := [.lit (.bool false)], args := [d] }
  | _ => none }
def FnExactMeanRiseWrongFalsely : Prop := fnExactMeanRiseRow.holds Try.pinned (OpenSpec.ofChange fnExactMeanRiseWrong)

/- THE SECOND FORM. 'bulk': how many values and letters a reading holds, each counted each time it is reached (what is shared counts as often as it is met; a slice's spare places count too). A statement '..UptoSaid' is the law's where the arguments, and the package variables that the reading takes, are together of bulk at most 1048576: NARROWER than '..Said'. Prove '..Said' where nothing that the law and all that it calls make is longer than what came in: it says more and counts as full. Else prove '..UptoSaid'. A law counts once. -/
mutual
def uptoBulk {H : Type} : DataW H → Nat
  | .lit (.string bytes) => bytes.length + 1
  | .lit _ => 1
  | .nil => 1
  | .ptr d => uptoBulk d + 1
  | .slice elems spare => uptoBulkAll elems + uptoBulkAll spare + 1
  | .agg parts => uptoBulkAll parts + 1
  | .iface _ d => uptoBulk d + 1
  | .map entries => uptoBulkEntries entries + 1
  | .held _ => 1
def uptoBulkAll {H : Type} : List (DataW H) → Nat
  | [] => 0
  | d :: r => uptoBulk d + uptoBulkAll r
def uptoBulkEntries {H : Type} : List (Lit × DataW H) → Nat
  | [] => 0
  | x :: r => uptoBulkEntry x + uptoBulkEntries r
def uptoBulkEntry {H : Type} : Lit × DataW H → Nat
  | (.string bytes, d) => bytes.length + uptoBulk d + 1
  | (_, d) => uptoBulk d + 1
 end
def uptoSmall : (H : Type) → List (DataW H) → Bool := fun _ ds => decide (uptoBulkAll ds ≤ 1048576)
def OpenSpec.upto (s : _root_.Go.ChangeSpec) : _root_.Go.OpenSpec := { _root_.Go.OpenSpec.ofChange s with cond := some uptoSmall }

/-- 'laws.FnExactLimitedSweep', WHERE WHAT IT READS IS OF BULK AT MOST 1048576: true; the input reads as it did. -/
def fnExactLimitedSweepUptoRow : OpenClaim := { program := "ytppfobgmbjjdhaa", sum := "bb4962c27f10507ec2dd207e31365dd308cd8f178ba5ad31c38db74544b6e84e", func := "loop.example/g01286/laws.FnExactLimitedSweep", spec := "fnExactLimitedSweep", unfollowed := true, recurses := true, apart := false, narrowed := true }
def FnExactLimitedSweepUptoSaid : Prop := fnExactLimitedSweepUptoRow.holds Try.pinned (OpenSpec.upto fnExactLimitedSweepSpec)

/-- 'laws.FnExactRankWithin', WHERE WHAT IT READS IS OF BULK AT MOST 1048576: true; the input reads as it did. -/
def fnExactRankWithinUptoRow : OpenClaim := { program := "ytppfobgmbjjdhaa", sum := "bb4962c27f10507ec2dd207e31365dd308cd8f178ba5ad31c38db74544b6e84e", func := "loop.example/g01286/laws.FnExactRankWithin", spec := "fnExactRankWithin", unfollowed := true, recurses := true, apart := false, narrowed := true }
def FnExactRankWithinUptoSaid : Prop := fnExactRankWithinUptoRow.holds Try.pinned (OpenSpec.upto fnExactRankWithinSpec)

/-- 'laws.FnExactLimitOf', WHERE WHAT IT READS IS OF BULK AT MOST 1048576: true; the input reads as it did. -/
def fnExactLimitOfUptoRow : OpenClaim := { program := "ytppfobgmbjjdhaa", sum := "bb4962c27f10507ec2dd207e31365dd308cd8f178ba5ad31c38db74544b6e84e", func := "loop.example/g01286/laws.FnExactLimitOf", spec := "fnExactLimitOf", apart := false, narrowed := true }
def FnExactLimitOfUptoSaid : Prop := fnExactLimitOfUptoRow.holds Try.pinned (OpenSpec.upto fnExactLimitOfSpec)

/-- 'laws.FnExactIsSortableWithin', WHERE WHAT IT READS IS OF BULK AT MOST 1048576: true; the input reads as it did. -/
def fnExactIsSortableWithinUptoRow : OpenClaim := { program := "ytppfobgmbjjdhaa", sum := "bb4962c27f10507ec2dd207e31365dd308cd8f178ba5ad31c38db74544b6e84e", func := "loop.example/g01286/laws.FnExactIsSortableWithin", spec := "fnExactIsSortableWithin", apart := false, narrowed := true }
def FnExactIsSortableWithinUptoSaid : Prop := fnExactIsSortableWithinUptoRow.holds Try.pinned (OpenSpec.upto fnExactIsSortableWithinSpec)

/-- 'laws.FnExactCountLimitedSweeps', WHERE WHAT IT READS IS OF BULK AT MOST 1048576: true; the input reads as it did. -/
def fnExactCountLimitedSweepsUptoRow : OpenClaim := { program := "ytppfobgmbjjdhaa", sum := "bb4962c27f10507ec2dd207e31365dd308cd8f178ba5ad31c38db74544b6e84e", func := "loop.example/g01286/laws.FnExactCountLimitedSweeps", spec := "fnExactCountLimitedSweeps", unfollowed := true, recurses := true, apart := false, narrowed := true }
def FnExactCountLimitedSweepsUptoSaid : Prop := fnExactCountLimitedSweepsUptoRow.holds Try.pinned (OpenSpec.upto fnExactCountLimitedSweepsSpec)

/-- 'laws.FnLimitedSweeps', WHERE WHAT IT READS IS OF BULK AT MOST 1048576: true; the input reads as it did. -/
def fnLimitedSweepsUptoRow : OpenClaim := { program := "ytppfobgmbjjdhaa", sum := "bb4962c27f10507ec2dd207e31365dd308cd8f178ba5ad31c38db74544b6e84e", func := "loop.example/g01286/laws.FnLimitedSweeps", spec := "fnLimitedSweeps", unfollowed := true, recurses := true, apart := false, narrowed := true }
def FnLimitedSweepsUptoSaid : Prop := fnLimitedSweepsUptoRow.holds Try.pinned (OpenSpec.upto fnLimitedSweepsSpec)

/-- 'laws.FnLimits', WHERE WHAT IT READS IS OF BULK AT MOST 1048576: true; the input reads as it did. -/
def fnLimitsUptoRow : OpenClaim := { program := "ytppfobgmbjjdhaa", sum := "bb4962c27f10507ec2dd207e31365dd308cd8f178ba5ad31c38db74544b6e84e", func := "loop.example/g01286/laws.FnLimits", spec := "fnLimits", unfollowed := true, recurses := true, apart := false, narrowed := true }
def FnLimitsUptoSaid : Prop := fnLimitsUptoRow.holds Try.pinned (OpenSpec.upto fnLimitsSpec)

/-- 'laws.FnExactMeanInversions', WHERE WHAT IT READS IS OF BULK AT MOST 1048576: true; the input reads as it did. -/
def fnExactMeanInversionsUptoRow : OpenClaim := { program := "ytppfobgmbjjdhaa", sum := "bb4962c27f10507ec2dd207e31365dd308cd8f178ba5ad31c38db74544b6e84e", func := "loop.example/g01286/laws.FnExactMeanInversions", spec := "fnExactMeanInversions", unfollowed := true, recurses := true, apart := false, narrowed := true }
def FnExactMeanInversionsUptoSaid : Prop := fnExactMeanInversionsUptoRow.holds Try.pinned (OpenSpec.upto fnExactMeanInversionsSpec)

/-- 'laws.FnExactChanceOutput', WHERE WHAT IT READS IS OF BULK AT MOST 1048576: true; the input reads as it did. -/
def fnExactChanceOutputUptoRow : OpenClaim := { program := "ytppfobgmbjjdhaa", sum := "bb4962c27f10507ec2dd207e31365dd308cd8f178ba5ad31c38db74544b6e84e", func := "loop.example/g01286/laws.FnExactChanceOutput", spec := "fnExactChanceOutput", unfollowed := true, recurses := true, apart := false, narrowed := true }
def FnExactChanceOutputUptoSaid : Prop := fnExactChanceOutputUptoRow.holds Try.pinned (OpenSpec.upto fnExactChanceOutputSpec)

/-- 'laws.FnExactChanceSorts', WHERE WHAT IT READS IS OF BULK AT MOST 1048576: true; the input reads as it did. -/
def fnExactChanceSortsUptoRow : OpenClaim := { program := "ytppfobgmbjjdhaa", sum := "bb4962c27f10507ec2dd207e31365dd308cd8f178ba5ad31c38db74544b6e84e", func := "loop.example/g01286/laws.FnExactChanceSorts", spec := "fnExactChanceSorts", unfollowed := true, recurses := true, apart := false, narrowed := true }
def FnExactChanceSortsUptoSaid : Prop := fnExactChanceSortsUptoRow.holds Try.pinned (OpenSpec.upto fnExactChanceSortsSpec)

/-- 'laws.FnExactMeanConflicts', WHERE WHAT IT READS IS OF BULK AT MOST 1048576: true; the input reads as it did. -/
def fnExactMeanConflictsUptoRow : OpenClaim := { program := "ytppfobgmbjjdhaa", sum := "bb4962c27f10507ec2dd207e31365dd308cd8f178ba5ad31c38db74544b6e84e", func := "loop.example/g01286/laws.FnExactMeanConflicts", spec := "fnExactMeanConflicts", unfollowed := true, recurses := true, apart := false, narrowed := true }
def FnExactMeanConflictsUptoSaid : Prop := fnExactMeanConflictsUptoRow.holds Try.pinned (OpenSpec.upto fnExactMeanConflictsSpec)

/-- 'laws.FnExactMeanRise', WHERE WHAT IT READS IS OF BULK AT MOST 1048576: true; the input reads as it did. -/
def fnExactMeanRiseUptoRow : OpenClaim := { program := "ytppfobgmbjjdhaa", sum := "bb4962c27f10507ec2dd207e31365dd308cd8f178ba5ad31c38db74544b6e84e", func := "loop.example/g01286/laws.FnExactMeanRise", spec := "fnExactMeanRise", unfollowed := true, recurses := true, apart := false, narrowed := true }
def FnExactMeanRiseUptoSaid : Prop := fnExactMeanRiseUptoRow.holds Try.pinned (OpenSpec.upto fnExactMeanRiseSpec)

end Rows
end Go.Proofs.Ytppfobgmbjjdhaa
