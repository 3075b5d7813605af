/-
  No cell of these rows narrows 'for every input' (looked for: loops, veiled, ifaces, maps, wideKeys, modest, calm, conditions, laid).
  DERIVED. THE GIVEN ROWS OF THIS SEAT. 4 by the template 'for every input the law returns true; each argument reads behind the call as it read before'; 0 by the template 'total and deterministic' (their statements: YtnoapomobflknaaTotals.lean).
  GIVEN WITH THE SEED: the statements are not yours to turn. If you find one false, say at which input.
  Laid BY PROGRAM, IN A SANDBOX (cutbox-rows.mjs): the forced cells as the released guide's own fill.sh prints them over the translation 3fb6240282395cd5… (all of the seat's roots in one cut). By AI agents, Wed Nov 11 2026. No macro, syntax, notation, axiom, sorry.
-/
import Derived.Test.YtnoapomobflknaaChecked
import GoSem.Claim
import GoSem.ClaimJoined
import GoSem.ClaimMapViews
import Derived.JoinedTies
import Derived.KernelRfl
namespace Go.Proofs.Ytnoapomobflknaa
/- THE CELL 'sum', in the pinned program and in every row, IS THE sha256 OF THE DUMP (.gsa) THAT YtnoapomobflknaaProg.lean LOADS. Nothing in Lean hashes anything: it is a label: what it is worth is what the hold of that sum in a sandbox is worth. -/
noncomputable def Try.pinned : Pinned := { name := "ytnoapomobflknaa", sum := "3fb6240282395cd5697ba0330f6124e16b64f2aa26924817c5bb3723aba8d6b6", checked := Try.checked }
namespace Rows
def none {H : Type} : Left H := { results := [], args := [] }

/-- 'laws.FnDuels': WHATEVER THE INPUT: true; the input reads as it did. -/
def fnDuelsSpec : ChangeSpec := { name := "fnDuels", fn := fun _ => fun
  | [d] => { results := [.lit (.bool true)], args := [d] }
  | _ => none }
def fnDuelsRow : OpenClaim := { program := "ytnoapomobflknaa", sum := "3fb6240282395cd5697ba0330f6124e16b64f2aa26924817c5bb3723aba8d6b6", func := "loop.example/g01286/laws.FnDuels", spec := "fnDuels", recurses := true, apart := false }
def FnDuelsSaid : Prop := fnDuelsRow.holds Try.pinned (OpenSpec.ofChange fnDuelsSpec)

/-- ITS FALSE NEIGHBOUR: 'it returns false'. Refute it at one input. -/
def fnDuelsWrong : ChangeSpec := { name := "fnDuels", fn := fun _ => fun
  | [d] => { results := [.lit (.bool false)], args := [d] }
  | _ => none }
def FnDuelsWrongFalsely : Prop := fnDuelsRow.holds Try.pinned (OpenSpec.ofChange fnDuelsWrong)

/-- 'laws.FnLimitedSweeps': WHATEVER THE INPUT: true; the input reads as it did. -/
def fnLimitedSweepsSpec : ChangeSpec := { name := "fnLimitedSweeps", fn := fun _ => fun
  | [d] => { results := [.lit (.bool true)], args := [d] }
  | _ => none }
def fnLimitedSweepsRow : OpenClaim := { program := "ytnoapomobflknaa", sum := "3fb6240282395cd5697ba0330f6124e16b64f2aa26924817c5bb3723aba8d6b6", func := "loop.example/g01286/laws.FnLimitedSweeps", spec := "fnLimitedSweeps", unfollowed := true, recurses := true, apart := false }
def FnLimitedSweepsSaid : Prop := fnLimitedSweepsRow.holds Try.pinned (OpenSpec.ofChange fnLimitedSweepsSpec)

/-- ITS FALSE NEIGHBOUR: 'it returns false'. Refute it at one input. -/
def fnLimitedSweepsWrong : ChangeSpec := { name := "fnLimitedSweeps", fn := fun _ => fun
  | [d] => { results := [.lit (.bool false)], args := [d] }
  | _ => none }
def FnLimitedSweepsWrongFalsely : Prop := fnLimitedSweepsRow.holds Try.pinned (OpenSpec.ofChange fnLimitedSweepsWrong)

/-- 'laws.FnDuelWords': WHATEVER THE INPUT: true; the input reads as it did. -/
def fnDuelWordsSpec : ChangeSpec := { name := "fnDuelWords", fn := fun _ => fun
  | [d] => { results := [.lit (.bool true)], args := [d] }
  | _ => none }
def fnDuelWordsRow : OpenClaim := { program := "ytnoapomobflknaa", sum := "3fb6240282395cd5697ba0330f6124e16b64f2aa26924817c5bb3723aba8d6b6", func := "loop.example/g01286/laws.FnDuelWords", spec := "fnDuelWords", unfollowed := true, recurses := true, apart := false }
def FnDuelWordsSaid : Prop := fnDuelWordsRow.holds Try.pinned (OpenSpec.ofChange fnDuelWordsSpec)

/-- ITS FALSE NEIGHBOUR: 'it returns false'. Refute it at one input. -/
def fnDuelWordsWrong : ChangeSpec := { name := "fnDuelWords", fn := fun _ => fun
  | [d] => { results := [.lit (.bool false)], args := [d] }
  | _ => none }
def FnDuelWordsWrongFalsely : Prop := fnDuelWordsRow.holds Try.pinned (OpenSpec.ofChange fnDuelWordsWrong)

/-- 'laws.FnLimits': WHATEVER THE INPUT: true; the input reads as it did. -/
def fnLimitsSpec : ChangeSpec := { name := "fnLimits", fn := fun _ => fun
  | [d] => { results := [.lit (.bool true)], args := [d] }
  | _ => none }
def fnLimitsRow : OpenClaim := { program := "ytnoapomobflknaa", sum := "3fb6240282395cd5697ba0330f6124e16b64f2aa26924817c5bb3723aba8d6b6", func := "loop.example/g01286/laws.FnLimits", spec := "fnLimits", unfollowed := true, recurses := true, apart := false }
def FnLimitsSaid : Prop := fnLimitsRow.holds Try.pinned (OpenSpec.ofChange fnLimitsSpec)

/-- ITS FALSE NEIGHBOUR: 'it returns false'. Refute it at one input. -/
def fnLimitsWrong : ChangeSpec := { name := "fnLimits", fn := fun _ => fun
  | [d] => { results := [.lit (.bool false)], args := [d] }
  | _ => none }
def FnLimitsWrongFalsely : Prop := fnLimitsRow.holds Try.pinned (OpenSpec.ofChange fnLimitsWrong)

/- THE SECOND FORM. 'bulk': how many values and letters a reading holds, each counted each time it is reached (what is shared counts as often as it is met; a slice's spare places count too). A statement '..UptoSaid' is the law's where the arguments, and the package variables that the reading takes, are together of bulk at most 1048576: NARROWER than '..Said'. Prove '..Said' where nothing that the law and all that it calls make is longer than what came in: it says more and counts as full. Else prove '..UptoSaid'. A law counts once. -/
mutual
def uptoBulk {H : Type} : DataW H → Nat
  | .lit (.string bytes) => bytes.length + 1
  | .lit _ => 1
  | .nil => 1
  | .ptr d => uptoBulk d + 1
  | .slice elems spare => uptoBulkAll elems + uptoBulkAll spare + 1
  | .agg parts => uptoBulkAll parts + 1
  | .iface _ d => uptoBulk d + 1
  | .map entries => uptoBulkEntries entries + 1
  | .held _ => 1
def uptoBulkAll {H : Type} : List (DataW H) → Nat
  | [] => 0
  | d :: r => uptoBulk d + uptoBulkAll r
def uptoBulkEntries {H : Type} : List (Lit × DataW H) → Nat
  | [] => 0
  | x :: r => uptoBulkEntry x + uptoBulkEntries r
def uptoBulkEntry {H : Type} : Lit × DataW H → Nat
  | (.string bytes, d) => bytes.length + uptoBulk d + 1
  | (_, d) => uptoBulk d + 1
 end
def uptoSmall : (H : Type) → List (DataW H) → Bool := fun _ ds => decide (uptoBulkAll ds ≤ 1048576)
def OpenSpec.upto (s : _root_.Go.ChangeSpec) : _root_.Go.OpenSpec := { _root_.Go.OpenSpec.ofChange s with cond := some uptoSmall }

/-- 'laws.FnDuels', WHERE WHAT IT READS IS OF BULK AT MOST 1048576: true; the input reads as it did. -/
def fnDuelsUptoRow : OpenClaim := { program := "ytnoapomobflknaa", sum := "3fb6240282395cd5697ba0330f6124e16b64f2aa26924817c5bb3723aba8d6b6", func := "loop.example/g01286/laws.FnDuels", spec := "fnDuels", recurses := true, apart := false, narrowed := true }
def FnDuelsUptoSaid : Prop := fnDuelsUptoRow.holds Try.pinned (OpenSpec.upto fnDuelsSpec)

/-- 'laws.FnLimitedSweeps', WHERE WHAT IT READS IS OF BULK AT MOST 1048576: true; the input reads as it did. -/
def fnLimitedSweepsUptoRow : OpenClaim := { program := "ytnoapomobflknaa", sum := "3fb6240282395cd5697ba0330f6124e16b64f2aa26924817c5bb3723aba8d6b6", func := "loop.example/g01286/laws.FnLimitedSweeps", spec := "fnLimitedSweeps", unfollowed := true, recurses := true, apart := false, narrowed := true }
def FnLimitedSweepsUptoSaid : Prop := fnLimitedSweepsUptoRow.holds Try.pinned (OpenSpec.upto fnLimitedSweepsSpec)

/-- 'laws.FnDuelWords', WHERE WHAT IT READS IS OF BULK AT MOST 1048576: true; the input reads as it did. -/
def fnDuelWordsUptoRow : OpenClaim := { program := "ytnoapomobflknaa", sum := "3fb6240282395cd5697ba0330f6124e16b64f2aa26924817c5bb3723aba8d6b6", func := "loop.example/g01286/laws.FnDuelWords", spec := "fnDuelWords", unfollowed := true, recurses := true, apart := false, narrowed := true }
def FnDuelWordsUptoSaid : Prop := fnDuelWordsUptoRow.holds Try.pinned (OpenSpec.upto fnDuelWordsSpec)

/-- 'laws.FnLimits', WHERE WHAT IT READS IS OF BULK AT MOST 1048576: true; the input reads as it did. -/
def fnLimitsUptoRow : OpenClaim := { program := "ytnoapomobflknaa", sum := "3fb6240282395cd5697ba0330f6124e16b64f2aa26924817c5bb3723aba8d6b6", func := "loop.example/g01286/laws.FnLimits", spec := "fnLimits", unfollowed := true, recurses := true, apart := false, narrowed := true }
def FnLimitsUptoSaid : Prop := fnLimitsUptoRow.holds Try.pinned (OpenSpec.upto fnLimitsSpec)

end Rows
end Go.Proofs.Ytnoapomobflknaa
