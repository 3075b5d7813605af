/-
  No cell of these rows narrows 'for every input' (looked for: loops, veiled, ifaces, maps, wideKeys, modest, calm, conditions, laid).
  DERIVED. THE GIVEN ROWS OF THIS SEAT. 3 by the template 'for every input the law returns true; each argument reads behind the call as it read before'; 0 by the template 'total and deterministic' (their statements: YteccmfcmkghbgaaTotals.lean).
  GIVEN WITH THE SEED: the statements are not yours to turn. If you find one false, say at which input.
  Laid BY PROGRAM, IN A SANDBOX (cutbox-rows.mjs): the forced cells as the released guide's own fill.sh prints them over the translation 100b907fd09056eb… (all of the seat's roots in one cut). By AI agents, Wed Nov 11 2026. No macro, syntax, notation, axiom, sorry.
-/
import Derived.Test.YteccmfcmkghbgaaChecked
import GoSem.Claim
import GoSem.ClaimJoined
import GoSem.ClaimMapViews
import Derived.JoinedTies
import Derived.KernelRfl
namespace Go.Proofs.Yteccmfcmkghbgaa
/- THE CELL 'sum', in the pinned program and in every row, IS THE sha256 OF THE DUMP (.gsa) THAT YteccmfcmkghbgaaProg.lean LOADS. Nothing in Lean hashes anything: it is a label: what it is worth is what the hold of that sum in a sandbox is worth. -/
noncomputable def Try.pinned : Pinned := { name := "yteccmfcmkghbgaa", sum := "100b907fd09056ebc16356c7c232bcd5648e58a023002a57e967a8296980f246", checked := Try.checked }
namespace Rows
def none {H : Type} : Left H := { results := [], args := [] }

/-- 'laws.FnExactMeanRise': WHATEVER THE INPUT: true; the input reads as it did. -/
def fnExactMeanRiseSpec : ChangeSpec := { name := "fnExactMeanRise", fn := fun _ => fun
  | [d] => { results := [.lit (.bool true)], args := [d] }
  | _ => none }
def fnExactMeanRiseRow : OpenClaim := { program := "yteccmfcmkghbgaa", sum := "100b907fd09056ebc16356c7c232bcd5648e58a023002a57e967a8296980f246", func := "loop.example/g01286/laws.FnExactMeanRise", spec := "fnExactMeanRise", unfollowed := true, recurses := true, apart := false }
def FnExactMeanRiseSaid : Prop := fnExactMeanRiseRow.holds Try.pinned (OpenSpec.ofChange fnExactMeanRiseSpec)

/-- ITS FALSE NEIGHBOUR: 'it returns false'. Refute it at one input. -/
def fnExactMeanRiseWrong : ChangeSpec := { name := "fnExactMeanRise", fn := fun _ => fun
  | [d] => { results := [.lit (.bool false)], args := [d] }
  | _ => none }
def FnExactMeanRiseWrongFalsely : Prop := fnExactMeanRiseRow.holds Try.pinned (OpenSpec.ofChange fnExactMeanRiseWrong)

/-- 'laws.FnExactChanceAvoids': WHATEVER THE INPUT: true; the input reads as it did. -/
def fnExactChanceAvoidsSpec : ChangeSpec := { name := "fnExactChanceAvoids", fn := fun _ => fun
  | [d1, d2] => { results := [.lit (.bool true)], args := [d1, d2] }
  | _ => none }
def fnExactChanceAvoidsRow : OpenClaim := { program := "yteccmfcmkghbgaa", sum := "100b907fd09056ebc16356c7c232bcd5648e58a023002a57e967a8296980f246", func := "loop.example/g01286/laws.FnExactChanceAvoids", spec := "fnExactChanceAvoids", unfollowed := true, recurses := true, apart := false }
def FnExactChanceAvoidsSaid : Prop := fnExactChanceAvoidsRow.holds Try.pinned (OpenSpec.ofChange fnExactChanceAvoidsSpec)

/-- ITS FALSE NEIGHBOUR: 'it returns false'. Refute it at one input. -/
def fnExactChanceAvoidsWrong : ChangeSpec := { name := "fnExactChanceAvoids", fn := fun _ => fun
  | [d1, d2] => { results := [.lit (.bool false)], args := [d1, d2] }
  | _ => none }
def FnExactChanceAvoidsWrongFalsely : Prop := fnExactChanceAvoidsRow.holds Try.pinned (OpenSpec.ofChange fnExactChanceAvoidsWrong)

/-- 'laws.FnExactMeanPasses': WHATEVER THE INPUT: true; the input reads as it did. -/
def fnExactMeanPassesSpec : ChangeSpec := { name := "fnExactMeanPasses", fn := fun _ => fun
  | [d] => { results := [.lit (.bool true)], args := [d] }
  | _ => none }
def fnExactMeanPassesRow : OpenClaim := { program := "yteccmfcmkghbgaa", sum := "100b907fd09056ebc16356c7c232bcd5648e58a023002a57e967a8296980f246", func := "loop.example/g01286/laws.FnExactMeanPasses", spec := "fnExactMeanPasses", unfollowed := true, recurses := true, apart := false }
def FnExactMeanPassesSaid : Prop := fnExactMeanPassesRow.holds Try.pinned (OpenSpec.ofChange fnExactMeanPassesSpec)

/-- ITS FALSE NEIGHBOUR: 'it returns false'. Refute it at one input. -/
def fnExactMeanPassesWrong : ChangeSpec := { name := "fnExactMeanPasses", fn := fun _ => fun
  | [d] => { results := [.lit (.bool false)], args := [d] }
  | _ => none }
def FnExactMeanPassesWrongFalsely : Prop := fnExactMeanPassesRow.holds Try.pinned (OpenSpec.ofChange fnExactMeanPassesWrong)

/- THE SECOND FORM. 'bulk': how many values and letters a reading holds, each counted each time it is reached (what is shared counts as often as it is met; a slice's spare places count too). A statement '..UptoSaid' is the law's where the arguments, and the package variables that the reading takes, are together of bulk at most 1048576: NARROWER than '..Said'. Prove '..Said' where nothing that the law and all that it calls make is longer than what came in: it says more and counts as full. Else prove '..UptoSaid'. A law counts once. -/
mutual
def uptoBulk {H : Type} : DataW H → Nat
  | .lit (.string bytes) => bytes.length + 1
  | .lit _ => 1
  | .nil => 1
  | .ptr d => uptoBulk d + 1
  | .slice elems spare => uptoBulkAll elems + uptoBulkAll spare + 1
  | .agg parts => uptoBulkAll parts + 1
  | .iface _ d => uptoBulk d + 1
  | .map entries => uptoBulkEntries entries + 1
  | .held _ => 1
def uptoBulkAll {H : Type} : List (DataW H) → Nat
  | [] => 0
  | d :: r => uptoBulk d + uptoBulkAll r
def uptoBulkEntries {H : Type} : List (Lit × DataW H) → Nat
  | [] => 0
  | x :: r => uptoBulkEntry x + uptoBulkEntries r
def uptoBulkEntry {H : Type} : Lit × DataW H → Nat
  | (.string bytes, d) => bytes.length + uptoBulk d + 1
  | (_, d) => uptoBulk d + 1
 end
def uptoSmall : (H : Type) → List (DataW H) → Bool := fun _ ds => decide (uptoBulkAll ds ≤ 1048576)
def OpenSpec.upto (s : _root_.Go.ChangeSpec) : _root_.Go.OpenSpec := { _root_.Go.OpenSpec.ofChange s with cond := some uptoSmall }

/-- 'laws.FnExactMeanRise', WHERE WHAT IT READS IS OF BULK AT MOST 1048576: true; the input reads as it did. -/
def fnExactMeanRiseUptoRow : OpenClaim := { program := "yteccmfcmkghbgaa", sum := "100b907fd09056ebc16356c7c232bcd5648e58a023002a57e967a8296980f246", func := "loop.example/g01286/laws.FnExactMeanRise", spec := "fnExactMeanRise", unfollowed := true, recurses := true, apart := false, narrowed := true }
def FnExactMeanRiseUptoSaid : Prop := fnExactMeanRiseUptoRow.holds Try.pinned (OpenSpec.upto fnExactMeanRiseSpec)

/-- 'laws.FnExactChanceAvoids', WHERE WHAT IT READS IS OF BULK AT MOST 1048576: true; the input reads as it did. -/
def fnExactChanceAvoidsUptoRow : OpenClaim := { program := "yteccmfcmkghbgaa", sum := "100b907fd09056ebc16356c7c232bcd5648e58a023002a57e967a8296980f246", func := "loop.example/g01286/laws.FnExactChanceAvoids", spec := "fnExactChanceAvoids", unfollowed := true, recurses := true, apart := false, narrowed := true }
def FnExactChanceAvoidsUptoSaid : Prop := fnExactChanceAvoidsUptoRow.holds Try.pinned (OpenSpec.upto fnExactChanceAvoidsSpec)

/-- 'laws.FnExactMeanPasses', WHERE WHAT IT READS IS OF BULK AT MOST 1048576: true; the input reads as it did. -/
def fnExactMeanPassesUptoRow : OpenClaim := { program := "yteccmfcmkghbgaa", sum := "100b907fd09056ebc16356c7c232bcd5648e58a023002a57e967a8296980f246", func := "loop.example/g01286/laws.FnExactMeanPasses", spec := "fnExactMeanPasses", unfollowed := true, recurses := true, apart := false, narrowed := true }
def FnExactMeanPassesUptoSaid : Prop := fnExactMeanPassesUptoRow.holds Try.pinned (OpenSpec.upto fnExactMeanPassesSpec)

end Rows
end Go.Proofs.Yteccmfcmkghbgaa
