/-
  No cell of these rows narrows 'for every input' (looked for: loops, veiled, ifaces, maps, wideKeys, modest, calm, conditions, laid).
  DERIVED. THE GIVEN ROWS OF THIS SEAT. 12 by the template 'for every input the law returns true; each argument reads behind the call as it read before'; 0 by the template 'total and deterministic' (their statements: YtdjbimallgbioaaTotals.lean).
  GIVEN WITH THE SEED: the statements are not yours to turn. If you find one false, say at which input.
  Laid BY PROGRAM, IN A SANDBOX (cutbox-rows.mjs): the forced cells as the released guide's own fill.sh prints them over the translation c4fc8c5a839d45e5… (all of the seat's roots in one cut). By AI agents, Wed Nov 11 2026. No macro, syntax, notation, axiom, sorry.
-/
import Derived.Test.YtdjbimallgbioaaChecked
import GoSem.Claim
import GoSem.ClaimJoined
import GoSem.ClaimMapViews
import Derived.JoinedTies
import Derived.KernelRfl
namespace Go.Proofs.Ytdjbimallgbioaa
/- THE CELL 'sum', in the pinned program and in every row, IS THE sha256 OF THE DUMP (.gsa) THAT YtdjbimallgbioaaProg.lean LOADS. Nothing in Lean hashes anything: it is a label: what it is worth is what the hold of that sum in a sandbox is worth. -/
noncomputable def Try.pinned : Pinned := { name := "ytdjbimallgbioaa", sum := "c4fc8c5a839d45e5238afd6f348ed3268c5d129255963ef844cb74481b4401c7", checked := Try.checked }
namespace Rows
def none {H : Type} : Left H := { results := [], args := [] }

/-- 'laws.FnExactIsBeginning': WHATEVER THE INPUT: true; the input reads as it did. -/
def fnExactIsBeginningSpec : ChangeSpec := { name := "fnExactIsBeginning", fn := fun _ => fun
  | [d1, d2] => { results := [.lit (.bool true)], args := [d1, d2] }
  | _ => none }
def fnExactIsBeginningRow : OpenClaim := { program := "ytdjbimallgbioaa", sum := "c4fc8c5a839d45e5238afd6f348ed3268c5d129255963ef844cb74481b4401c7", func := "loop.example/g01286/laws.FnExactIsBeginning", spec := "fnExactIsBeginning", apart := false }
def FnExactIsBeginningSaid : Prop := fnExactIsBeginningRow.holds Try.pinned (OpenSpec.ofChange fnExactIsBeginningSpec)

/-- ITS FALSE NEIGHBOUR: 'it returns false'. Refute it at one input. -/
def fnExactIsBeginningWrong : ChangeSpec := { name := "fnExactIsBeginning", fn := fun _ => fun
  | [d1, d2] => { results := [.lit (.bool false)], args := [d1, d2] }
  | _ => none }
def FnExactIsBeginningWrongFalsely : Prop := fnExactIsBeginningRow.holds Try.pinned (OpenSpec.ofChange fnExactIsBeginningWrong)

/-- 'laws.FnExactNextSigns': WHATEVER THE INPUT: true; the input reads as it did. -/
def fnExactNextSignsSpec : ChangeSpec := { name := "fnExactNextSigns", fn := fun _ => fun
  | [d1, d2] => { results := [.lit (.bool true)], args := [d1, d2] }
  | _ => none }
def fnExactNextSignsRow : OpenClaim := { program := "ytdjbimallgbioaa", sum := "c4fc8c5a839d45e5238afd6f348ed3268c5d129255963ef844cb74481b4401c7", func := "loop.example/g01286/laws.FnExactNextSigns", spec := "fnExactNextSigns", apart := false }
def FnExactNextSignsSaid : Prop := fnExactNextSignsRow.holds Try.pinned (OpenSpec.ofChange fnExactNextSignsSpec)

/-- ITS FALSE NEIGHBOUR: 'it returns false'. Refute it at one input. -/
def fnExactNextSignsWrong : ChangeSpec := { name := "fnExactNextSigns", fn := fun _ => fun
  | [d1, d2] => { results := [.lit (.bool false)], args := [d1, d2] }
  | _ => none }
def FnExactNextSignsWrongFalsely : Prop := fnExactNextSignsRow.holds Try.pinned (OpenSpec.ofChange fnExactNextSignsWrong)

/-- 'laws.FnExactMostWithin': WHATEVER THE INPUT: true; the input reads as it did. -/
def fnExactMostWithinSpec : ChangeSpec := { name := "fnExactMostWithin", fn := fun _ => fun
  | [d1, d2] => { results := [.lit (.bool true)], args := [d1, d2] }
  | _ => none }
def fnExactMostWithinRow : OpenClaim := { program := "ytdjbimallgbioaa", sum := "c4fc8c5a839d45e5238afd6f348ed3268c5d129255963ef844cb74481b4401c7", func := "loop.example/g01286/laws.FnExactMostWithin", spec := "fnExactMostWithin", apart := false }
def FnExactMostWithinSaid : Prop := fnExactMostWithinRow.holds Try.pinned (OpenSpec.ofChange fnExactMostWithinSpec)

/-- ITS FALSE NEIGHBOUR: 'it returns false'. Refute it at one input. -/
def fnExactMostWithinWrong : ChangeSpec := { name := "fnExactMostWithin", fn := fun _ => fun
  | [d1, d2] => { results := [.lit (.bool false)], args := [d1, d2] }
  | _ => none }
def FnExactMostWithinWrongFalsely : Prop := fnExactMostWithinRow.holds Try.pinned (OpenSpec.ofChange fnExactMostWithinWrong)

/-- 'laws.FnExactCountWithin': WHATEVER THE INPUT: true; the input reads as it did. -/
def fnExactCountWithinSpec : ChangeSpec := { name := "fnExactCountWithin", fn := fun _ => fun
  | [d1, d2] => { results := [.lit (.bool true)], args := [d1, d2] }
  | _ => none }
def fnExactCountWithinRow : OpenClaim := { program := "ytdjbimallgbioaa", sum := "c4fc8c5a839d45e5238afd6f348ed3268c5d129255963ef844cb74481b4401c7", func := "loop.example/g01286/laws.FnExactCountWithin", spec := "fnExactCountWithin", unfollowed := true, recurses := true, apart := false }
def FnExactCountWithinSaid : Prop := fnExactCountWithinRow.holds Try.pinned (OpenSpec.ofChange fnExactCountWithinSpec)

/-- ITS FALSE NEIGHBOUR: 'it returns false'. Refute it at one input. -/
def fnExactCountWithinWrong : ChangeSpec := { name := "fnExactCountWithin", fn := fun _ => fun
  | [d1, d2] => { results := [.lit (.bool false)], args := [d1, d2] }
  | _ => none }
def FnExactCountWithinWrongFalsely : Prop := fnExactCountWithinRow.holds Try.pinned (OpenSpec.ofChange fnExactCountWithinWrong)

/-- 'laws.FnExactLimitProfile': WHATEVER THE INPUT: true; the input reads as it did. -/
def fnExactLimitProfileSpec : ChangeSpec := { name := "fnExactLimitProfile", fn := fun _ => fun
  | [d] => { results := [.lit (.bool true)], args := [d] }
  | _ => none }
def fnExactLimitProfileRow : OpenClaim := { program := "ytdjbimallgbioaa", sum := "c4fc8c5a839d45e5238afd6f348ed3268c5d129255963ef844cb74481b4401c7", func := "loop.example/g01286/laws.FnExactLimitProfile", spec := "fnExactLimitProfile", recurses := true, apart := false }
def FnExactLimitProfileSaid : Prop := fnExactLimitProfileRow.holds Try.pinned (OpenSpec.ofChange fnExactLimitProfileSpec)

/-- ITS FALSE NEIGHBOUR: 'it returns false'. Refute it at one input. -/
def fnExactLimitProfileWrong : ChangeSpec := { name := "fnExactLimitProfile", fn := fun _ => fun
  | [d] => { results := [.lit (.bool false)], args := [d] }
  | _ => none }
def FnExactLimitProfileWrongFalsely : Prop := fnExactLimitProfileRow.holds Try.pinned (OpenSpec.ofChange fnExactLimitProfileWrong)

/-- 'laws.FnExactNewYard': WHATEVER THE INPUT: true; the input reads as it did. -/
def fnExactNewYardSpec : ChangeSpec := { name := "fnExactNewYard", fn := fun _ => fun
  | [d] => { results := [.lit (.bool true)], args := [d] }
  | _ => none }
def fnExactNewYardRow : OpenClaim := { program := "ytdjbimallgbioaa", sum := "c4fc8c5a839d45e5238afd6f348ed3268c5d129255963ef844cb74481b4401c7", func := "loop.example/g01286/laws.FnExactNewYard", spec := "fnExactNewYard", apart := false }
def FnExactNewYardSaid : Prop := fnExactNewYardRow.holds Try.pinned (OpenSpec.ofChange fnExactNewYardSpec)

/-- ITS FALSE NEIGHBOUR: 'it returns false'. Refute it at one input. -/
def fnExactNewYardWrong : ChangeSpec := { name := "fnExactNewYard", fn := fun _ => fun
  | [d] => { results := [.lit (.bool false)], args := [d] }
  | _ => none }
def FnExactNewYardWrongFalsely : Prop := fnExactNewYardRow.holds Try.pinned (OpenSpec.ofChange fnExactNewYardWrong)

/-- 'laws.FnExactLimitedWord': WHATEVER THE INPUT: true; the input reads as it did. -/
def fnExactLimitedWordSpec : ChangeSpec := { name := "fnExactLimitedWord", fn := fun _ => fun
  | [d1, d2] => { results := [.lit (.bool true)], args := [d1, d2] }
  | _ => none }
def fnExactLimitedWordRow : OpenClaim := { program := "ytdjbimallgbioaa", sum := "c4fc8c5a839d45e5238afd6f348ed3268c5d129255963ef844cb74481b4401c7", func := "loop.example/g01286/laws.FnExactLimitedWord", spec := "fnExactLimitedWord", unfollowed := true, recurses := true, apart := false }
def FnExactLimitedWordSaid : Prop := fnExactLimitedWordRow.holds Try.pinned (OpenSpec.ofChange fnExactLimitedWordSpec)

/-- ITS FALSE NEIGHBOUR: 'it returns false'. Refute it at one input. -/
def fnExactLimitedWordWrong : ChangeSpec := { name := "fnExactLimitedWord", fn := fun _ => fun
  | [d1, d2] => { results := [.lit (.bool false)], args := [d1, d2] }
  | _ => none }
def FnExactLimitedWordWrongFalsely : Prop := fnExactLimitedWordRow.holds Try.pinned (OpenSpec.ofChange fnExactLimitedWordWrong)

/-- 'laws.FnExactWithinAt': WHATEVER THE INPUT: true; the input reads as it did. -/
def fnExactWithinAtSpec : ChangeSpec := { name := "fnExactWithinAt", fn := fun _ => fun
  | [d1, d2, d3] => { results := [.lit (.bool true)], args := [d1, d2, d3] }
  | _ => none }
def fnExactWithinAtRow : OpenClaim := { program := "ytdjbimallgbioaa", sum := "c4fc8c5a839d45e5238afd6f348ed3268c5d129255963ef844cb74481b4401c7", func := "loop.example/g01286/laws.FnExactWithinAt", spec := "fnExactWithinAt", unfollowed := true, recurses := true, apart := false }
def FnExactWithinAtSaid : Prop := fnExactWithinAtRow.holds Try.pinned (OpenSpec.ofChange fnExactWithinAtSpec)

/-- ITS FALSE NEIGHBOUR: 'it returns false'. Refute it at one input. -/
def fnExactWithinAtWrong : ChangeSpec := { name := "fnExactWithinAt", fn := fun _ => fun
  | [d1, d2, d3] => { results := [.lit (.bool false)], args := [d1, d2, d3] }
  | _ => none }
def FnExactWithinAtWrongFalsely : Prop := fnExactWithinAtRow.holds Try.pinned (OpenSpec.ofChange fnExactWithinAtWrong)

/-- 'laws.FnExactBubbleOrder': WHATEVER THE INPUT: true; the input reads as it did. -/
def fnExactBubbleOrderSpec : ChangeSpec := { name := "fnExactBubbleOrder", fn := fun _ => fun
  | [d] => { results := [.lit (.bool true)], args := [d] }
  | _ => none }
def fnExactBubbleOrderRow : OpenClaim := { program := "ytdjbimallgbioaa", sum := "c4fc8c5a839d45e5238afd6f348ed3268c5d129255963ef844cb74481b4401c7", func := "loop.example/g01286/laws.FnExactBubbleOrder", spec := "fnExactBubbleOrder", apart := false }
def FnExactBubbleOrderSaid : Prop := fnExactBubbleOrderRow.holds Try.pinned (OpenSpec.ofChange fnExactBubbleOrderSpec)

/-- ITS FALSE NEIGHBOUR: 'it returns false'. Refute it at one input. -/
def fnExactBubbleOrderWrong : ChangeSpec := { name := "fnExactBubbleOrder", fn := fun _ => fun
  | [d] => { results := [.lit (.bool false)], args := [d] }
  | _ => none }
def FnExactBubbleOrderWrongFalsely : Prop := fnExactBubbleOrderRow.holds Try.pinned (OpenSpec.ofChange fnExactBubbleOrderWrong)

/-- 'laws.FnExactCountSortedWithin': WHATEVER THE INPUT: true; the input reads as it did. -/
def fnExactCountSortedWithinSpec : ChangeSpec := { name := "fnExactCountSortedWithin", fn := fun _ => fun
  | [d1, d2] => { results := [.lit (.bool true)], args := [d1, d2] }
  | _ => none }
def fnExactCountSortedWithinRow : OpenClaim := { program := "ytdjbimallgbioaa", sum := "c4fc8c5a839d45e5238afd6f348ed3268c5d129255963ef844cb74481b4401c7", func := "loop.example/g01286/laws.FnExactCountSortedWithin", spec := "fnExactCountSortedWithin", apart := false }
def FnExactCountSortedWithinSaid : Prop := fnExactCountSortedWithinRow.holds Try.pinned (OpenSpec.ofChange fnExactCountSortedWithinSpec)

/-- ITS FALSE NEIGHBOUR: 'it returns false'. Refute it at one input. -/
def fnExactCountSortedWithinWrong : ChangeSpec := { name := "fnExactCountSortedWithin", fn := fun _ => fun
  | [d1, d2] => { results := [.lit (.bool false)], args := [d1, d2] }
  | _ => none }
def FnExactCountSortedWithinWrongFalsely : Prop := fnExactCountSortedWithinRow.holds Try.pinned (OpenSpec.ofChange fnExactCountSortedWithinWrong)

/-- 'laws.FnExactIsYard': WHATEVER THE INPUT: true; the input reads as it did. -/
def fnExactIsYardSpec : ChangeSpec := { name := "fnExactIsYard", fn := fun _ => fun
  | [d] => { results := [.lit (.bool true)], args := [d] }
  | _ => none }
def fnExactIsYardRow : OpenClaim := { program := "ytdjbimallgbioaa", sum := "c4fc8c5a839d45e5238afd6f348ed3268c5d129255963ef844cb74481b4401c7", func := "loop.example/g01286/laws.FnExactIsYard", spec := "fnExactIsYard", unfollowed := true, recurses := true, apart := false }
def FnExactIsYardSaid : Prop := fnExactIsYardRow.holds Try.pinned (OpenSpec.ofChange fnExactIsYardSpec)

/-- ITS FALSE NEIGHBOUR: 'it returns false'. Refute it at one input. -/
def fnExactIsYardWrong : ChangeSpec := { name := "fnExactIsYard", fn := fun _ => fun
  | [d] => { results := [.lit (.bool false)], args := [d] }
  | _ => none }
def FnExactIsYardWrongFalsely : Prop := fnExactIsYardRow.holds Try.pinned (OpenSpec.ofChange fnExactIsYardWrong)

/-- 'laws.FnExactIsValidRecord': WHATEVER THE INPUT: true; the input reads as it did. -/
def fnExactIsValidRecordSpec : ChangeSpec := { name := "fnExactIsValidRecord", fn := fun _ => fun
  | [d] => { results := [.lit (.bool true)], args := [d] }
  | _ => none }
def fnExactIsValidRecordRow : OpenClaim := { program := "ytdjbimallgbioaa", sum := "c4fc8c5a839d45e5238afd6f348ed3268c5d129255963ef844cb74481b4401c7", func := "loop.example/g01286/laws.FnExactIsValidRecord", spec := "fnExactIsValidRecord", inPlace := ["internal/bytealg.IndexByteString", "internal/bytealg.IndexString"], named := ["internal/bytealg.MaxLen"], apart := false }
def FnExactIsValidRecordSaid : Prop := fnExactIsValidRecordRow.holds Try.pinned (OpenSpec.ofChange fnExactIsValidRecordSpec)

/-- ITS FALSE NEIGHBOUR: 'it returns false'. Refute it at one input. -/
def fnExactIsValidRecordWrong : ChangeSpec := { name := "fnExactIsValidRecord", fn := fun _ => fun
  | [d] => { results := [.lit (.bool false)], args := [d] }
  | _ => none }
def FnExactIsValidRecordWrongFalsely : Prop := fnExactIsValidRecordRow.holds Try.pinned (OpenSpec.ofChange fnExactIsValidRecordWrong)

/- THE SECOND FORM. 'bulk': how many values and letters a reading holds, each counted each time it is reached (what is shared counts as often as it is met; a slice's spare places count too). A statement '..UptoSaid' is the law's where the arguments, and the package variables that the reading takes, are together of bulk at most 1048576: NARROWER than '..Said'. Prove '..Said' where nothing that the law and all that it calls make is longer than what came in: it says more and counts as full. Else prove '..UptoSaid'. A law counts once. -/
mutual
def uptoBulk {H : Type} : DataW H → Nat
  | .lit (.string bytes) => bytes.length + 1
  | .lit _ => 1
  | .nil => 1
  | .ptr d => uptoBulk d + 1
  | .slice elems spare => uptoBulkAll elems + uptoBulkAll spare + 1
  | .agg parts => uptoBulkAll parts + 1
  | .iface _ d => uptoBulk d + 1
  | .map entries => uptoBulkEntries entries + 1
  | .held _ => 1
def uptoBulkAll {H : Type} : List (DataW H) → Nat
  | [] => 0
  | d :: r => uptoBulk d + uptoBulkAll r
def uptoBulkEntries {H : Type} : List (Lit × DataW H) → Nat
  | [] => 0
  | x :: r => uptoBulkEntry x + uptoBulkEntries r
def uptoBulkEntry {H : Type} : Lit × DataW H → Nat
  | (.string bytes, d) => bytes.length + uptoBulk d + 1
  | (_, d) => uptoBulk d + 1
 end
def uptoSmall : (H : Type) → List (DataW H) → Bool := fun _ ds => decide (uptoBulkAll ds ≤ 1048576)
def OpenSpec.upto (s : _root_.Go.ChangeSpec) : _root_.Go.OpenSpec := { _root_.Go.OpenSpec.ofChange s with cond := some uptoSmall }

/-- 'laws.FnExactIsBeginning', WHERE WHAT IT READS IS OF BULK AT MOST 1048576: true; the input reads as it did. -/
def fnExactIsBeginningUptoRow : OpenClaim := { program := "ytdjbimallgbioaa", sum := "c4fc8c5a839d45e5238afd6f348ed3268c5d129255963ef844cb74481b4401c7", func := "loop.example/g01286/laws.FnExactIsBeginning", spec := "fnExactIsBeginning", apart := false, narrowed := true }
def FnExactIsBeginningUptoSaid : Prop := fnExactIsBeginningUptoRow.holds Try.pinned (OpenSpec.upto fnExactIsBeginningSpec)

/-- 'laws.FnExactNextSigns', WHERE WHAT IT READS IS OF BULK AT MOST 1048576: true; the input reads as it did. -/
def fnExactNextSignsUptoRow : OpenClaim := { program := "ytdjbimallgbioaa", sum := "c4fc8c5a839d45e5238afd6f348ed3268c5d129255963ef844cb74481b4401c7", func := "loop.example/g01286/laws.FnExactNextSigns", spec := "fnExactNextSigns", apart := false, narrowed := true }
def FnExactNextSignsUptoSaid : Prop := fnExactNextSignsUptoRow.holds Try.pinned (OpenSpec.upto fnExactNextSignsSpec)

/-- 'laws.FnExactMostWithin', WHERE WHAT IT READS IS OF BULK AT MOST 1048576: true; the input reads as it did. -/
def fnExactMostWithinUptoRow : OpenClaim := { program := "ytdjbimallgbioaa", sum := "c4fc8c5a839d45e5238afd6f348ed3268c5d129255963ef844cb74481b4401c7", func := "loop.example/g01286/laws.FnExactMostWithin", spec := "fnExactMostWithin", apart := false, narrowed := true }
def FnExactMostWithinUptoSaid : Prop := fnExactMostWithinUptoRow.holds Try.pinned (OpenSpec.upto fnExactMostWithinSpec)

/-- 'laws.FnExactCountWithin', WHERE WHAT IT READS IS OF BULK AT MOST 1048576: true; the input reads as it did. -/
def fnExactCountWithinUptoRow : OpenClaim := { program := "ytdjbimallgbioaa", sum := "c4fc8c5a839d45e5238afd6f348ed3268c5d129255963ef844cb74481b4401c7", func := "loop.example/g01286/laws.FnExactCountWithin", spec := "fnExactCountWithin", unfollowed := true, recurses := true, apart := false, narrowed := true }
def FnExactCountWithinUptoSaid : Prop := fnExactCountWithinUptoRow.holds Try.pinned (OpenSpec.upto fnExactCountWithinSpec)

/-- 'laws.FnExactLimitProfile', WHERE WHAT IT READS IS OF BULK AT MOST 1048576: true; the input reads as it did. -/
def fnExactLimitProfileUptoRow : OpenClaim := { program := "ytdjbimallgbioaa", sum := "c4fc8c5a839d45e5238afd6f348ed3268c5d129255963ef844cb74481b4401c7", func := "loop.example/g01286/laws.FnExactLimitProfile", spec := "fnExactLimitProfile", recurses := true, apart := false, narrowed := true }
def FnExactLimitProfileUptoSaid : Prop := fnExactLimitProfileUptoRow.holds Try.pinned (OpenSpec.upto fnExactLimitProfileSpec)

/-- 'laws.FnExactNewYard', WHERE WHAT IT READS IS OF BULK AT MOST 1048576: true; the input reads as it did. -/
def fnExactNewYardUptoRow : OpenClaim := { program := "ytdjbimallgbioaa", sum := "c4fc8c5a839d45e5238afd6f348ed3268c5d129255963ef844cb74481b4401c7", func := "loop.example/g01286/laws.FnExactNewYard", spec := "fnExactNewYard", apart := false, narrowed := true }
def FnExactNewYardUptoSaid : Prop := fnExactNewYardUptoRow.holds Try.pinned (OpenSpec.upto fnExactNewYardSpec)

/-- 'laws.FnExactLimitedWord', WHERE WHAT IT READS IS OF BULK AT MOST 1048576: true; the input reads as it did. -/
def fnExactLimitedWordUptoRow : OpenClaim := { program := "ytdjbimallgbioaa", sum := "c4fc8c5a839d45e5238afd6f348ed3268c5d129255963ef844cb74481b4401c7", func := "loop.example/g01286/laws.FnExactLimitedWord", spec := "fnExactLimitedWord", unfollowed := true, recurses := true, apart := false, narrowed := true }
def FnExactLimitedWordUptoSaid : Prop := fnExactLimitedWordUptoRow.holds Try.pinned (OpenSpec.upto fnExactLimitedWordSpec)

/-- 'laws.FnExactWithinAt', WHERE WHAT IT READS IS OF BULK AT MOST 1048576: true; the input reads as it did. -/
def fnExactWithinAtUptoRow : OpenClaim := { program := "ytdjbimallgbioaa", sum := "c4fc8c5a839d45e5238afd6f348ed3268c5d129255963ef844cb74481b4401c7", func := "loop.example/g01286/laws.FnExactWithinAt", spec := "fnExactWithinAt", unfollowed := true, recurses := true, apart := false, narrowed := true }
def FnExactWithinAtUptoSaid : Prop := fnExactWithinAtUptoRow.holds Try.pinned (OpenSpec.upto fnExactWithinAtSpec)

/-- 'laws.FnExactBubbleOrder', WHERE WHAT IT READS IS OF BULK AT MOST 1048576: true; the input reads as it did. -/
def fnExactBubbleOrderUptoRow : OpenClaim := { program := "ytdjbimallgbioaa", sum := "c4fc8c5a839d45e5238afd6f348ed3268c5d129255963ef844cb74481b4401c7", func := "loop.example/g01286/laws.FnExactBubbleOrder", spec := "fnExactBubbleOrder", apart := false, narrowed := true }
def FnExactBubbleOrderUptoSaid : Prop := fnExactBubbleOrderUptoRow.holds Try.pinned (OpenSpec.upto fnExactBubbleOrderSpec)

/-- 'laws.FnExactCountSortedWithin', WHERE WHAT IT READS IS OF BULK AT MOST 1048576: true; the input reads as it did. -/
def fnExactCountSortedWithinUptoRow : OpenClaim := { program := "ytdjbimallgbioaa", sum := "c4fc8c5a839d45e5238afd6f348ed3268c5d129255963ef844cb74481b4401c7", func := "loop.example/g01286/laws.FnExactCountSortedWithin", spec := "fnExactCountSortedWithin", apart := false, narrowed := true }
def FnExactCountSortedWithinUptoSaid : Prop := fnExactCountSortedWithinUptoRow.holds Try.pinned (OpenSpec.upto fnExactCountSortedWithinSpec)

/-- 'laws.FnExactIsYard', WHERE WHAT IT READS IS OF BULK AT MOST 1048576: true; the input reads as it did. -/
def fnExactIsYardUptoRow : OpenClaim := { program := "ytdjbimallgbioaa", sum := "c4fc8c5a839d45e5238afd6f348ed3268c5d129255963ef844cb74481b4401c7", func := "loop.example/g01286/laws.FnExactIsYard", spec := "fnExactIsYard", unfollowed := true, recurses := true, apart := false, narrowed := true }
def FnExactIsYardUptoSaid : Prop := fnExactIsYardUptoRow.holds Try.pinned (OpenSpec.upto fnExactIsYardSpec)

/-- 'laws.FnExactIsValidRecord', WHERE WHAT IT READS IS OF BULK AT MOST 1048576: true; the input reads as it did. -/
def fnExactIsValidRecordUptoRow : OpenClaim := { program := "ytdjbimallgbioaa", sum := "c4fc8c5a839d45e5238afd6f348ed3268c5d129255963ef844cb74481b4401c7", func := "loop.example/g01286/laws.FnExactIsValidRecord", spec := "fnExactIsValidRecord", inPlace := ["internal/bytealg.IndexByteString", "internal/bytealg.IndexString"], named := ["internal/bytealg.MaxLen"], apart := false, narrowed := true }
def FnExactIsValidRecordUptoSaid : Prop := fnExactIsValidRecordUptoRow.holds Try.pinned (OpenSpec.upto fnExactIsValidRecordSpec)

end Rows
end Go.Proofs.Ytdjbimallgbioaa
