/-
  No cell of these rows narrows 'for every input' (looked for: loops, veiled, ifaces, maps, wideKeys, modest, calm, conditions, laid).
  DERIVED. THE GIVEN ROWS OF THIS SEAT. 12 by the template 'for every input the law returns true; each argument reads behind the call as it read before'; 0 by the template 'total and deterministic' (their statements: YtgilgogjffnodaaTotals.lean).
  GIVEN WITH THE SEED: the statements are not yours to turn. If you find one false, say at which input.
  Laid BY PROGRAM, IN A SANDBOX (cutbox-rows.mjs): the forced cells as the released guide's own fill.sh prints them over the translation 0569d5b582d67f0b… (all of the seat's roots in one cut). By AI agents, Wed Nov 11 2026. No macro, syntax, notation, axiom, sorry.
-/
import Derived.Test.YtgilgogjffnodaaChecked
import GoSem.Claim
import GoSem.ClaimJoined
import GoSem.ClaimMapViews
import Derived.JoinedTies
import Derived.KernelRfl
namespace Go.Proofs.Ytgilgogjffnodaa
/- THE CELL 'sum', in the pinned program and in every row, IS THE sha256 OF THE DUMP (.gsa) THAT YtgilgogjffnodaaProg.lean LOADS. Nothing in Lean hashes anything: it is a label: what it is worth is what the hold of that sum in a sandbox is worth. -/
noncomputable def Try.pinned : Pinned := { name := "ytgilgogjffnodaa", sum := "0569d5b582d67f0b6ed6c642efd3e35ea8baec5612308eb486ff45d82d81169b", checked := Try.checked }
namespace Rows
def none {H : Type} : Left H := { results := [], args := [] }

/-- 'laws.FnExactStackAfter': WHATEVER THE INPUT: true; the input reads as it did. -/
def fnExactStackAfterSpec : ChangeSpec := { name := "fnExactStackAfter", fn := fun _ => fun
  | [d1, d2] => { results := [.lit (.bool true)], args := [d1, d2] }
  | _ => none }
def fnExactStackAfterRow : OpenClaim := { program := "ytgilgogjffnodaa", sum := "0569d5b582d67f0b6ed6c642efd3e35ea8baec5612308eb486ff45d82d81169b", func := "loop.example/g01286/laws.FnExactStackAfter", spec := "fnExactStackAfter", apart := false }
def FnExactStackAfterSaid : Prop := fnExactStackAfterRow.holds Try.pinned (OpenSpec.ofChange fnExactStackAfterSpec)

/-- ITS FALSE NEIGHBOUR: 'it returns false'. Refute it at one input. -/
def fnExactStackAfterWrong : ChangeSpec := { name := "fnExactStackAfter", fn := fun _ => fun
  | [d1, d2] => { results := [.lit (.bool false)], args := [d1, d2] }
  | _ => none }
def FnExactStackAfterWrongFalsely : Prop := fnExactStackAfterRow.holds Try.pinned (OpenSpec.ofChange fnExactStackAfterWrong)

/-- 'laws.FnExactScoresOf': WHATEVER THE INPUT: true; the input reads as it did. -/
def fnExactScoresOfSpec : ChangeSpec := { name := "fnExactScoresOf", fn := fun _ => fun
  | [d1, d2] => { results := [.lit (.bool true)], args := [d1, d2] }
  | _ => none }
def fnExactScoresOfRow : OpenClaim := { program := "ytgilgogjffnodaa", sum := "0569d5b582d67f0b6ed6c642efd3e35ea8baec5612308eb486ff45d82d81169b", func := "loop.example/g01286/laws.FnExactScoresOf", spec := "fnExactScoresOf", apart := false }
def FnExactScoresOfSaid : Prop := fnExactScoresOfRow.holds Try.pinned (OpenSpec.ofChange fnExactScoresOfSpec)

/-- ITS FALSE NEIGHBOUR: 'it returns false'. Refute it at one input. -/
def fnExactScoresOfWrong : ChangeSpec := { name := "fnExactScoresOf", fn := fun _ => fun
  | [d1, d2] => { results := [.lit (.bool false)], args := [d1, d2] }
  | _ => none }
def FnExactScoresOfWrongFalsely : Prop := fnExactScoresOfRow.holds Try.pinned (OpenSpec.ofChange fnExactScoresOfWrong)

/-- 'laws.FnExactDuelValue': WHATEVER THE INPUT: true; the input reads as it did. -/
def fnExactDuelValueSpec : ChangeSpec := { name := "fnExactDuelValue", fn := fun _ => fun
  | [d1, d2] => { results := [.lit (.bool true)], args := [d1, d2] }
  | _ => none }
def fnExactDuelValueRow : OpenClaim := { program := "ytgilgogjffnodaa", sum := "0569d5b582d67f0b6ed6c642efd3e35ea8baec5612308eb486ff45d82d81169b", func := "loop.example/g01286/laws.FnExactDuelValue", spec := "fnExactDuelValue", recurses := true, apart := false }
def FnExactDuelValueSaid : Prop := fnExactDuelValueRow.holds Try.pinned (OpenSpec.ofChange fnExactDuelValueSpec)

/-- ITS FALSE NEIGHBOUR: 'it returns false'. Refute it at one input. -/
def fnExactDuelValueWrong : ChangeSpec := { name := "fnExactDuelValue", fn := fun _ => fun
  | [d1, d2] => { results := [.lit (.bool false)], args := [d1, d2] }
  | _ => none }
def FnExactDuelValueWrongFalsely : Prop := fnExactDuelValueRow.holds Try.pinned (OpenSpec.ofChange fnExactDuelValueWrong)

/-- 'laws.FnExactFairStart': WHATEVER THE INPUT: true; the input reads as it did. -/
def fnExactFairStartSpec : ChangeSpec := { name := "fnExactFairStart", fn := fun _ => fun
  | [d] => { results := [.lit (.bool true)], args := [d] }
  | _ => none }
def fnExactFairStartRow : OpenClaim := { program := "ytgilgogjffnodaa", sum := "0569d5b582d67f0b6ed6c642efd3e35ea8baec5612308eb486ff45d82d81169b", func := "loop.example/g01286/laws.FnExactFairStart", spec := "fnExactFairStart", recurses := true, apart := false }
def FnExactFairStartSaid : Prop := fnExactFairStartRow.holds Try.pinned (OpenSpec.ofChange fnExactFairStartSpec)

/-- ITS FALSE NEIGHBOUR: 'it returns false'. Refute it at one input. -/
def fnExactFairStartWrong : ChangeSpec := { name := "fnExactFairStart", fn := fun _ => fun
  | [d] => { results := [.lit (.bool false)], args := [d] }
  | _ => none }
def FnExactFairStartWrongFalsely : Prop := fnExactFairStartRow.holds Try.pinned (OpenSpec.ofChange fnExactFairStartWrong)

/-- 'laws.FnExactWorstSign': WHATEVER THE INPUT: true; the input reads as it did. -/
def fnExactWorstSignSpec : ChangeSpec := { name := "fnExactWorstSign", fn := fun _ => fun
  | [d1, d2] => { results := [.lit (.bool true)], args := [d1, d2] }
  | _ => none }
def fnExactWorstSignRow : OpenClaim := { program := "ytgilgogjffnodaa", sum := "0569d5b582d67f0b6ed6c642efd3e35ea8baec5612308eb486ff45d82d81169b", func := "loop.example/g01286/laws.FnExactWorstSign", spec := "fnExactWorstSign", recurses := true, apart := false }
def FnExactWorstSignSaid : Prop := fnExactWorstSignRow.holds Try.pinned (OpenSpec.ofChange fnExactWorstSignSpec)

/-- ITS FALSE NEIGHBOUR: 'it returns false'. Refute it at one input. -/
def fnExactWorstSignWrong : ChangeSpec := { name := "fnExactWorstSign", fn := fun _ => fun
  | [d1, d2] => { results := [.lit (.bool false)], args := [d1, d2] }
  | _ => none }
def FnExactWorstSignWrongFalsely : Prop := fnExactWorstSignRow.holds Try.pinned (OpenSpec.ofChange fnExactWorstSignWrong)

/-- 'laws.FnExactBestSigns': WHATEVER THE INPUT: true; the input reads as it did. -/
def fnExactBestSignsSpec : ChangeSpec := { name := "fnExactBestSigns", fn := fun _ => fun
  | [d1, d2] => { results := [.lit (.bool true)], args := [d1, d2] }
  | _ => none }
def fnExactBestSignsRow : OpenClaim := { program := "ytgilgogjffnodaa", sum := "0569d5b582d67f0b6ed6c642efd3e35ea8baec5612308eb486ff45d82d81169b", func := "loop.example/g01286/laws.FnExactBestSigns", spec := "fnExactBestSigns", recurses := true, apart := false }
def FnExactBestSignsSaid : Prop := fnExactBestSignsRow.holds Try.pinned (OpenSpec.ofChange fnExactBestSignsSpec)

/-- ITS FALSE NEIGHBOUR: 'it returns false'. Refute it at one input. -/
def fnExactBestSignsWrong : ChangeSpec := { name := "fnExactBestSigns", fn := fun _ => fun
  | [d1, d2] => { results := [.lit (.bool false)], args := [d1, d2] }
  | _ => none }
def FnExactBestSignsWrongFalsely : Prop := fnExactBestSignsRow.holds Try.pinned (OpenSpec.ofChange fnExactBestSignsWrong)

/-- 'laws.FnExactCountBestWords': WHATEVER THE INPUT: true; the input reads as it did. -/
def fnExactCountBestWordsSpec : ChangeSpec := { name := "fnExactCountBestWords", fn := fun _ => fun
  | [d1, d2] => { results := [.lit (.bool true)], args := [d1, d2] }
  | _ => none }
def fnExactCountBestWordsRow : OpenClaim := { program := "ytgilgogjffnodaa", sum := "0569d5b582d67f0b6ed6c642efd3e35ea8baec5612308eb486ff45d82d81169b", func := "loop.example/g01286/laws.FnExactCountBestWords", spec := "fnExactCountBestWords", recurses := true, apart := false }
def FnExactCountBestWordsSaid : Prop := fnExactCountBestWordsRow.holds Try.pinned (OpenSpec.ofChange fnExactCountBestWordsSpec)

/-- ITS FALSE NEIGHBOUR: 'it returns false'. Refute it at one input. -/
def fnExactCountBestWordsWrong : ChangeSpec := { name := "fnExactCountBestWords", fn := fun _ => fun
  | [d1, d2] => { results := [.lit (.bool false)], args := [d1, d2] }
  | _ => none }
def FnExactCountBestWordsWrongFalsely : Prop := fnExactCountBestWordsRow.holds Try.pinned (OpenSpec.ofChange fnExactCountBestWordsWrong)

/-- 'laws.FnExactDuelWord': WHATEVER THE INPUT: true; the input reads as it did. -/
def fnExactDuelWordSpec : ChangeSpec := { name := "fnExactDuelWord", fn := fun _ => fun
  | [d1, d2] => { results := [.lit (.bool true)], args := [d1, d2] }
  | _ => none }
def fnExactDuelWordRow : OpenClaim := { program := "ytgilgogjffnodaa", sum := "0569d5b582d67f0b6ed6c642efd3e35ea8baec5612308eb486ff45d82d81169b", func := "loop.example/g01286/laws.FnExactDuelWord", spec := "fnExactDuelWord", recurses := true, apart := false }
def FnExactDuelWordSaid : Prop := fnExactDuelWordRow.holds Try.pinned (OpenSpec.ofChange fnExactDuelWordSpec)

/-- ITS FALSE NEIGHBOUR: 'it returns false'. Refute it at one input. -/
def fnExactDuelWordWrong : ChangeSpec := { name := "fnExactDuelWord", fn := fun _ => fun
  | [d1, d2] => { results := [.lit (.bool false)], args := [d1, d2] }
  | _ => none }
def FnExactDuelWordWrongFalsely : Prop := fnExactDuelWordRow.holds Try.pinned (OpenSpec.ofChange fnExactDuelWordWrong)

/-- 'laws.FnExactLeastDuel': WHATEVER THE INPUT: true; the input reads as it did. -/
def fnExactLeastDuelSpec : ChangeSpec := { name := "fnExactLeastDuel", fn := fun _ => fun
  | [d] => { results := [.lit (.bool true)], args := [d] }
  | _ => none }
def fnExactLeastDuelRow : OpenClaim := { program := "ytgilgogjffnodaa", sum := "0569d5b582d67f0b6ed6c642efd3e35ea8baec5612308eb486ff45d82d81169b", func := "loop.example/g01286/laws.FnExactLeastDuel", spec := "fnExactLeastDuel", unfollowed := true, recurses := true, apart := false }
def FnExactLeastDuelSaid : Prop := fnExactLeastDuelRow.holds Try.pinned (OpenSpec.ofChange fnExactLeastDuelSpec)

/-- ITS FALSE NEIGHBOUR: 'it returns false'. Refute it at one input. -/
def fnExactLeastDuelWrong : ChangeSpec := { name := "fnExactLeastDuel", fn := fun _ => fun
  | [d] => { results := [.lit (.bool false)], args := [d] }
  | _ => none }
def FnExactLeastDuelWrongFalsely : Prop := fnExactLeastDuelRow.holds Try.pinned (OpenSpec.ofChange fnExactLeastDuelWrong)

/-- 'laws.FnExactMostDuel': WHATEVER THE INPUT: true; the input reads as it did. -/
def fnExactMostDuelSpec : ChangeSpec := { name := "fnExactMostDuel", fn := fun _ => fun
  | [d] => { results := [.lit (.bool true)], args := [d] }
  | _ => none }
def fnExactMostDuelRow : OpenClaim := { program := "ytgilgogjffnodaa", sum := "0569d5b582d67f0b6ed6c642efd3e35ea8baec5612308eb486ff45d82d81169b", func := "loop.example/g01286/laws.FnExactMostDuel", spec := "fnExactMostDuel", unfollowed := true, recurses := true, apart := false }
def FnExactMostDuelSaid : Prop := fnExactMostDuelRow.holds Try.pinned (OpenSpec.ofChange fnExactMostDuelSpec)

/-- ITS FALSE NEIGHBOUR: 'it returns false'. Refute it at one input. -/
def fnExactMostDuelWrong : ChangeSpec := { name := "fnExactMostDuel", fn := fun _ => fun
  | [d] => { results := [.lit (.bool false)], args := [d] }
  | _ => none }
def FnExactMostDuelWrongFalsely : Prop := fnExactMostDuelRow.holds Try.pinned (OpenSpec.ofChange fnExactMostDuelWrong)

/-- 'laws.FnDuels': WHATEVER THE INPUT: true; the input reads as it did. -/
def fnDuelsSpec : ChangeSpec := { name := "fnDuels", fn := fun _ => fun
  | [d] => { results := [.lit (.bool true)], args := [d] }
  | _ => none }
def fnDuelsRow : OpenClaim := { program := "ytgilgogjffnodaa", sum := "0569d5b582d67f0b6ed6c642efd3e35ea8baec5612308eb486ff45d82d81169b", func := "loop.example/g01286/laws.FnDuels", spec := "fnDuels", recurses := true, apart := false }
def FnDuelsSaid : Prop := fnDuelsRow.holds Try.pinned (OpenSpec.ofChange fnDuelsSpec)

/-- ITS FALSE NEIGHBOUR: 'it returns false'. Refute it at one input. -/
def fnDuelsWrong : ChangeSpec := { name := "fnDuels", fn := fun _ => fun
  | [d] => { results := [.lit (.bool false)], args := [d] }
  | _ => none }
def FnDuelsWrongFalsely : Prop := fnDuelsRow.holds Try.pinned (OpenSpec.ofChange fnDuelsWrong)

/-- 'laws.FnDuelWords': WHATEVER THE INPUT: true; the input reads as it did. -/
def fnDuelWordsSpec : ChangeSpec := { name := "fnDuelWords", fn := fun _ => fun
  | [d] => { results := [.lit (.bool true)], args := [d] }
  | _ => none }
def fnDuelWordsRow : OpenClaim := { program := "ytgilgogjffnodaa", sum := "0569d5b582d67f0b6ed6c642efd3e35ea8baec5612308eb486ff45d82d81169b", func := "loop.example/g01286/laws.FnDuelWords", spec := "fnDuelWords", unfollowed := true, recurses := true, apart := false }
def FnDuelWordsSaid : Prop := fnDuelWordsRow.holds Try.pinned (OpenSpec.ofChange fnDuelWordsSpec)

/-- ITS FALSE NEIGHBOUR: 'it returns false'. Refute it at one input. -/
def fnDuelWordsWrong : ChangeSpec := { name := "fnDuelWords", fn := fun _ => fun
  | [d] => { results := [.lit (.bool false)], args := [d] }
  | _ => none }
def FnDuelWordsWrongFalsely : Prop := fnDuelWordsRow.holds Try.pinned (OpenSpec.ofChange fnDuelWordsWrong)

/- THE SECOND FORM. 'bulk': how many values and letters a reading holds, each counted each time it is reached (what is shared counts as often as it is met; a slice's spare places count too). A statement '..UptoSaid' is the law's where the arguments, and the package variables that the reading takes, are together of bulk at most 1048576: NARROWER than '..Said'. Prove '..Said' where nothing that the law and all that it calls make is longer than what came in: it says more and counts as full. Else prove '..UptoSaid'. A law counts once. -/
mutual
def uptoBulk {H : Type} : DataW H → Nat
  | .lit (.string bytes) => bytes.length + 1
  | .lit _ => 1
  | .nil => 1
  | .ptr d => uptoBulk d + 1
  | .slice elems spare => uptoBulkAll elems + uptoBulkAll spare + 1
  | .agg parts => uptoBulkAll parts + 1
  | .iface _ d => uptoBulk d + 1
  | .map entries => uptoBulkEntries entries + 1
  | .held _ => 1
def uptoBulkAll {H : Type} : List (DataW H) → Nat
  | [] => 0
  | d :: r => uptoBulk d + uptoBulkAll r
def uptoBulkEntries {H : Type} : List (Lit × DataW H) → Nat
  | [] => 0
  | x :: r => uptoBulkEntry x + uptoBulkEntries r
def uptoBulkEntry {H : Type} : Lit × DataW H → Nat
  | (.string bytes, d) => bytes.length + uptoBulk d + 1
  | (_, d) => uptoBulk d + 1
 end
def uptoSmall : (H : Type) → List (DataW H) → Bool := fun _ ds => decide (uptoBulkAll ds ≤ 1048576)
def OpenSpec.upto (s : _root_.Go.ChangeSpec) : _root_.Go.OpenSpec := { _root_.Go.OpenSpec.ofChange s with cond := some uptoSmall }

/-- 'laws.FnExactStackAfter', WHERE WHAT IT READS IS OF BULK AT MOST 1048576: true; the input reads as it did. -/
def fnExactStackAfterUptoRow : OpenClaim := { program := "ytgilgogjffnodaa", sum := "0569d5b582d67f0b6ed6c642efd3e35ea8baec5612308eb486ff45d82d81169b", func := "loop.example/g01286/laws.FnExactStackAfter", spec := "fnExactStackAfter", apart := false, narrowed := true }
def FnExactStackAfterUptoSaid : Prop := fnExactStackAfterUptoRow.holds Try.pinned (OpenSpec.upto fnExactStackAfterSpec)

/-- 'laws.FnExactScoresOf', WHERE WHAT IT READS IS OF BULK AT MOST 1048576: true; the input reads as it did. -/
def fnExactScoresOfUptoRow : OpenClaim := { program := "ytgilgogjffnodaa", sum := "0569d5b582d67f0b6ed6c642efd3e35ea8baec5612308eb486ff45d82d81169b", func := "loop.example/g01286/laws.FnExactScoresOf", spec := "fnExactScoresOf", apart := false, narrowed := true }
def FnExactScoresOfUptoSaid : Prop := fnExactScoresOfUptoRow.holds Try.pinned (OpenSpec.upto fnExactScoresOfSpec)

/-- 'laws.FnExactDuelValue', WHERE WHAT IT READS IS OF BULK AT MOST 1048576: true; the input reads as it did. -/
def fnExactDuelValueUptoRow : OpenClaim := { program := "ytgilgogjffnodaa", sum := "0569d5b582d67f0b6ed6c642efd3e35ea8baec5612308eb486ff45d82d81169b", func := "loop.example/g01286/laws.FnExactDuelValue", spec := "fnExactDuelValue", recurses := true, apart := false, narrowed := true }
def FnExactDuelValueUptoSaid : Prop := fnExactDuelValueUptoRow.holds Try.pinned (OpenSpec.upto fnExactDuelValueSpec)

/-- 'laws.FnExactFairStart', WHERE WHAT IT READS IS OF BULK AT MOST 1048576: true; the input reads as it did. -/
def fnExactFairStartUptoRow : OpenClaim := { program := "ytgilgogjffnodaa", sum := "0569d5b582d67f0b6ed6c642efd3e35ea8baec5612308eb486ff45d82d81169b", func := "loop.example/g01286/laws.FnExactFairStart", spec := "fnExactFairStart", recurses := true, apart := false, narrowed := true }
def FnExactFairStartUptoSaid : Prop := fnExactFairStartUptoRow.holds Try.pinned (OpenSpec.upto fnExactFairStartSpec)

/-- 'laws.FnExactWorstSign', WHERE WHAT IT READS IS OF BULK AT MOST 1048576: true; the input reads as it did. -/
def fnExactWorstSignUptoRow : OpenClaim := { program := "ytgilgogjffnodaa", sum := "0569d5b582d67f0b6ed6c642efd3e35ea8baec5612308eb486ff45d82d81169b", func := "loop.example/g01286/laws.FnExactWorstSign", spec := "fnExactWorstSign", recurses := true, apart := false, narrowed := true }
def FnExactWorstSignUptoSaid : Prop := fnExactWorstSignUptoRow.holds Try.pinned (OpenSpec.upto fnExactWorstSignSpec)

/-- 'laws.FnExactBestSigns', WHERE WHAT IT READS IS OF BULK AT MOST 1048576: true; the input reads as it did. -/
def fnExactBestSignsUptoRow : OpenClaim := { program := "ytgilgogjffnodaa", sum := "0569d5b582d67f0b6ed6c642efd3e35ea8baec5612308eb486ff45d82d81169b", func := "loop.example/g01286/laws.FnExactBestSigns", spec := "fnExactBestSigns", recurses := true, apart := false, narrowed := true }
def FnExactBestSignsUptoSaid : Prop := fnExactBestSignsUptoRow.holds Try.pinned (OpenSpec.upto fnExactBestSignsSpec)

/-- 'laws.FnExactCountBestWords', WHERE WHAT IT READS IS OF BULK AT MOST 1048576: true; the input reads as it did. -/
def fnExactCountBestWordsUptoRow : OpenClaim := { program := "ytgilgogjffnodaa", sum := "0569d5b582d67f0b6ed6c642efd3e35ea8baec5612308eb486ff45d82d81169b", func := "loop.example/g01286/laws.FnExactCountBestWords", spec := "fnExactCountBestWords", recurses := true, apart := false, narrowed := true }
def FnExactCountBestWordsUptoSaid : Prop := fnExactCountBestWordsUptoRow.holds Try.pinned (OpenSpec.upto fnExactCountBestWordsSpec)

/-- 'laws.FnExactDuelWord', WHERE WHAT IT READS IS OF BULK AT MOST 1048576: true; the input reads as it did. -/
def fnExactDuelWordUptoRow : OpenClaim := { program := "ytgilgogjffnodaa", sum := "0569d5b582d67f0b6ed6c642efd3e35ea8baec5612308eb486ff45d82d81169b", func := "loop.example/g01286/laws.FnExactDuelWord", spec := "fnExactDuelWord", recurses := true, apart := false, narrowed := true }
def FnExactDuelWordUptoSaid : Prop := fnExactDuelWordUptoRow.holds Try.pinned (OpenSpec.upto fnExactDuelWordSpec)

/-- 'laws.FnExactLeastDuel', WHERE WHAT IT READS IS OF BULK AT MOST 1048576: true; the input reads as it did. -/
def fnExactLeastDuelUptoRow : OpenClaim := { program := "ytgilgogjffnodaa", sum := "0569d5b582d67f0b6ed6c642efd3e35ea8baec5612308eb486ff45d82d81169b", func := "loop.example/g01286/laws.FnExactLeastDuel", spec := "fnExactLeastDuel", unfollowed := true, recurses := true, apart := false, narrowed := true }
def FnExactLeastDuelUptoSaid : Prop := fnExactLeastDuelUptoRow.holds Try.pinned (OpenSpec.upto fnExactLeastDuelSpec)

/-- 'laws.FnExactMostDuel', WHERE WHAT IT READS IS OF BULK AT MOST 1048576: true; the input reads as it did. -/
def fnExactMostDuelUptoRow : OpenClaim := { program := "ytgilgogjffnodaa", sum := "0569d5b582d67f0b6ed6c642efd3e35ea8baec5612308eb486ff45d82d81169b", func := "loop.example/g01286/laws.FnExactMostDuel", spec := "fnExactMostDuel", unfollowed := true, recurses := true, apart := false, narrowed := true }
def FnExactMostDuelUptoSaid : Prop := fnExactMostDuelUptoRow.holds Try.pinned (OpenSpec.upto fnExactMostDuelSpec)

/-- 'laws.FnDuels', WHERE WHAT IT READS IS OF BULK AT MOST 1048576: true; the input reads as it did. -/
def fnDuelsUptoRow : OpenClaim := { program := "ytgilgogjffnodaa", sum := "0569d5b582d67f0b6ed6c642efd3e35ea8baec5612308eb486ff45d82d81169b", func := "loop.example/g01286/laws.FnDuels", spec := "fnDuels", recurses := true, apart := false, narrowed := true }
def FnDuelsUptoSaid : Prop := fnDuelsUptoRow.holds Try.pinned (OpenSpec.upto fnDuelsSpec)

/-- 'laws.FnDuelWords', WHERE WHAT IT READS IS OF BULK AT MOST 1048576: true; the input reads as it did. -/
def fnDuelWordsUptoRow : OpenClaim := { program := "ytgilgogjffnodaa", sum := "0569d5b582d67f0b6ed6c642efd3e35ea8baec5612308eb486ff45d82d81169b", func := "loop.example/g01286/laws.FnDuelWords", spec := "fnDuelWords", unfollowed := true, recurses := true, apart := false, narrowed := true }
def FnDuelWordsUptoSaid : Prop := fnDuelWordsUptoRow.holds Try.pinned (OpenSpec.upto fnDuelWordsSpec)

end Rows
end Go.Proofs.Ytgilgogjffnodaa
