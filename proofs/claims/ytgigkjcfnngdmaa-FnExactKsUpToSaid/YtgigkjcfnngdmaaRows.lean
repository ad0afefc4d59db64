/-
  No cell of these rows narrows 'for every input' (looked for: loops, veiled, ifaces, maps, wideKeys, modest, calm, conditions, laid).
  DERIVED. THE GIVEN ROWS OF THIS SEAT. 13 by the template 'for every input the law returns true; each argument reads behind the call as it read before'; 0 by the template 'total and deterministic' (their statements: YtgigkjcfnngdmaaTotals.lean).
  GIVEN WITH THE SEED: the statements are not yours to turn. If you find one false, say at which input.
  Laid BY PROGRAM, IN A SANDBOX (cutbox-rows.mjs): the forced cells as the released guide's own fill.sh prints them over the translation 622a0c942a44afad… (all of the seat's roots in one cut). By AI agents, Wed Nov 11 2026. No macro, syntax, notation, axiom, sorry.
-/
import Derived.Test.YtgigkjcfnngdmaaChecked
import GoSem.Claim
import GoSem.ClaimJoined
import GoSem.ClaimMapViews
import Derived.JoinedTies
import Derived.KernelRfl
namespace Go.Proofs.Ytgigkjcfnngdmaa
/- THE CELL 'sum', in the pinned program and in every row, IS THE sha256 OF THE DUMP (.gsa) THAT YtgigkjcfnngdmaaProg.lean LOADS. Nothing in Lean hashes anything: it is a label: what it is worth is what the hold of that sum in a sandbox is worth. -/
noncomputable def Try.pinned : Pinned := { name := "ytgigkjcfnngdmaa", sum := "622a0c942a44afadb89dccdc5fdf0234aa373595b527cde7ad3ebd5ef8f266eb", checked := Try.checked }
namespace Rows
def none {H : Type} : Left H := { results := [], args := [] }

/-- 'laws.FnExactSquareQuotient': WHATEVER THE INPUT: true; the input reads as it did. -/
def fnExactSquareQuotientSpec : ChangeSpec := { name := "fnExactSquareQuotient", fn := fun _ => fun
  | [d1, d2] => { results := [.lit (.bool true)], args := [d1, d2] }
  | _ => none }
def fnExactSquareQuotientRow : OpenClaim := { program := "ytgigkjcfnngdmaa", sum := "622a0c942a44afadb89dccdc5fdf0234aa373595b527cde7ad3ebd5ef8f266eb", func := "loop.example/g01122/laws.FnExactSquareQuotient", spec := "fnExactSquareQuotient", apart := false }
def FnExactSquareQuotientSaid : Prop := fnExactSquareQuotientRow.holds Try.pinned (OpenSpec.ofChange fnExactSquareQuotientSpec)

/-- ITS FALSE NEIGHBOUR: 'it returns false'. Refute it at one input. -/
def fnExactSquareQuotientWrong : ChangeSpec := { name := "fnExactSquareQuotient", fn := fun _ => fun
  | [d1, d2] => { results := [.lit (.bool false)], args := [d1, d2] }
  | _ => none }
def FnExactSquareQuotientWrongFalsely : Prop := fnExactSquareQuotientRow.holds Try.pinned (OpenSpec.ofChange fnExactSquareQuotientWrong)

/-- 'laws.FnExactIsJump': WHATEVER THE INPUT: true; the input reads as it did. -/
def fnExactIsJumpSpec : ChangeSpec := { name := "fnExactIsJump", fn := fun _ => fun
  | [d1, d2, d3, d4] => { results := [.lit (.bool true)], args := [d1, d2, d3, d4] }
  | _ => none }
def fnExactIsJumpRow : OpenClaim := { program := "ytgigkjcfnngdmaa", sum := "622a0c942a44afadb89dccdc5fdf0234aa373595b527cde7ad3ebd5ef8f266eb", func := "loop.example/g01122/laws.FnExactIsJump", spec := "fnExactIsJump", apart := false }
def FnExactIsJumpSaid : Prop := fnExactIsJumpRow.holds Try.pinned (OpenSpec.ofChange fnExactIsJumpSpec)

/-- ITS FALSE NEIGHBOUR: 'it returns false'. Refute it at one input. -/
def fnExactIsJumpWrong : ChangeSpec := { name := "fnExactIsJump", fn := fun _ => fun
  | [d1, d2, d3, d4] => { results := [.lit (.bool false)], args := [d1, d2, d3, d4] }
  | _ => none }
def FnExactIsJumpWrongFalsely : Prop := fnExactIsJumpRow.holds Try.pinned (OpenSpec.ofChange fnExactIsJumpWrong)

/-- 'laws.FnExactKOfPair': WHATEVER THE INPUT: true; the input reads as it did. -/
def fnExactKOfPairSpec : ChangeSpec := { name := "fnExactKOfPair", fn := fun _ => fun
  | [d1, d2, d3] => { results := [.lit (.bool true)], args := [d1, d2, d3] }
  | _ => none }
def fnExactKOfPairRow : OpenClaim := { program := "ytgigkjcfnngdmaa", sum := "622a0c942a44afadb89dccdc5fdf0234aa373595b527cde7ad3ebd5ef8f266eb", func := "loop.example/g01122/laws.FnExactKOfPair", spec := "fnExactKOfPair", apart := false }
def FnExactKOfPairSaid : Prop := fnExactKOfPairRow.holds Try.pinned (OpenSpec.ofChange fnExactKOfPairSpec)

/-- ITS FALSE NEIGHBOUR: 'it returns false'. Refute it at one input. -/
def fnExactKOfPairWrong : ChangeSpec := { name := "fnExactKOfPair", fn := fun _ => fun
  | [d1, d2, d3] => { results := [.lit (.bool false)], args := [d1, d2, d3] }
  | _ => none }
def FnExactKOfPairWrongFalsely : Prop := fnExactKOfPairRow.holds Try.pinned (OpenSpec.ofChange fnExactKOfPairWrong)

/-- 'laws.FnExactJumpUp': WHATEVER THE INPUT: true; the input reads as it did. -/
def fnExactJumpUpSpec : ChangeSpec := { name := "fnExactJumpUp", fn := fun _ => fun
  | [d1, d2, d3, d4] => { results := [.lit (.bool true)], args := [d1, d2, d3, d4] }
  | _ => none }
def fnExactJumpUpRow : OpenClaim := { program := "ytgigkjcfnngdmaa", sum := "622a0c942a44afadb89dccdc5fdf0234aa373595b527cde7ad3ebd5ef8f266eb", func := "loop.example/g01122/laws.FnExactJumpUp", spec := "fnExactJumpUp", apart := false }
def FnExactJumpUpSaid : Prop := fnExactJumpUpRow.holds Try.pinned (OpenSpec.ofChange fnExactJumpUpSpec)

/-- ITS FALSE NEIGHBOUR: 'it returns false'. Refute it at one input. -/
def fnExactJumpUpWrong : ChangeSpec := { name := "fnExactJumpUp", fn := fun _ => fun
  | [d1, d2, d3, d4] => { results := [.lit (.bool false)], args := [d1, d2, d3, d4] }
  | _ => none }
def FnExactJumpUpWrongFalsely : Prop := fnExactJumpUpRow.holds Try.pinned (OpenSpec.ofChange fnExactJumpUpWrong)

/-- 'laws.FnExactJumpDown': WHATEVER THE INPUT: true; the input reads as it did. -/
def fnExactJumpDownSpec : ChangeSpec := { name := "fnExactJumpDown", fn := fun _ => fun
  | [d1, d2, d3, d4] => { results := [.lit (.bool true)], args := [d1, d2, d3, d4] }
  | _ => none }
def fnExactJumpDownRow : OpenClaim := { program := "ytgigkjcfnngdmaa", sum := "622a0c942a44afadb89dccdc5fdf0234aa373595b527cde7ad3ebd5ef8f266eb", func := "loop.example/g01122/laws.FnExactJumpDown", spec := "fnExactJumpDown", apart := false }
def FnExactJumpDownSaid : Prop := fnExactJumpDownRow.holds Try.pinned (OpenSpec.ofChange fnExactJumpDownSpec)

/-- ITS FALSE NEIGHBOUR: 'it returns false'. Refute it at one input. -/
def fnExactJumpDownWrong : ChangeSpec := { name := "fnExactJumpDown", fn := fun _ => fun
  | [d1, d2, d3, d4] => { results := [.lit (.bool false)], args := [d1, d2, d3, d4] }
  | _ => none }
def FnExactJumpDownWrongFalsely : Prop := fnExactJumpDownRow.holds Try.pinned (OpenSpec.ofChange fnExactJumpDownWrong)

/-- 'laws.FnExactLeastPair': WHATEVER THE INPUT: true; the input reads as it did. -/
def fnExactLeastPairSpec : ChangeSpec := { name := "fnExactLeastPair", fn := fun _ => fun
  | [d1, d2, d3, d4] => { results := [.lit (.bool true)], args := [d1, d2, d3, d4] }
  | _ => none }
def fnExactLeastPairRow : OpenClaim := { program := "ytgigkjcfnngdmaa", sum := "622a0c942a44afadb89dccdc5fdf0234aa373595b527cde7ad3ebd5ef8f266eb", func := "loop.example/g01122/laws.FnExactLeastPair", spec := "fnExactLeastPair", apart := false }
def FnExactLeastPairSaid : Prop := fnExactLeastPairRow.holds Try.pinned (OpenSpec.ofChange fnExactLeastPairSpec)

/-- ITS FALSE NEIGHBOUR: 'it returns false'. Refute it at one input. -/
def fnExactLeastPairWrong : ChangeSpec := { name := "fnExactLeastPair", fn := fun _ => fun
  | [d1, d2, d3, d4] => { results := [.lit (.bool false)], args := [d1, d2, d3, d4] }
  | _ => none }
def FnExactLeastPairWrongFalsely : Prop := fnExactLeastPairRow.holds Try.pinned (OpenSpec.ofChange fnExactLeastPairWrong)

/-- 'laws.FnExactJumpMatrix': WHATEVER THE INPUT: true; the input reads as it did. -/
def fnExactJumpMatrixSpec : ChangeSpec := { name := "fnExactJumpMatrix", fn := fun _ => fun
  | [d] => { results := [.lit (.bool true)], args := [d] }
  | _ => none }
def fnExactJumpMatrixRow : OpenClaim := { program := "ytgigkjcfnngdmaa", sum := "622a0c942a44afadb89dccdc5fdf0234aa373595b527cde7ad3ebd5ef8f266eb", func := "loop.example/g01122/laws.FnExactJumpMatrix", spec := "fnExactJumpMatrix", apart := false }
def FnExactJumpMatrixSaid : Prop := fnExactJumpMatrixRow.holds Try.pinned (OpenSpec.ofChange fnExactJumpMatrixSpec)

/-- ITS FALSE NEIGHBOUR: 'it returns false'. Refute it at one input. -/
def fnExactJumpMatrixWrong : ChangeSpec := { name := "fnExactJumpMatrix", fn := fun _ => fun
  | [d] => { results := [.lit (.bool false)], args := [d] }
  | _ => none }
def FnExactJumpMatrixWrongFalsely : Prop := fnExactJumpMatrixRow.holds Try.pinned (OpenSpec.ofChange fnExactJumpMatrixWrong)

/-- 'laws.FnExactQuotientPairs': WHATEVER THE INPUT: true; the input reads as it did. -/
def fnExactQuotientPairsSpec : ChangeSpec := { name := "fnExactQuotientPairs", fn := fun _ => fun
  | [d1, d2] => { results := [.lit (.bool true)], args := [d1, d2] }
  | _ => none }
def fnExactQuotientPairsRow : OpenClaim := { program := "ytgigkjcfnngdmaa", sum := "622a0c942a44afadb89dccdc5fdf0234aa373595b527cde7ad3ebd5ef8f266eb", func := "loop.example/g01122/laws.FnExactQuotientPairs", spec := "fnExactQuotientPairs", apart := false }
def FnExactQuotientPairsSaid : Prop := fnExactQuotientPairsRow.holds Try.pinned (OpenSpec.ofChange fnExactQuotientPairsSpec)

/-- ITS FALSE NEIGHBOUR: 'it returns false'. Refute it at one input. -/
def fnExactQuotientPairsWrong : ChangeSpec := { name := "fnExactQuotientPairs", fn := fun _ => fun
  | [d1, d2] => { results := [.lit (.bool false)], args := [d1, d2] }
  | _ => none }
def FnExactQuotientPairsWrongFalsely : Prop := fnExactQuotientPairsRow.holds Try.pinned (OpenSpec.ofChange fnExactQuotientPairsWrong)

/-- 'laws.FnExactKsUpTo': WHATEVER THE INPUT: true; the input reads as it did. -/
def fnExactKsUpToSpec : ChangeSpec := { name := "fnExactKsUpTo", fn := fun _ => fun
  | [d1, d2] => { results := [.lit (.bool true)], args := [d1, d2] }
  | _ => none }
def fnExactKsUpToRow : OpenClaim := { program := "ytgigkjcfnngdmaa", sum := "622a0c942a44afadb89dccdc5fdf0234aa373595b527cde7ad3ebd5ef8f266eb", func := "loop.example/g01122/laws.FnExactKsUpTo", spec := "fnExactKsUpTo", apart := false }
def FnExactKsUpToSaid : Prop := fnExactKsUpToRow.holds Try.pinned (OpenSpec.ofChange fnExactKsUpToSpec)

/-- ITS FALSE NEIGHBOUR: 'it returns false'. Refute it at one input. -/
def fnExactKsUpToWrong : ChangeSpec := { name := "fnExactKsUpTo", fn := fun _ => fun
  | [d1, d2] => { results := [.lit (.bool false)], args := [d1, d2] }
  | _ => none }
def FnExactKsUpToWrongFalsely : Prop := fnExactKsUpToRow.holds Try.pinned (OpenSpec.ofChange fnExactKsUpToWrong)

/-- 'laws.FnExactAscendPair': WHATEVER THE INPUT: true; the input reads as it did. -/
def fnExactAscendPairSpec : ChangeSpec := { name := "fnExactAscendPair", fn := fun _ => fun
  | [d1, d2, d3, d4, d5] => { results := [.lit (.bool true)], args := [d1, d2, d3, d4, d5] }
  | _ => none }
def fnExactAscendPairRow : OpenClaim := { program := "ytgigkjcfnngdmaa", sum := "622a0c942a44afadb89dccdc5fdf0234aa373595b527cde7ad3ebd5ef8f266eb", func := "loop.example/g01122/laws.FnExactAscendPair", spec := "fnExactAscendPair", apart := false }
def FnExactAscendPairSaid : Prop := fnExactAscendPairRow.holds Try.pinned (OpenSpec.ofChange fnExactAscendPairSpec)

/-- ITS FALSE NEIGHBOUR: 'it returns false'. Refute it at one input. -/
def fnExactAscendPairWrong : ChangeSpec := { name := "fnExactAscendPair", fn := fun _ => fun
  | [d1, d2, d3, d4, d5] => { results := [.lit (.bool false)], args := [d1, d2, d3, d4, d5] }
  | _ => none }
def FnExactAscendPairWrongFalsely : Prop := fnExactAscendPairRow.holds Try.pinned (OpenSpec.ofChange fnExactAscendPairWrong)

/-- 'laws.FnExactPairsUpTo': WHATEVER THE INPUT: true; the input reads as it did. -/
def fnExactPairsUpToSpec : ChangeSpec := { name := "fnExactPairsUpTo", fn := fun _ => fun
  | [d1, d2, d3] => { results := [.lit (.bool true)], args := [d1, d2, d3] }
  | _ => none }
def fnExactPairsUpToRow : OpenClaim := { program := "ytgigkjcfnngdmaa", sum := "622a0c942a44afadb89dccdc5fdf0234aa373595b527cde7ad3ebd5ef8f266eb", func := "loop.example/g01122/laws.FnExactPairsUpTo", spec := "fnExactPairsUpTo", unfollowed := true, recurses := true, apart := false }
def FnExactPairsUpToSaid : Prop := fnExactPairsUpToRow.holds Try.pinned (OpenSpec.ofChange fnExactPairsUpToSpec)

/-- ITS FALSE NEIGHBOUR: 'it returns false'. Refute it at one input. -/
def fnExactPairsUpToWrong : ChangeSpec := { name := "fnExactPairsUpTo", fn := fun _ => fun
  | [d1, d2, d3] => { results := [.lit (.bool false)], args := [d1, d2, d3] }
  | _ => none }
def FnExactPairsUpToWrongFalsely : Prop := fnExactPairsUpToRow.holds Try.pinned (OpenSpec.ofChange fnExactPairsUpToWrong)

/-- 'laws.FnExactDescendPair': WHATEVER THE INPUT: true; the input reads as it did. -/
def fnExactDescendPairSpec : ChangeSpec := { name := "fnExactDescendPair", fn := fun _ => fun
  | [d1, d2, d3, d4] => { results := [.lit (.bool true)], args := [d1, d2, d3, d4] }
  | _ => none }
def fnExactDescendPairRow : OpenClaim := { program := "ytgigkjcfnngdmaa", sum := "622a0c942a44afadb89dccdc5fdf0234aa373595b527cde7ad3ebd5ef8f266eb", func := "loop.example/g01122/laws.FnExactDescendPair", spec := "fnExactDescendPair", apart := false }
def FnExactDescendPairSaid : Prop := fnExactDescendPairRow.holds Try.pinned (OpenSpec.ofChange fnExactDescendPairSpec)

/-- ITS FALSE NEIGHBOUR: 'it returns false'. Refute it at one input. -/
def fnExactDescendPairWrong : ChangeSpec := { name := "fnExactDescendPair", fn := fun _ => fun
  | [d1, d2, d3, d4] => { results := [.lit (.bool false)], args := [d1, d2, d3, d4] }
  | _ => none }
def FnExactDescendPairWrongFalsely : Prop := fnExactDescendPairRow.holds Try.pinned (OpenSpec.ofChange fnExactDescendPairWrong)

/-- 'laws.FnExactClassesUpTo': WHATEVER THE INPUT: true; the input reads as it did. -/
def fnExactClassesUpToSpec : ChangeSpec := { name := "fnExactClassesUpTo", fn := fun _ => fun
  | [d1, d2, d3] => { results := [.lit (.bool true)], args := [d1, d2, d3] }
  | _ => none }
def fnExactClassesUpToRow : OpenClaim := { program := "ytgigkjcfnngdmaa", sum := "622a0c942a44afadb89dccdc5fdf0234aa373595b527cde7ad3ebd5ef8f266eb", func := "loop.example/g01122/laws.FnExactClassesUpTo", spec := "fnExactClassesUpTo", unfollowed := true, recurses := true, apart := false }
def FnExactClassesUpToSaid : Prop := fnExactClassesUpToRow.holds Try.pinned (OpenSpec.ofChange fnExactClassesUpToSpec)

/-- ITS FALSE NEIGHBOUR: 'it returns false'. Refute it at one input. -/
def fnExactClassesUpToWrong : ChangeSpec := { name := "fnExactClassesUpTo", fn := fun _ => fun
  | [d1, d2, d3] => { results := [.lit (.bool false)], args := [d1, d2, d3] }
  | _ => none }
def FnExactClassesUpToWrongFalsely : Prop := fnExactClassesUpToRow.holds Try.pinned (OpenSpec.ofChange fnExactClassesUpToWrong)

/- THE SECOND FORM. 'bulk': how many values and letters a reading holds, each counted each time it is reached (what is shared counts as often as it is met; a slice's spare places count too). A statement '..UptoSaid' is the law's where the arguments, and the package variables that the reading takes, are together of bulk at most 1048576: NARROWER than '..Said'. Prove '..Said' where nothing that the law and all that it calls make is longer than what came in: it says more and counts as full. Else prove '..UptoSaid'. A law counts once. -/
mutual
def uptoBulk {H : Type} : DataW H → Nat
  | .lit (.string bytes) => bytes.length + 1
  | .lit _ => 1
  | .nil => 1
  | .ptr d => uptoBulk d + 1
  | .slice elems spare => uptoBulkAll elems + uptoBulkAll spare + 1
  | .agg parts => uptoBulkAll parts + 1
  | .iface _ d => uptoBulk d + 1
  | .map entries => uptoBulkEntries entries + 1
  | .held _ => 1
def uptoBulkAll {H : Type} : List (DataW H) → Nat
  | [] => 0
  | d :: r => uptoBulk d + uptoBulkAll r
def uptoBulkEntries {H : Type} : List (Lit × DataW H) → Nat
  | [] => 0
  | x :: r => uptoBulkEntry x + uptoBulkEntries r
def uptoBulkEntry {H : Type} : Lit × DataW H → Nat
  | (.string bytes, d) => bytes.length + uptoBulk d + 1
  | (_, d) => uptoBulk d + 1
 end
def uptoSmall : (H : Type) → List (DataW H) → Bool := fun _ ds => decide (uptoBulkAll ds ≤ 1048576)
def OpenSpec.upto (s : _root_.Go.ChangeSpec) : _root_.Go.OpenSpec := { _root_.Go.OpenSpec.ofChange s with cond := some uptoSmall }

/-- 'laws.FnExactSquareQuotient', WHERE WHAT IT READS IS OF BULK AT MOST 1048576: true; the input reads as it did. -/
def fnExactSquareQuotientUptoRow : OpenClaim := { program := "ytgigkjcfnngdmaa", sum := "622a0c942a44afadb89dccdc5fdf0234aa373595b527cde7ad3ebd5ef8f266eb", func := "loop.example/g01122/laws.FnExactSquareQuotient", spec := "fnExactSquareQuotient", apart := false, narrowed := true }
def FnExactSquareQuotientUptoSaid : Prop := fnExactSquareQuotientUptoRow.holds Try.pinned (OpenSpec.upto fnExactSquareQuotientSpec)

/-- 'laws.FnExactIsJump', WHERE WHAT IT READS IS OF BULK AT MOST 1048576: true; the input reads as it did. -/
def fnExactIsJumpUptoRow : OpenClaim := { program := "ytgigkjcfnngdmaa", sum := "622a0c942a44afadb89dccdc5fdf0234aa373595b527cde7ad3ebd5ef8f266eb", func := "loop.example/g01122/laws.FnExactIsJump", spec := "fnExactIsJump", apart := false, narrowed := true }
def FnExactIsJumpUptoSaid : Prop := fnExactIsJumpUptoRow.holds Try.pinned (OpenSpec.upto fnExactIsJumpSpec)

/-- 'laws.FnExactKOfPair', WHERE WHAT IT READS IS OF BULK AT MOST 1048576: true; the input reads as it did. -/
def fnExactKOfPairUptoRow : OpenClaim := { program := "ytgigkjcfnngdmaa", sum := "622a0c942a44afadb89dccdc5fdf0234aa373595b527cde7ad3ebd5ef8f266eb", func := "loop.example/g01122/laws.FnExactKOfPair", spec := "fnExactKOfPair", apart := false, narrowed := true }
def FnExactKOfPairUptoSaid : Prop := fnExactKOfPairUptoRow.holds Try.pinned (OpenSpec.upto fnExactKOfPairSpec)

/-- 'laws.FnExactJumpUp', WHERE WHAT IT READS IS OF BULK AT MOST 1048576: true; the input reads as it did. -/
def fnExactJumpUpUptoRow : OpenClaim := { program := "ytgigkjcfnngdmaa", sum := "622a0c942a44afadb89dccdc5fdf0234aa373595b527cde7ad3ebd5ef8f266eb", func := "loop.example/g01122/laws.FnExactJumpUp", spec := "fnExactJumpUp", apart := false, narrowed := true }
def FnExactJumpUpUptoSaid : Prop := fnExactJumpUpUptoRow.holds Try.pinned (OpenSpec.upto fnExactJumpUpSpec)

/-- 'laws.FnExactJumpDown', WHERE WHAT IT READS IS OF BULK AT MOST 1048576: true; the input reads as it did. -/
def fnExactJumpDownUptoRow : OpenClaim := { program := "ytgigkjcfnngdmaa", sum := "622a0c942a44afadb89dccdc5fdf0234aa373595b527cde7ad3ebd5ef8f266eb", func := "loop.example/g01122/laws.FnExactJumpDown", spec := "fnExactJumpDown", apart := false, narrowed := true }
def FnExactJumpDownUptoSaid : Prop := fnExactJumpDownUptoRow.holds Try.pinned (OpenSpec.upto fnExactJumpDownSpec)

/-- 'laws.FnExactLeastPair', WHERE WHAT IT READS IS OF BULK AT MOST 1048576: true; the input reads as it did. -/
def fnExactLeastPairUptoRow : OpenClaim := { program := "ytgigkjcfnngdmaa", sum := "622a0c942a44afadb89dccdc5fdf0234aa373595b527cde7ad3ebd5ef8f266eb", func := "loop.example/g01122/laws.FnExactLeastPair", spec := "fnExactLeastPair", apart := false, narrowed := true }
def FnExactLeastPairUptoSaid : Prop := fnExactLeastPairUptoRow.holds Try.pinned (OpenSpec.upto fnExactLeastPairSpec)

/-- 'laws.FnExactJumpMatrix', WHERE WHAT IT READS IS OF BULK AT MOST 1048576: true; the input reads as it did. -/
def fnExactJumpMatrixUptoRow : OpenClaim := { program := "ytgigkjcfnngdmaa", sum := "622a0c942a44afadb89dccdc5fdf0234aa373595b527cde7ad3ebd5ef8f266eb", func := "loop.example/g01122/laws.FnExactJumpMatrix", spec := "fnExactJumpMatrix", apart := false, narrowed := true }
def FnExactJumpMatrixUptoSaid : Prop := fnExactJumpMatrixUptoRow.holds Try.pinned (OpenSpec.upto fnExactJumpMatrixSpec)

/-- 'laws.FnExactQuotientPairs', WHERE WHAT IT READS IS OF BULK AT MOST 1048576: true; the input reads as it did. -/
def fnExactQuotientPairsUptoRow : OpenClaim := { program := "ytgigkjcfnngdmaa", sum := "622a0c942a44afadb89dccdc5fdf0234aa373595b527cde7ad3ebd5ef8f266eb", func := "loop.example/g01122/laws.FnExactQuotientPairs", spec := "fnExactQuotientPairs", apart := false, narrowed := true }
def FnExactQuotientPairsUptoSaid : Prop := fnExactQuotientPairsUptoRow.holds Try.pinned (OpenSpec.upto fnExactQuotientPairsSpec)

/-- 'laws.FnExactKsUpTo', WHERE WHAT IT READS IS OF BULK AT MOST 1048576: true; the input reads as it did. -/
def fnExactKsUpToUptoRow : OpenClaim := { program := "ytgigkjcfnngdmaa", sum := "622a0c942a44afadb89dccdc5fdf0234aa373595b527cde7ad3ebd5ef8f266eb", func := "loop.example/g01122/laws.FnExactKsUpTo", spec := "fnExactKsUpTo", apart := false, narrowed := true }
def FnExactKsUpToUptoSaid : Prop := fnExactKsUpToUptoRow.holds Try.pinned (OpenSpec.upto fnExactKsUpToSpec)

/-- 'laws.FnExactAscendPair', WHERE WHAT IT READS IS OF BULK AT MOST 1048576: true; the input reads as it did. -/
def fnExactAscendPairUptoRow : OpenClaim := { program := "ytgigkjcfnngdmaa", sum := "622a0c942a44afadb89dccdc5fdf0234aa373595b527cde7ad3ebd5ef8f266eb", func := "loop.example/g01122/laws.FnExactAscendPair", spec := "fnExactAscendPair", apart := false, narrowed := true }
def FnExactAscendPairUptoSaid : Prop := fnExactAscendPairUptoRow.holds Try.pinned (OpenSpec.upto fnExactAscendPairSpec)

/-- 'laws.FnExactPairsUpTo', WHERE WHAT IT READS IS OF BULK AT MOST 1048576: true; the input reads as it did. -/
def fnExactPairsUpToUptoRow : OpenClaim := { program := "ytgigkjcfnngdmaa", sum := "622a0c942a44afadb89dccdc5fdf0234aa373595b527cde7ad3ebd5ef8f266eb", func := "loop.example/g01122/laws.FnExactPairsUpTo", spec := "fnExactPairsUpTo", unfollowed := true, recurses := true, apart := false, narrowed := true }
def FnExactPairsUpToUptoSaid : Prop := fnExactPairsUpToUptoRow.holds Try.pinned (OpenSpec.upto fnExactPairsUpToSpec)

/-- 'laws.FnExactDescendPair', WHERE WHAT IT READS IS OF BULK AT MOST 1048576: true; the input reads as it did. -/
def fnExactDescendPairUptoRow : OpenClaim := { program := "ytgigkjcfnngdmaa", sum := "622a0c942a44afadb89dccdc5fdf0234aa373595b527cde7ad3ebd5ef8f266eb", func := "loop.example/g01122/laws.FnExactDescendPair", spec := "fnExactDescendPair", apart := false, narrowed := true }
def FnExactDescendPairUptoSaid : Prop := fnExactDescendPairUptoRow.holds Try.pinned (OpenSpec.upto fnExactDescendPairSpec)

/-- 'laws.FnExactClassesUpTo', WHERE WHAT IT READS IS OF BULK AT MOST 1048576: true; the input reads as it did. -/
def fnExactClassesUpToUptoRow : OpenClaim := { program := "ytgigkjcfnngdmaa", sum := "622a0c942a44afadb89dccdc5fdf0234aa373595b527cde7ad3ebd5ef8f266eb", func := "loop.example/g01122/laws.FnExactClassesUpTo", spec := "fnExactClassesUpTo", unfollowed := true, recurses := true, apart := false, narrowed := true }
def FnExactClassesUpToUptoSaid : Prop := fnExactClassesUpToUptoRow.holds Try.pinned (OpenSpec.upto fnExactClassesUpToSpec)

end Rows
end Go.Proofs.Ytgigkjcfnngdmaa
