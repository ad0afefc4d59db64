/-
  No cell of these rows narrows 'for every input' (looked for: loops, veiled, ifaces, maps, wideKeys, modest, calm, conditions, laid).
  DERIVED. THE GIVEN ROWS OF THIS SEAT. 16 by the template 'for every input the law returns true; each argument reads behind the call as it read before'; 0 by the template 'total and deterministic' (their statements: YtmjodkckffmnaaaTotals.lean).
  GIVEN WITH THE SEED: the statements are not yours to turn. If you find one false, say at which input.
  Laid BY PROGRAM, IN A SANDBOX (cutbox-rows.mjs): the forced cells as the released guide's own fill.sh prints them over the translation 44543009a0c60646… (all of the seat's roots in one cut). By AI agents, Wed Nov 11 2026. No macro, syntax, notation, axiom, sorry.
-/
import Derived.Test.YtmjodkckffmnaaaChecked
import GoSem.Claim
import GoSem.ClaimJoined
import GoSem.ClaimMapViews
import Derived.JoinedTies
import Derived.KernelRfl
namespace Go.Proofs.Ytmjodkckffmnaaa
/- THE CELL 'sum', in the pinned program and in every row, IS THE sha256 OF THE DUMP (.gsa) THAT YtmjodkckffmnaaaProg.lean LOADS. Nothing in Lean hashes anything: it is a label: what it is worth is what the hold of that sum in a sandbox is worth. -/
noncomputable def Try.pinned : Pinned := { name := "ytmjodkckffmnaaa", sum := "44543009a0c606466593ec5c7c357aa3b29bb71e1fa9ea572cb236cb6ccc12c0", checked := Try.checked }
namespace Rows
def none {H : Type} : Left H := { results := [], args := [] }

/-- 'laws.FnExactIsQuad': WHATEVER THE INPUT: true; the input reads as it did. -/
def fnExactIsQuadSpec : ChangeSpec := { name := "fnExactIsQuad", fn := fun _ => fun
  | [d] => { results := [.lit (.bool true)], args := [d] }
  | _ => none }
def fnExactIsQuadRow : OpenClaim := { program := "ytmjodkckffmnaaa", sum := "44543009a0c606466593ec5c7c357aa3b29bb71e1fa9ea572cb236cb6ccc12c0", func := "loop.example/g01122/laws.FnExactIsQuad", spec := "fnExactIsQuad", unfollowed := true, recurses := true, plainKeys := false, apart := false }
def FnExactIsQuadSaid : Prop := fnExactIsQuadRow.holds Try.pinned (OpenSpec.ofChange fnExactIsQuadSpec)

/-- ITS FALSE NEIGHBOUR: 'it returns false'. Refute it at one input. -/
def fnExactIsQuadWrong : ChangeSpec := { name := "fnExactIsQuad", fn := fun _ => fun
  | [d] => { results := [.lit (.bool false)], args := [d] }
  | _ => none }
def FnExactIsQuadWrongFalsely : Prop := fnExactIsQuadRow.holds Try.pinned (OpenSpec.ofChange fnExactIsQuadWrong)

/-- 'laws.FnExactDescartesForm': WHATEVER THE INPUT: true; the input reads as it did. -/
def fnExactDescartesFormSpec : ChangeSpec := { name := "fnExactDescartesForm", fn := fun _ => fun
  | [] => { results := [.lit (.bool true)], args := [] }
  | _ => none }
def fnExactDescartesFormRow : OpenClaim := { program := "ytmjodkckffmnaaa", sum := "44543009a0c606466593ec5c7c357aa3b29bb71e1fa9ea572cb236cb6ccc12c0", func := "loop.example/g01122/laws.FnExactDescartesForm", spec := "fnExactDescartesForm", unfollowed := true, recurses := true, plainKeys := false, apart := false }
def FnExactDescartesFormSaid : Prop := fnExactDescartesFormRow.holds Try.pinned (OpenSpec.ofChange fnExactDescartesFormSpec)

/-- ITS FALSE NEIGHBOUR: 'it returns false'. Refute it at one input. -/
def fnExactDescartesFormWrong : ChangeSpec := { name := "fnExactDescartesForm", fn := fun _ => fun
  | [] => { results := [.lit (.bool false)], args := [] }
  | _ => none }
def FnExactDescartesFormWrongFalsely : Prop := fnExactDescartesFormRow.holds Try.pinned (OpenSpec.ofChange fnExactDescartesFormWrong)

/-- 'laws.FnExactScaleOf': WHATEVER THE INPUT: true; the input reads as it did. -/
def fnExactScaleOfSpec : ChangeSpec := { name := "fnExactScaleOf", fn := fun _ => fun
  | [d] => { results := [.lit (.bool true)], args := [d] }
  | _ => none }
def fnExactScaleOfRow : OpenClaim := { program := "ytmjodkckffmnaaa", sum := "44543009a0c606466593ec5c7c357aa3b29bb71e1fa9ea572cb236cb6ccc12c0", func := "loop.example/g01122/laws.FnExactScaleOf", spec := "fnExactScaleOf", unfollowed := true, recurses := true, plainKeys := false, apart := false }
def FnExactScaleOfSaid : Prop := fnExactScaleOfRow.holds Try.pinned (OpenSpec.ofChange fnExactScaleOfSpec)

/-- ITS FALSE NEIGHBOUR: 'it returns false'. Refute it at one input. -/
def fnExactScaleOfWrong : ChangeSpec := { name := "fnExactScaleOf", fn := fun _ => fun
  | [d] => { results := [.lit (.bool false)], args := [d] }
  | _ => none }
def FnExactScaleOfWrongFalsely : Prop := fnExactScaleOfRow.holds Try.pinned (OpenSpec.ofChange fnExactScaleOfWrong)

/-- 'laws.FnExactSwapMatrix': WHATEVER THE INPUT: true; the input reads as it did. -/
def fnExactSwapMatrixSpec : ChangeSpec := { name := "fnExactSwapMatrix", fn := fun _ => fun
  | [d] => { results := [.lit (.bool true)], args := [d] }
  | _ => none }
def fnExactSwapMatrixRow : OpenClaim := { program := "ytmjodkckffmnaaa", sum := "44543009a0c606466593ec5c7c357aa3b29bb71e1fa9ea572cb236cb6ccc12c0", func := "loop.example/g01122/laws.FnExactSwapMatrix", spec := "fnExactSwapMatrix", unfollowed := true, recurses := true, plainKeys := false, apart := false }
def FnExactSwapMatrixSaid : Prop := fnExactSwapMatrixRow.holds Try.pinned (OpenSpec.ofChange fnExactSwapMatrixSpec)

/-- ITS FALSE NEIGHBOUR: 'it returns false'. Refute it at one input. -/
def fnExactSwapMatrixWrong : ChangeSpec := { name := "fnExactSwapMatrix", fn := fun _ => fun
  | [d] => { results := [.lit (.bool false)], args := [d] }
  | _ => none }
def FnExactSwapMatrixWrongFalsely : Prop := fnExactSwapMatrixRow.holds Try.pinned (OpenSpec.ofChange fnExactSwapMatrixWrong)

/-- 'laws.FnExactIsRoot': WHATEVER THE INPUT: true; the input reads as it did. -/
def fnExactIsRootSpec : ChangeSpec := { name := "fnExactIsRoot", fn := fun _ => fun
  | [d] => { results := [.lit (.bool true)], args := [d] }
  | _ => none }
def fnExactIsRootRow : OpenClaim := { program := "ytmjodkckffmnaaa", sum := "44543009a0c606466593ec5c7c357aa3b29bb71e1fa9ea572cb236cb6ccc12c0", func := "loop.example/g01122/laws.FnExactIsRoot", spec := "fnExactIsRoot", unfollowed := true, recurses := true, plainKeys := false, apart := false }
def FnExactIsRootSaid : Prop := fnExactIsRootRow.holds Try.pinned (OpenSpec.ofChange fnExactIsRootSpec)

/-- ITS FALSE NEIGHBOUR: 'it returns false'. Refute it at one input. -/
def fnExactIsRootWrong : ChangeSpec := { name := "fnExactIsRoot", fn := fun _ => fun
  | [d] => { results := [.lit (.bool false)], args := [d] }
  | _ => none }
def FnExactIsRootWrongFalsely : Prop := fnExactIsRootRow.holds Try.pinned (OpenSpec.ofChange fnExactIsRootWrong)

/-- 'laws.FnExactSwapAt': WHATEVER THE INPUT: true; the input reads as it did. -/
def fnExactSwapAtSpec : ChangeSpec := { name := "fnExactSwapAt", fn := fun _ => fun
  | [d1, d2] => { results := [.lit (.bool true)], args := [d1, d2] }
  | _ => none }
def fnExactSwapAtRow : OpenClaim := { program := "ytmjodkckffmnaaa", sum := "44543009a0c606466593ec5c7c357aa3b29bb71e1fa9ea572cb236cb6ccc12c0", func := "loop.example/g01122/laws.FnExactSwapAt", spec := "fnExactSwapAt", unfollowed := true, recurses := true, plainKeys := false, apart := false }
def FnExactSwapAtSaid : Prop := fnExactSwapAtRow.holds Try.pinned (OpenSpec.ofChange fnExactSwapAtSpec)

/-- ITS FALSE NEIGHBOUR: 'it returns false'. Refute it at one input. -/
def fnExactSwapAtWrong : ChangeSpec := { name := "fnExactSwapAt", fn := fun _ => fun
  | [d1, d2] => { results := [.lit (.bool false)], args := [d1, d2] }
  | _ => none }
def FnExactSwapAtWrongFalsely : Prop := fnExactSwapAtRow.holds Try.pinned (OpenSpec.ofChange fnExactSwapAtWrong)

/-- 'laws.FnExactFollowSwaps': WHATEVER THE INPUT: true; the input reads as it did. -/
def fnExactFollowSwapsSpec : ChangeSpec := { name := "fnExactFollowSwaps", fn := fun _ => fun
  | [d1, d2] => { results := [.lit (.bool true)], args := [d1, d2] }
  | _ => none }
def fnExactFollowSwapsRow : OpenClaim := { program := "ytmjodkckffmnaaa", sum := "44543009a0c606466593ec5c7c357aa3b29bb71e1fa9ea572cb236cb6ccc12c0", func := "loop.example/g01122/laws.FnExactFollowSwaps", spec := "fnExactFollowSwaps", unfollowed := true, recurses := true, plainKeys := false, apart := false }
def FnExactFollowSwapsSaid : Prop := fnExactFollowSwapsRow.holds Try.pinned (OpenSpec.ofChange fnExactFollowSwapsSpec)

/-- ITS FALSE NEIGHBOUR: 'it returns false'. Refute it at one input. -/
def fnExactFollowSwapsWrong : ChangeSpec := { name := "fnExactFollowSwaps", fn := fun _ => fun
  | [d1, d2] => { results := [.lit (.bool false)], args := [d1, d2] }
  | _ => none }
def FnExactFollowSwapsWrongFalsely : Prop := fnExactFollowSwapsRow.holds Try.pinned (OpenSpec.ofChange fnExactFollowSwapsWrong)

/-- 'laws.FnExactDownSwap': WHATEVER THE INPUT: true; the input reads as it did. -/
def fnExactDownSwapSpec : ChangeSpec := { name := "fnExactDownSwap", fn := fun _ => fun
  | [d] => { results := [.lit (.bool true)], args := [d] }
  | _ => none }
def fnExactDownSwapRow : OpenClaim := { program := "ytmjodkckffmnaaa", sum := "44543009a0c606466593ec5c7c357aa3b29bb71e1fa9ea572cb236cb6ccc12c0", func := "loop.example/g01122/laws.FnExactDownSwap", spec := "fnExactDownSwap", unfollowed := true, recurses := true, plainKeys := false, apart := false }
def FnExactDownSwapSaid : Prop := fnExactDownSwapRow.holds Try.pinned (OpenSpec.ofChange fnExactDownSwapSpec)

/-- ITS FALSE NEIGHBOUR: 'it returns false'. Refute it at one input. -/
def fnExactDownSwapWrong : ChangeSpec := { name := "fnExactDownSwap", fn := fun _ => fun
  | [d] => { results := [.lit (.bool false)], args := [d] }
  | _ => none }
def FnExactDownSwapWrongFalsely : Prop := fnExactDownSwapRow.holds Try.pinned (OpenSpec.ofChange fnExactDownSwapWrong)

/-- 'laws.FnExactDownWord': WHATEVER THE INPUT: true; the input reads as it did. -/
def fnExactDownWordSpec : ChangeSpec := { name := "fnExactDownWord", fn := fun _ => fun
  | [d] => { results := [.lit (.bool true)], args := [d] }
  | _ => none }
def fnExactDownWordRow : OpenClaim := { program := "ytmjodkckffmnaaa", sum := "44543009a0c606466593ec5c7c357aa3b29bb71e1fa9ea572cb236cb6ccc12c0", func := "loop.example/g01122/laws.FnExactDownWord", spec := "fnExactDownWord", unfollowed := true, recurses := true, plainKeys := false, apart := false }
def FnExactDownWordSaid : Prop := fnExactDownWordRow.holds Try.pinned (OpenSpec.ofChange fnExactDownWordSpec)

/-- ITS FALSE NEIGHBOUR: 'it returns false'. Refute it at one input. -/
def fnExactDownWordWrong : ChangeSpec := { name := "fnExactDownWord", fn := fun _ => fun
  | [d] => { results := [.lit (.bool false)], args := [d] }
  | _ => none }
def FnExactDownWordWrongFalsely : Prop := fnExactDownWordRow.holds Try.pinned (OpenSpec.ofChange fnExactDownWordWrong)

/-- 'laws.FnExactDownPath': WHATEVER THE INPUT: true; the input reads as it did. -/
def fnExactDownPathSpec : ChangeSpec := { name := "fnExactDownPath", fn := fun _ => fun
  | [d] => { results := [.lit (.bool true)], args := [d] }
  | _ => none }
def fnExactDownPathRow : OpenClaim := { program := "ytmjodkckffmnaaa", sum := "44543009a0c606466593ec5c7c357aa3b29bb71e1fa9ea572cb236cb6ccc12c0", func := "loop.example/g01122/laws.FnExactDownPath", spec := "fnExactDownPath", unfollowed := true, recurses := true, plainKeys := false, apart := false }
def FnExactDownPathSaid : Prop := fnExactDownPathRow.holds Try.pinned (OpenSpec.ofChange fnExactDownPathSpec)

/-- ITS FALSE NEIGHBOUR: 'it returns false'. Refute it at one input. -/
def fnExactDownPathWrong : ChangeSpec := { name := "fnExactDownPath", fn := fun _ => fun
  | [d] => { results := [.lit (.bool false)], args := [d] }
  | _ => none }
def FnExactDownPathWrongFalsely : Prop := fnExactDownPathRow.holds Try.pinned (OpenSpec.ofChange fnExactDownPathWrong)

/-- 'laws.FnExactResiduesOf': WHATEVER THE INPUT: true; the input reads as it did. -/
def fnExactResiduesOfSpec : ChangeSpec := { name := "fnExactResiduesOf", fn := fun _ => fun
  | [d] => { results := [.lit (.bool true)], args := [d] }
  | _ => none }
def fnExactResiduesOfRow : OpenClaim := { program := "ytmjodkckffmnaaa", sum := "44543009a0c606466593ec5c7c357aa3b29bb71e1fa9ea572cb236cb6ccc12c0", func := "loop.example/g01122/laws.FnExactResiduesOf", spec := "fnExactResiduesOf", unfollowed := true, recurses := true, plainKeys := false, apart := false }
def FnExactResiduesOfSaid : Prop := fnExactResiduesOfRow.holds Try.pinned (OpenSpec.ofChange fnExactResiduesOfSpec)

/-- ITS FALSE NEIGHBOUR: 'it returns false'. Refute it at one input. -/
def fnExactResiduesOfWrong : ChangeSpec := { name := "fnExactResiduesOf", fn := fun _ => fun
  | [d] => { results := [.lit (.bool false)], args := [d] }
  | _ => none }
def FnExactResiduesOfWrongFalsely : Prop := fnExactResiduesOfRow.holds Try.pinned (OpenSpec.ofChange fnExactResiduesOfWrong)

/-- 'laws.FnExactRootQuad': WHATEVER THE INPUT: true; the input reads as it did. -/
def fnExactRootQuadSpec : ChangeSpec := { name := "fnExactRootQuad", fn := fun _ => fun
  | [d] => { results := [.lit (.bool true)], args := [d] }
  | _ => none }
def fnExactRootQuadRow : OpenClaim := { program := "ytmjodkckffmnaaa", sum := "44543009a0c606466593ec5c7c357aa3b29bb71e1fa9ea572cb236cb6ccc12c0", func := "loop.example/g01122/laws.FnExactRootQuad", spec := "fnExactRootQuad", unfollowed := true, recurses := true, plainKeys := false, apart := false }
def FnExactRootQuadSaid : Prop := fnExactRootQuadRow.holds Try.pinned (OpenSpec.ofChange fnExactRootQuadSpec)

/-- ITS FALSE NEIGHBOUR: 'it returns false'. Refute it at one input. -/
def fnExactRootQuadWrong : ChangeSpec := { name := "fnExactRootQuad", fn := fun _ => fun
  | [d] => { results := [.lit (.bool false)], args := [d] }
  | _ => none }
def FnExactRootQuadWrongFalsely : Prop := fnExactRootQuadRow.holds Try.pinned (OpenSpec.ofChange fnExactRootQuadWrong)

/-- 'laws.FnExactCountUpTo': WHATEVER THE INPUT: true; the input reads as it did. -/
def fnExactCountUpToSpec : ChangeSpec := { name := "fnExactCountUpTo", fn := fun _ => fun
  | [d1, d2] => { results := [.lit (.bool true)], args := [d1, d2] }
  | _ => none }
def fnExactCountUpToRow : OpenClaim := { program := "ytmjodkckffmnaaa", sum := "44543009a0c606466593ec5c7c357aa3b29bb71e1fa9ea572cb236cb6ccc12c0", func := "loop.example/g01122/laws.FnExactCountUpTo", spec := "fnExactCountUpTo", unfollowed := true, recurses := true, plainKeys := false, apart := false }
def FnExactCountUpToSaid : Prop := fnExactCountUpToRow.holds Try.pinned (OpenSpec.ofChange fnExactCountUpToSpec)

/-- ITS FALSE NEIGHBOUR: 'it returns false'. Refute it at one input. -/
def fnExactCountUpToWrong : ChangeSpec := { name := "fnExactCountUpTo", fn := fun _ => fun
  | [d1, d2] => { results := [.lit (.bool false)], args := [d1, d2] }
  | _ => none }
def FnExactCountUpToWrongFalsely : Prop := fnExactCountUpToRow.holds Try.pinned (OpenSpec.ofChange fnExactCountUpToWrong)

/-- 'laws.FnExactCurvaturesUpTo': WHATEVER THE INPUT: true; the input reads as it did. -/
def fnExactCurvaturesUpToSpec : ChangeSpec := { name := "fnExactCurvaturesUpTo", fn := fun _ => fun
  | [d1, d2] => { results := [.lit (.bool true)], args := [d1, d2] }
  | _ => none }
def fnExactCurvaturesUpToRow : OpenClaim := { program := "ytmjodkckffmnaaa", sum := "44543009a0c606466593ec5c7c357aa3b29bb71e1fa9ea572cb236cb6ccc12c0", func := "loop.example/g01122/laws.FnExactCurvaturesUpTo", spec := "fnExactCurvaturesUpTo", unfollowed := true, recurses := true, plainKeys := false, apart := false }
def FnExactCurvaturesUpToSaid : Prop := fnExactCurvaturesUpToRow.holds Try.pinned (OpenSpec.ofChange fnExactCurvaturesUpToSpec)

/-- ITS FALSE NEIGHBOUR: 'it returns false'. Refute it at one input. -/
def fnExactCurvaturesUpToWrong : ChangeSpec := { name := "fnExactCurvaturesUpTo", fn := fun _ => fun
  | [d1, d2] => { results := [.lit (.bool false)], args := [d1, d2] }
  | _ => none }
def FnExactCurvaturesUpToWrongFalsely : Prop := fnExactCurvaturesUpToRow.holds Try.pinned (OpenSpec.ofChange fnExactCurvaturesUpToWrong)

/-- 'laws.FnExactRootsWith': WHATEVER THE INPUT: true; the input reads as it did. -/
def fnExactRootsWithSpec : ChangeSpec := { name := "fnExactRootsWith", fn := fun _ => fun
  | [d] => { results := [.lit (.bool true)], args := [d] }
  | _ => none }
def fnExactRootsWithRow : OpenClaim := { program := "ytmjodkckffmnaaa", sum := "44543009a0c606466593ec5c7c357aa3b29bb71e1fa9ea572cb236cb6ccc12c0", func := "loop.example/g01122/laws.FnExactRootsWith", spec := "fnExactRootsWith", unfollowed := true, recurses := true, plainKeys := false, apart := false }
def FnExactRootsWithSaid : Prop := fnExactRootsWithRow.holds Try.pinned (OpenSpec.ofChange fnExactRootsWithSpec)

/-- ITS FALSE NEIGHBOUR: 'it returns false'. Refute it at one input. -/
def fnExactRootsWithWrong : ChangeSpec := { name := "fnExactRootsWith", fn := fun _ => fun
  | [d] => { results := [.lit (.bool false)], args := [d] }
  | _ => none }
def FnExactRootsWithWrongFalsely : Prop := fnExactRootsWithRow.holds Try.pinned (OpenSpec.ofChange fnExactRootsWithWrong)

/-- 'laws.FnExactAllRootsUpTo': WHATEVER THE INPUT: true; the input reads as it did. -/
def fnExactAllRootsUpToSpec : ChangeSpec := { name := "fnExactAllRootsUpTo", fn := fun _ => fun
  | [d] => { results := [.lit (.bool true)], args := [d] }
  | _ => none }
def fnExactAllRootsUpToRow : OpenClaim := { program := "ytmjodkckffmnaaa", sum := "44543009a0c606466593ec5c7c357aa3b29bb71e1fa9ea572cb236cb6ccc12c0", func := "loop.example/g01122/laws.FnExactAllRootsUpTo", spec := "fnExactAllRootsUpTo", unfollowed := true, recurses := true, plainKeys := false, apart := false }
def FnExactAllRootsUpToSaid : Prop := fnExactAllRootsUpToRow.holds Try.pinned (OpenSpec.ofChange fnExactAllRootsUpToSpec)

/-- ITS FALSE NEIGHBOUR: 'it returns false'. Refute it at one input. -/
def fnExactAllRootsUpToWrong : ChangeSpec := { name := "fnExactAllRootsUpTo", fn := fun _ => fun
  | [d] => { results := [.lit (.bool false)], args := [d] }
  | _ => none }
def FnExactAllRootsUpToWrongFalsely : Prop := fnExactAllRootsUpToRow.holds Try.pinned (OpenSpec.ofChange fnExactAllRootsUpToWrong)

/- THE SECOND FORM. 'bulk': how many values and letters a reading holds, each counted each time it is reached (what is shared counts as often as it is met; a slice's spare places count too). A statement '..UptoSaid' is the law's where the arguments, and the package variables that the reading takes, are together of bulk at most 1048576: NARROWER than '..Said'. Prove '..Said' where nothing that the law and all that it calls make is longer than what came in: it says more and counts as full. Else prove '..UptoSaid'. A law counts once. -/
mutual
def uptoBulk {H : Type} : DataW H → Nat
  | .lit (.string bytes) => bytes.length + 1
  | .lit _ => 1
  | .nil => 1
  | .ptr d => uptoBulk d + 1
  | .slice elems spare => uptoBulkAll elems + uptoBulkAll spare + 1
  | .agg parts => uptoBulkAll parts + 1
  | .iface _ d => uptoBulk d + 1
  | .map entries => uptoBulkEntries entries + 1
  | .held _ => 1
def uptoBulkAll {H : Type} : List (DataW H) → Nat
  | [] => 0
  | d :: r => uptoBulk d + uptoBulkAll r
def uptoBulkEntries {H : Type} : List (Lit × DataW H) → Nat
  | [] => 0
  | x :: r => uptoBulkEntry x + uptoBulkEntries r
def uptoBulkEntry {H : Type} : Lit × DataW H → Nat
  | (.string bytes, d) => bytes.length + uptoBulk d + 1
  | (_, d) => uptoBulk d + 1
 end
def uptoSmall : (H : Type) → List (DataW H) → Bool := fun _ ds => decide (uptoBulkAll ds ≤ 1048576)
def OpenSpec.upto (s : _root_.Go.ChangeSpec) : _root_.Go.OpenSpec := { _root_.Go.OpenSpec.ofChange s with cond := some uptoSmall }

/-- 'laws.FnExactIsQuad', WHERE WHAT IT READS IS OF BULK AT MOST 1048576: true; the input reads as it did. -/
def fnExactIsQuadUptoRow : OpenClaim := { program := "ytmjodkckffmnaaa", sum := "44543009a0c606466593ec5c7c357aa3b29bb71e1fa9ea572cb236cb6ccc12c0", func := "loop.example/g01122/laws.FnExactIsQuad", spec := "fnExactIsQuad", unfollowed := true, recurses := true, plainKeys := false, apart := false, narrowed := true }
def FnExactIsQuadUptoSaid : Prop := fnExactIsQuadUptoRow.holds Try.pinned (OpenSpec.upto fnExactIsQuadSpec)

/-- 'laws.FnExactDescartesForm', WHERE WHAT IT READS IS OF BULK AT MOST 1048576: true; the input reads as it did. -/
def fnExactDescartesFormUptoRow : OpenClaim := { program := "ytmjodkckffmnaaa", sum := "44543009a0c606466593ec5c7c357aa3b29bb71e1fa9ea572cb236cb6ccc12c0", func := "loop.example/g01122/laws.FnExactDescartesForm", spec := "fnExactDescartesForm", unfollowed := true, recurses := true, plainKeys := false, apart := false, narrowed := true }
def FnExactDescartesFormUptoSaid : Prop := fnExactDescartesFormUptoRow.holds Try.pinned (OpenSpec.upto fnExactDescartesFormSpec)

/-- 'laws.FnExactScaleOf', WHERE WHAT IT READS IS OF BULK AT MOST 1048576: true; the input reads as it did. -/
def fnExactScaleOfUptoRow : OpenClaim := { program := "ytmjodkckffmnaaa", sum := "44543009a0c606466593ec5c7c357aa3b29bb71e1fa9ea572cb236cb6ccc12c0", func := "loop.example/g01122/laws.FnExactScaleOf", spec := "fnExactScaleOf", unfollowed := true, recurses := true, plainKeys := false, apart := false, narrowed := true }
def FnExactScaleOfUptoSaid : Prop := fnExactScaleOfUptoRow.holds Try.pinned (OpenSpec.upto fnExactScaleOfSpec)

/-- 'laws.FnExactSwapMatrix', WHERE WHAT IT READS IS OF BULK AT MOST 1048576: true; the input reads as it did. -/
def fnExactSwapMatrixUptoRow : OpenClaim := { program := "ytmjodkckffmnaaa", sum := "44543009a0c606466593ec5c7c357aa3b29bb71e1fa9ea572cb236cb6ccc12c0", func := "loop.example/g01122/laws.FnExactSwapMatrix", spec := "fnExactSwapMatrix", unfollowed := true, recurses := true, plainKeys := false, apart := false, narrowed := true }
def FnExactSwapMatrixUptoSaid : Prop := fnExactSwapMatrixUptoRow.holds Try.pinned (OpenSpec.upto fnExactSwapMatrixSpec)

/-- 'laws.FnExactIsRoot', WHERE WHAT IT READS IS OF BULK AT MOST 1048576: true; the input reads as it did. -/
def fnExactIsRootUptoRow : OpenClaim := { program := "ytmjodkckffmnaaa", sum := "44543009a0c606466593ec5c7c357aa3b29bb71e1fa9ea572cb236cb6ccc12c0", func := "loop.example/g01122/laws.FnExactIsRoot", spec := "fnExactIsRoot", unfollowed := true, recurses := true, plainKeys := false, apart := false, narrowed := true }
def FnExactIsRootUptoSaid : Prop := fnExactIsRootUptoRow.holds Try.pinned (OpenSpec.upto fnExactIsRootSpec)

/-- 'laws.FnExactSwapAt', WHERE WHAT IT READS IS OF BULK AT MOST 1048576: true; the input reads as it did. -/
def fnExactSwapAtUptoRow : OpenClaim := { program := "ytmjodkckffmnaaa", sum := "44543009a0c606466593ec5c7c357aa3b29bb71e1fa9ea572cb236cb6ccc12c0", func := "loop.example/g01122/laws.FnExactSwapAt", spec := "fnExactSwapAt", unfollowed := true, recurses := true, plainKeys := false, apart := false, narrowed := true }
def FnExactSwapAtUptoSaid : Prop := fnExactSwapAtUptoRow.holds Try.pinned (OpenSpec.upto fnExactSwapAtSpec)

/-- 'laws.FnExactFollowSwaps', WHERE WHAT IT READS IS OF BULK AT MOST 1048576: true; the input reads as it did. -/
def fnExactFollowSwapsUptoRow : OpenClaim := { program := "ytmjodkckffmnaaa", sum := "44543009a0c606466593ec5c7c357aa3b29bb71e1fa9ea572cb236cb6ccc12c0", func := "loop.example/g01122/laws.FnExactFollowSwaps", spec := "fnExactFollowSwaps", unfollowed := true, recurses := true, plainKeys := false, apart := false, narrowed := true }
def FnExactFollowSwapsUptoSaid : Prop := fnExactFollowSwapsUptoRow.holds Try.pinned (OpenSpec.upto fnExactFollowSwapsSpec)

/-- 'laws.FnExactDownSwap', WHERE WHAT IT READS IS OF BULK AT MOST 1048576: true; the input reads as it did. -/
def fnExactDownSwapUptoRow : OpenClaim := { program := "ytmjodkckffmnaaa", sum := "44543009a0c606466593ec5c7c357aa3b29bb71e1fa9ea572cb236cb6ccc12c0", func := "loop.example/g01122/laws.FnExactDownSwap", spec := "fnExactDownSwap", unfollowed := true, recurses := true, plainKeys := false, apart := false, narrowed := true }
def FnExactDownSwapUptoSaid : Prop := fnExactDownSwapUptoRow.holds Try.pinned (OpenSpec.upto fnExactDownSwapSpec)

/-- 'laws.FnExactDownWord', WHERE WHAT IT READS IS OF BULK AT MOST 1048576: true; the input reads as it did. -/
def fnExactDownWordUptoRow : OpenClaim := { program := "ytmjodkckffmnaaa", sum := "44543009a0c606466593ec5c7c357aa3b29bb71e1fa9ea572cb236cb6ccc12c0", func := "loop.example/g01122/laws.FnExactDownWord", spec := "fnExactDownWord", unfollowed := true, recurses := true, plainKeys := false, apart := false, narrowed := true }
def FnExactDownWordUptoSaid : Prop := fnExactDownWordUptoRow.holds Try.pinned (OpenSpec.upto fnExactDownWordSpec)

/-- 'laws.FnExactDownPath', WHERE WHAT IT READS IS OF BULK AT MOST 1048576: true; the input reads as it did. -/
def fnExactDownPathUptoRow : OpenClaim := { program := "ytmjodkckffmnaaa", sum := "44543009a0c606466593ec5c7c357aa3b29bb71e1fa9ea572cb236cb6ccc12c0", func := "loop.example/g01122/laws.FnExactDownPath", spec := "fnExactDownPath", unfollowed := true, recurses := true, plainKeys := false, apart := false, narrowed := true }
def FnExactDownPathUptoSaid : Prop := fnExactDownPathUptoRow.holds Try.pinned (OpenSpec.upto fnExactDownPathSpec)

/-- 'laws.FnExactResiduesOf', WHERE WHAT IT READS IS OF BULK AT MOST 1048576: true; the input reads as it did. -/
def fnExactResiduesOfUptoRow : OpenClaim := { program := "ytmjodkckffmnaaa", sum := "44543009a0c606466593ec5c7c357aa3b29bb71e1fa9ea572cb236cb6ccc12c0", func := "loop.example/g01122/laws.FnExactResiduesOf", spec := "fnExactResiduesOf", unfollowed := true, recurses := true, plainKeys := false, apart := false, narrowed := true }
def FnExactResiduesOfUptoSaid : Prop := fnExactResiduesOfUptoRow.holds Try.pinned (OpenSpec.upto fnExactResiduesOfSpec)

/-- 'laws.FnExactRootQuad', WHERE WHAT IT READS IS OF BULK AT MOST 1048576: true; the input reads as it did. -/
def fnExactRootQuadUptoRow : OpenClaim := { program := "ytmjodkckffmnaaa", sum := "44543009a0c606466593ec5c7c357aa3b29bb71e1fa9ea572cb236cb6ccc12c0", func := "loop.example/g01122/laws.FnExactRootQuad", spec := "fnExactRootQuad", unfollowed := true, recurses := true, plainKeys := false, apart := false, narrowed := true }
def FnExactRootQuadUptoSaid : Prop := fnExactRootQuadUptoRow.holds Try.pinned (OpenSpec.upto fnExactRootQuadSpec)

/-- 'laws.FnExactCountUpTo', WHERE WHAT IT READS IS OF BULK AT MOST 1048576: true; the input reads as it did. -/
def fnExactCountUpToUptoRow : OpenClaim := { program := "ytmjodkckffmnaaa", sum := "44543009a0c606466593ec5c7c357aa3b29bb71e1fa9ea572cb236cb6ccc12c0", func := "loop.example/g01122/laws.FnExactCountUpTo", spec := "fnExactCountUpTo", unfollowed := true, recurses := true, plainKeys := false, apart := false, narrowed := true }
def FnExactCountUpToUptoSaid : Prop := fnExactCountUpToUptoRow.holds Try.pinned (OpenSpec.upto fnExactCountUpToSpec)

/-- 'laws.FnExactCurvaturesUpTo', WHERE WHAT IT READS IS OF BULK AT MOST 1048576: true; the input reads as it did. -/
def fnExactCurvaturesUpToUptoRow : OpenClaim := { program := "ytmjodkckffmnaaa", sum := "44543009a0c606466593ec5c7c357aa3b29bb71e1fa9ea572cb236cb6ccc12c0", func := "loop.example/g01122/laws.FnExactCurvaturesUpTo", spec := "fnExactCurvaturesUpTo", unfollowed := true, recurses := true, plainKeys := false, apart := false, narrowed := true }
def FnExactCurvaturesUpToUptoSaid : Prop := fnExactCurvaturesUpToUptoRow.holds Try.pinned (OpenSpec.upto fnExactCurvaturesUpToSpec)

/-- 'laws.FnExactRootsWith', WHERE WHAT IT READS IS OF BULK AT MOST 1048576: true; the input reads as it did. -/
def fnExactRootsWithUptoRow : OpenClaim := { program := "ytmjodkckffmnaaa", sum := "44543009a0c606466593ec5c7c357aa3b29bb71e1fa9ea572cb236cb6ccc12c0", func := "loop.example/g01122/laws.FnExactRootsWith", spec := "fnExactRootsWith", unfollowed := true, recurses := true, plainKeys := false, apart := false, narrowed := true }
def FnExactRootsWithUptoSaid : Prop := fnExactRootsWithUptoRow.holds Try.pinned (OpenSpec.upto fnExactRootsWithSpec)

/-- 'laws.FnExactAllRootsUpTo', WHERE WHAT IT READS IS OF BULK AT MOST 1048576: true; the input reads as it did. -/
def fnExactAllRootsUpToUptoRow : OpenClaim := { program := "ytmjodkckffmnaaa", sum := "44543009a0c606466593ec5c7c357aa3b29bb71e1fa9ea572cb236cb6ccc12c0", func := "loop.example/g01122/laws.FnExactAllRootsUpTo", spec := "fnExactAllRootsUpTo", unfollowed := true, recurses := true, plainKeys := false, apart := false, narrowed := true }
def FnExactAllRootsUpToUptoSaid : Prop := fnExactAllRootsUpToUptoRow.holds Try.pinned (OpenSpec.upto fnExactAllRootsUpToSpec)

end Rows
end Go.Proofs.Ytmjodkckffmnaaa
