/-
  No cell of these rows narrows 'for every input' (looked for: loops, veiled, ifaces, maps, wideKeys, modest, calm, conditions, laid).
  DERIVED. THE GIVEN ROWS OF THIS SEAT. 13 by the template 'for every input the law returns true; each argument reads behind the call as it read before'; 0 by the template 'total and deterministic' (their statements: YtmjgklpccdigfaaTotals.lean).
  GIVEN WITH THE SEED: the statements are not yours to turn. If you find one false, say at which input.
  Laid BY PROGRAM, IN A SANDBOX (cutbox-rows.mjs): the forced cells as the released guide's own fill.sh prints them over the translation 638366d64ae3c191… (all of the seat's roots in one cut). By AI agents, Wed Nov 11 2026. No macro, syntax, notation, axiom, sorry.
-/
import Derived.Test.YtmjgklpccdigfaaChecked
import GoSem.Claim
import GoSem.ClaimJoined
import GoSem.ClaimMapViews
import Derived.JoinedTies
import Derived.KernelRfl
namespace Go.Proofs.Ytmjgklpccdigfaa
/- THE CELL 'sum', in the pinned program and in every row, IS THE sha256 OF THE DUMP (.gsa) THAT YtmjgklpccdigfaaProg.lean LOADS. Nothing in Lean hashes anything: it is a label: what it is worth is what the hold of that sum in a sandbox is worth. -/
noncomputable def Try.pinned : Pinned := { name := "ytmjgklpccdigfaa", sum := "638366d64ae3c19135ff2c96d96e6b8e25876994fe377aa8d5b015abb7c81484", checked := Try.checked }
namespace Rows
def none {H : Type} : Left H := { results := [], args := [] }

/-- 'laws.FnExactIsRight': WHATEVER THE INPUT: true; the input reads as it did. -/
def fnExactIsRightSpec : ChangeSpec := { name := "fnExactIsRight", fn := fun _ => fun
  | [d] => { results := [.lit (.bool true)], args := [d] }
  | _ => none }
def fnExactIsRightRow : OpenClaim := { program := "ytmjgklpccdigfaa", sum := "638366d64ae3c19135ff2c96d96e6b8e25876994fe377aa8d5b015abb7c81484", func := "loop.example/g01122/laws.FnExactIsRight", spec := "fnExactIsRight", unfollowed := true, recurses := true, apart := false }
def FnExactIsRightSaid : Prop := fnExactIsRightRow.holds Try.pinned (OpenSpec.ofChange fnExactIsRightSpec)

/-- ITS FALSE NEIGHBOUR: 'it returns false'. Refute it at one input. -/
def fnExactIsRightWrong : ChangeSpec := { name := "fnExactIsRight", fn := fun _ => fun
  | [d] => { results := [.lit (.bool false)], args := [d] }
  | _ => none }
def FnExactIsRightWrongFalsely : Prop := fnExactIsRightRow.holds Try.pinned (OpenSpec.ofChange fnExactIsRightWrong)

/-- 'laws.FnExactInnerRadius': WHATEVER THE INPUT: true; the input reads as it did. -/
def fnExactInnerRadiusSpec : ChangeSpec := { name := "fnExactInnerRadius", fn := fun _ => fun
  | [d] => { results := [.lit (.bool true)], args := [d] }
  | _ => none }
def fnExactInnerRadiusRow : OpenClaim := { program := "ytmjgklpccdigfaa", sum := "638366d64ae3c19135ff2c96d96e6b8e25876994fe377aa8d5b015abb7c81484", func := "loop.example/g01122/laws.FnExactInnerRadius", spec := "fnExactInnerRadius", unfollowed := true, recurses := true, apart := false }
def FnExactInnerRadiusSaid : Prop := fnExactInnerRadiusRow.holds Try.pinned (OpenSpec.ofChange fnExactInnerRadiusSpec)

/-- ITS FALSE NEIGHBOUR: 'it returns false'. Refute it at one input. -/
def fnExactInnerRadiusWrong : ChangeSpec := { name := "fnExactInnerRadius", fn := fun _ => fun
  | [d] => { results := [.lit (.bool false)], args := [d] }
  | _ => none }
def FnExactInnerRadiusWrongFalsely : Prop := fnExactInnerRadiusRow.holds Try.pinned (OpenSpec.ofChange fnExactInnerRadiusWrong)

/-- 'laws.FnExactPairOfRight': WHATEVER THE INPUT: true; the input reads as it did. -/
def fnExactPairOfRightSpec : ChangeSpec := { name := "fnExactPairOfRight", fn := fun _ => fun
  | [d] => { results := [.lit (.bool true)], args := [d] }
  | _ => none }
def fnExactPairOfRightRow : OpenClaim := { program := "ytmjgklpccdigfaa", sum := "638366d64ae3c19135ff2c96d96e6b8e25876994fe377aa8d5b015abb7c81484", func := "loop.example/g01122/laws.FnExactPairOfRight", spec := "fnExactPairOfRight", unfollowed := true, recurses := true, apart := false }
def FnExactPairOfRightSaid : Prop := fnExactPairOfRightRow.holds Try.pinned (OpenSpec.ofChange fnExactPairOfRightSpec)

/-- ITS FALSE NEIGHBOUR: 'it returns false'. Refute it at one input. -/
def fnExactPairOfRightWrong : ChangeSpec := { name := "fnExactPairOfRight", fn := fun _ => fun
  | [d] => { results := [.lit (.bool false)], args := [d] }
  | _ => none }
def FnExactPairOfRightWrongFalsely : Prop := fnExactPairOfRightRow.holds Try.pinned (OpenSpec.ofChange fnExactPairOfRightWrong)

/-- 'laws.FnExactRightByBerg': WHATEVER THE INPUT: true; the input reads as it did. -/
def fnExactRightByBergSpec : ChangeSpec := { name := "fnExactRightByBerg", fn := fun _ => fun
  | [d] => { results := [.lit (.bool true)], args := [d] }
  | _ => none }
def fnExactRightByBergRow : OpenClaim := { program := "ytmjgklpccdigfaa", sum := "638366d64ae3c19135ff2c96d96e6b8e25876994fe377aa8d5b015abb7c81484", func := "loop.example/g01122/laws.FnExactRightByBerg", spec := "fnExactRightByBerg", unfollowed := true, recurses := true, apart := false }
def FnExactRightByBergSaid : Prop := fnExactRightByBergRow.holds Try.pinned (OpenSpec.ofChange fnExactRightByBergSpec)

/-- ITS FALSE NEIGHBOUR: 'it returns false'. Refute it at one input. -/
def fnExactRightByBergWrong : ChangeSpec := { name := "fnExactRightByBerg", fn := fun _ => fun
  | [d] => { results := [.lit (.bool false)], args := [d] }
  | _ => none }
def FnExactRightByBergWrongFalsely : Prop := fnExactRightByBergRow.holds Try.pinned (OpenSpec.ofChange fnExactRightByBergWrong)

/-- 'laws.FnExactRightByPrice': WHATEVER THE INPUT: true; the input reads as it did. -/
def fnExactRightByPriceSpec : ChangeSpec := { name := "fnExactRightByPrice", fn := fun _ => fun
  | [d] => { results := [.lit (.bool true)], args := [d] }
  | _ => none }
def fnExactRightByPriceRow : OpenClaim := { program := "ytmjgklpccdigfaa", sum := "638366d64ae3c19135ff2c96d96e6b8e25876994fe377aa8d5b015abb7c81484", func := "loop.example/g01122/laws.FnExactRightByPrice", spec := "fnExactRightByPrice", unfollowed := true, recurses := true, apart := false }
def FnExactRightByPriceSaid : Prop := fnExactRightByPriceRow.holds Try.pinned (OpenSpec.ofChange fnExactRightByPriceSpec)

/-- ITS FALSE NEIGHBOUR: 'it returns false'. Refute it at one input. -/
def fnExactRightByPriceWrong : ChangeSpec := { name := "fnExactRightByPrice", fn := fun _ => fun
  | [d] => { results := [.lit (.bool false)], args := [d] }
  | _ => none }
def FnExactRightByPriceWrongFalsely : Prop := fnExactRightByPriceRow.holds Try.pinned (OpenSpec.ofChange fnExactRightByPriceWrong)

/-- 'laws.FnExactBergParent': WHATEVER THE INPUT: true; the input reads as it did. -/
def fnExactBergParentSpec : ChangeSpec := { name := "fnExactBergParent", fn := fun _ => fun
  | [d] => { results := [.lit (.bool true)], args := [d] }
  | _ => none }
def fnExactBergParentRow : OpenClaim := { program := "ytmjgklpccdigfaa", sum := "638366d64ae3c19135ff2c96d96e6b8e25876994fe377aa8d5b015abb7c81484", func := "loop.example/g01122/laws.FnExactBergParent", spec := "fnExactBergParent", unfollowed := true, recurses := true, apart := false }
def FnExactBergParentSaid : Prop := fnExactBergParentRow.holds Try.pinned (OpenSpec.ofChange fnExactBergParentSpec)

/-- ITS FALSE NEIGHBOUR: 'it returns false'. Refute it at one input. -/
def fnExactBergParentWrong : ChangeSpec := { name := "fnExactBergParent", fn := fun _ => fun
  | [d] => { results := [.lit (.bool false)], args := [d] }
  | _ => none }
def FnExactBergParentWrongFalsely : Prop := fnExactBergParentRow.holds Try.pinned (OpenSpec.ofChange fnExactBergParentWrong)

/-- 'laws.FnExactPriceParent': WHATEVER THE INPUT: true; the input reads as it did. -/
def fnExactPriceParentSpec : ChangeSpec := { name := "fnExactPriceParent", fn := fun _ => fun
  | [d] => { results := [.lit (.bool true)], args := [d] }
  | _ => none }
def fnExactPriceParentRow : OpenClaim := { program := "ytmjgklpccdigfaa", sum := "638366d64ae3c19135ff2c96d96e6b8e25876994fe377aa8d5b015abb7c81484", func := "loop.example/g01122/laws.FnExactPriceParent", spec := "fnExactPriceParent", unfollowed := true, recurses := true, apart := false }
def FnExactPriceParentSaid : Prop := fnExactPriceParentRow.holds Try.pinned (OpenSpec.ofChange fnExactPriceParentSpec)

/-- ITS FALSE NEIGHBOUR: 'it returns false'. Refute it at one input. -/
def fnExactPriceParentWrong : ChangeSpec := { name := "fnExactPriceParent", fn := fun _ => fun
  | [d] => { results := [.lit (.bool false)], args := [d] }
  | _ => none }
def FnExactPriceParentWrongFalsely : Prop := fnExactPriceParentRow.holds Try.pinned (OpenSpec.ofChange fnExactPriceParentWrong)

/-- 'laws.FnExactBergChild': WHATEVER THE INPUT: true; the input reads as it did. -/
def fnExactBergChildSpec : ChangeSpec := { name := "fnExactBergChild", fn := fun _ => fun
  | [d1, d2] => { results := [.lit (.bool true)], args := [d1, d2] }
  | _ => none }
def fnExactBergChildRow : OpenClaim := { program := "ytmjgklpccdigfaa", sum := "638366d64ae3c19135ff2c96d96e6b8e25876994fe377aa8d5b015abb7c81484", func := "loop.example/g01122/laws.FnExactBergChild", spec := "fnExactBergChild", unfollowed := true, recurses := true, apart := false }
def FnExactBergChildSaid : Prop := fnExactBergChildRow.holds Try.pinned (OpenSpec.ofChange fnExactBergChildSpec)

/-- ITS FALSE NEIGHBOUR: 'it returns false'. Refute it at one input. -/
def fnExactBergChildWrong : ChangeSpec := { name := "fnExactBergChild", fn := fun _ => fun
  | [d1, d2] => { results := [.lit (.bool false)], args := [d1, d2] }
  | _ => none }
def FnExactBergChildWrongFalsely : Prop := fnExactBergChildRow.holds Try.pinned (OpenSpec.ofChange fnExactBergChildWrong)

/-- 'laws.FnExactPriceChild': WHATEVER THE INPUT: true; the input reads as it did. -/
def fnExactPriceChildSpec : ChangeSpec := { name := "fnExactPriceChild", fn := fun _ => fun
  | [d1, d2] => { results := [.lit (.bool true)], args := [d1, d2] }
  | _ => none }
def fnExactPriceChildRow : OpenClaim := { program := "ytmjgklpccdigfaa", sum := "638366d64ae3c19135ff2c96d96e6b8e25876994fe377aa8d5b015abb7c81484", func := "loop.example/g01122/laws.FnExactPriceChild", spec := "fnExactPriceChild", unfollowed := true, recurses := true, apart := false }
def FnExactPriceChildSaid : Prop := fnExactPriceChildRow.holds Try.pinned (OpenSpec.ofChange fnExactPriceChildSpec)

/-- ITS FALSE NEIGHBOUR: 'it returns false'. Refute it at one input. -/
def fnExactPriceChildWrong : ChangeSpec := { name := "fnExactPriceChild", fn := fun _ => fun
  | [d1, d2] => { results := [.lit (.bool false)], args := [d1, d2] }
  | _ => none }
def FnExactPriceChildWrongFalsely : Prop := fnExactPriceChildRow.holds Try.pinned (OpenSpec.ofChange fnExactPriceChildWrong)

/-- 'laws.FnExactBergWord': WHATEVER THE INPUT: true; the input reads as it did. -/
def fnExactBergWordSpec : ChangeSpec := { name := "fnExactBergWord", fn := fun _ => fun
  | [d] => { results := [.lit (.bool true)], args := [d] }
  | _ => none }
def fnExactBergWordRow : OpenClaim := { program := "ytmjgklpccdigfaa", sum := "638366d64ae3c19135ff2c96d96e6b8e25876994fe377aa8d5b015abb7c81484", func := "loop.example/g01122/laws.FnExactBergWord", spec := "fnExactBergWord", unfollowed := true, recurses := true, apart := false }
def FnExactBergWordSaid : Prop := fnExactBergWordRow.holds Try.pinned (OpenSpec.ofChange fnExactBergWordSpec)

/-- ITS FALSE NEIGHBOUR: 'it returns false'. Refute it at one input. -/
def fnExactBergWordWrong : ChangeSpec := { name := "fnExactBergWord", fn := fun _ => fun
  | [d] => { results := [.lit (.bool false)], args := [d] }
  | _ => none }
def FnExactBergWordWrongFalsely : Prop := fnExactBergWordRow.holds Try.pinned (OpenSpec.ofChange fnExactBergWordWrong)

/-- 'laws.FnExactPriceWord': WHATEVER THE INPUT: true; the input reads as it did. -/
def fnExactPriceWordSpec : ChangeSpec := { name := "fnExactPriceWord", fn := fun _ => fun
  | [d] => { results := [.lit (.bool true)], args := [d] }
  | _ => none }
def fnExactPriceWordRow : OpenClaim := { program := "ytmjgklpccdigfaa", sum := "638366d64ae3c19135ff2c96d96e6b8e25876994fe377aa8d5b015abb7c81484", func := "loop.example/g01122/laws.FnExactPriceWord", spec := "fnExactPriceWord", unfollowed := true, recurses := true, apart := false }
def FnExactPriceWordSaid : Prop := fnExactPriceWordRow.holds Try.pinned (OpenSpec.ofChange fnExactPriceWordSpec)

/-- ITS FALSE NEIGHBOUR: 'it returns false'. Refute it at one input. -/
def fnExactPriceWordWrong : ChangeSpec := { name := "fnExactPriceWord", fn := fun _ => fun
  | [d] => { results := [.lit (.bool false)], args := [d] }
  | _ => none }
def FnExactPriceWordWrongFalsely : Prop := fnExactPriceWordRow.holds Try.pinned (OpenSpec.ofChange fnExactPriceWordWrong)

/-- 'laws.FnExactCountRight': WHATEVER THE INPUT: true; the input reads as it did. -/
def fnExactCountRightSpec : ChangeSpec := { name := "fnExactCountRight", fn := fun _ => fun
  | [d] => { results := [.lit (.bool true)], args := [d] }
  | _ => none }
def fnExactCountRightRow : OpenClaim := { program := "ytmjgklpccdigfaa", sum := "638366d64ae3c19135ff2c96d96e6b8e25876994fe377aa8d5b015abb7c81484", func := "loop.example/g01122/laws.FnExactCountRight", spec := "fnExactCountRight", unfollowed := true, recurses := true, apart := false }
def FnExactCountRightSaid : Prop := fnExactCountRightRow.holds Try.pinned (OpenSpec.ofChange fnExactCountRightSpec)

/-- ITS FALSE NEIGHBOUR: 'it returns false'. Refute it at one input. -/
def fnExactCountRightWrong : ChangeSpec := { name := "fnExactCountRight", fn := fun _ => fun
  | [d] => { results := [.lit (.bool false)], args := [d] }
  | _ => none }
def FnExactCountRightWrongFalsely : Prop := fnExactCountRightRow.holds Try.pinned (OpenSpec.ofChange fnExactCountRightWrong)

/-- 'laws.FnExactRightUpTo': WHATEVER THE INPUT: true; the input reads as it did. -/
def fnExactRightUpToSpec : ChangeSpec := { name := "fnExactRightUpTo", fn := fun _ => fun
  | [d] => { results := [.lit (.bool true)], args := [d] }
  | _ => none }
def fnExactRightUpToRow : OpenClaim := { program := "ytmjgklpccdigfaa", sum := "638366d64ae3c19135ff2c96d96e6b8e25876994fe377aa8d5b015abb7c81484", func := "loop.example/g01122/laws.FnExactRightUpTo", spec := "fnExactRightUpTo", unfollowed := true, recurses := true, apart := false }
def FnExactRightUpToSaid : Prop := fnExactRightUpToRow.holds Try.pinned (OpenSpec.ofChange fnExactRightUpToSpec)

/-- ITS FALSE NEIGHBOUR: 'it returns false'. Refute it at one input. -/
def fnExactRightUpToWrong : ChangeSpec := { name := "fnExactRightUpTo", fn := fun _ => fun
  | [d] => { results := [.lit (.bool false)], args := [d] }
  | _ => none }
def FnExactRightUpToWrongFalsely : Prop := fnExactRightUpToRow.holds Try.pinned (OpenSpec.ofChange fnExactRightUpToWrong)

/- THE SECOND FORM. 'bulk': how many values and letters a reading holds, each counted each time it is reached (what is shared counts as often as it is met; a slice's spare places count too). A statement '..UptoSaid' is the law's where the arguments, and the package variables that the reading takes, are together of bulk at most 1048576: NARROWER than '..Said'. Prove '..Said' where nothing that the law and all that it calls make is longer than what came in: it says more and counts as full. Else prove '..UptoSaid'. A law counts once. -/
mutual
def uptoBulk {H : Type} : DataW H → Nat
  | .lit (.string bytes) => bytes.length + 1
  | .lit _ => 1
  | .nil => 1
  | .ptr d => uptoBulk d + 1
  | .slice elems spare => uptoBulkAll elems + uptoBulkAll spare + 1
  | .agg parts => uptoBulkAll parts + 1
  | .iface _ d => uptoBulk d + 1
  | .map entries => uptoBulkEntries entries + 1
  | .held _ => 1
def uptoBulkAll {H : Type} : List (DataW H) → Nat
  | [] => 0
  | d :: r => uptoBulk d + uptoBulkAll r
def uptoBulkEntries {H : Type} : List (Lit × DataW H) → Nat
  | [] => 0
  | x :: r => uptoBulkEntry x + uptoBulkEntries r
def uptoBulkEntry {H : Type} : Lit × DataW H → Nat
  | (.string bytes, d) => bytes.length + uptoBulk d + 1
  | (_, d) => uptoBulk d + 1
 end
def uptoSmall : (H : Type) → List (DataW H) → Bool := fun _ ds => decide (uptoBulkAll ds ≤ 1048576)
def OpenSpec.upto (s : _root_.Go.ChangeSpec) : _root_.Go.OpenSpec := { _root_.Go.OpenSpec.ofChange s with cond := some uptoSmall }

/-- 'laws.FnExactIsRight', WHERE WHAT IT READS IS OF BULK AT MOST 1048576: true; the input reads as it did. -/
def fnExactIsRightUptoRow : OpenClaim := { program := "ytmjgklpccdigfaa", sum := "638366d64ae3c19135ff2c96d96e6b8e25876994fe377aa8d5b015abb7c81484", func := "loop.example/g01122/laws.FnExactIsRight", spec := "fnExactIsRight", unfollowed := true, recurses := true, apart := false, narrowed := true }
def FnExactIsRightUptoSaid : Prop := fnExactIsRightUptoRow.holds Try.pinned (OpenSpec.upto fnExactIsRightSpec)

/-- 'laws.FnExactInnerRadius', WHERE WHAT IT READS IS OF BULK AT MOST 1048576: true; the input reads as it did. -/
def fnExactInnerRadiusUptoRow : OpenClaim := { program := "ytmjgklpccdigfaa", sum := "638366d64ae3c19135ff2c96d96e6b8e25876994fe377aa8d5b015abb7c81484", func := "loop.example/g01122/laws.FnExactInnerRadius", spec := "fnExactInnerRadius", unfollowed := true, recurses := true, apart := false, narrowed := true }
def FnExactInnerRadiusUptoSaid : Prop := fnExactInnerRadiusUptoRow.holds Try.pinned (OpenSpec.upto fnExactInnerRadiusSpec)

/-- 'laws.FnExactPairOfRight', WHERE WHAT IT READS IS OF BULK AT MOST 1048576: true; the input reads as it did. -/
def fnExactPairOfRightUptoRow : OpenClaim := { program := "ytmjgklpccdigfaa", sum := "638366d64ae3c19135ff2c96d96e6b8e25876994fe377aa8d5b015abb7c81484", func := "loop.example/g01122/laws.FnExactPairOfRight", spec := "fnExactPairOfRight", unfollowed := true, recurses := true, apart := false, narrowed := true }
def FnExactPairOfRightUptoSaid : Prop := fnExactPairOfRightUptoRow.holds Try.pinned (OpenSpec.upto fnExactPairOfRightSpec)

/-- 'laws.FnExactRightByBerg', WHERE WHAT IT READS IS OF BULK AT MOST 1048576: true; the input reads as it did. -/
def fnExactRightByBergUptoRow : OpenClaim := { program := "ytmjgklpccdigfaa", sum := "638366d64ae3c19135ff2c96d96e6b8e25876994fe377aa8d5b015abb7c81484", func := "loop.example/g01122/laws.FnExactRightByBerg", spec := "fnExactRightByBerg", unfollowed := true, recurses := true, apart := false, narrowed := true }
def FnExactRightByBergUptoSaid : Prop := fnExactRightByBergUptoRow.holds Try.pinned (OpenSpec.upto fnExactRightByBergSpec)

/-- 'laws.FnExactRightByPrice', WHERE WHAT IT READS IS OF BULK AT MOST 1048576: true; the input reads as it did. -/
def fnExactRightByPriceUptoRow : OpenClaim := { program := "ytmjgklpccdigfaa", sum := "638366d64ae3c19135ff2c96d96e6b8e25876994fe377aa8d5b015abb7c81484", func := "loop.example/g01122/laws.FnExactRightByPrice", spec := "fnExactRightByPrice", unfollowed := true, recurses := true, apart := false, narrowed := true }
def FnExactRightByPriceUptoSaid : Prop := fnExactRightByPriceUptoRow.holds Try.pinned (OpenSpec.upto fnExactRightByPriceSpec)

/-- 'laws.FnExactBergParent', WHERE WHAT IT READS IS OF BULK AT MOST 1048576: true; the input reads as it did. -/
def fnExactBergParentUptoRow : OpenClaim := { program := "ytmjgklpccdigfaa", sum := "638366d64ae3c19135ff2c96d96e6b8e25876994fe377aa8d5b015abb7c81484", func := "loop.example/g01122/laws.FnExactBergParent", spec := "fnExactBergParent", unfollowed := true, recurses := true, apart := false, narrowed := true }
def FnExactBergParentUptoSaid : Prop := fnExactBergParentUptoRow.holds Try.pinned (OpenSpec.upto fnExactBergParentSpec)

/-- 'laws.FnExactPriceParent', WHERE WHAT IT READS IS OF BULK AT MOST 1048576: true; the input reads as it did. -/
def fnExactPriceParentUptoRow : OpenClaim := { program := "ytmjgklpccdigfaa", sum := "638366d64ae3c19135ff2c96d96e6b8e25876994fe377aa8d5b015abb7c81484", func := "loop.example/g01122/laws.FnExactPriceParent", spec := "fnExactPriceParent", unfollowed := true, recurses := true, apart := false, narrowed := true }
def FnExactPriceParentUptoSaid : Prop := fnExactPriceParentUptoRow.holds Try.pinned (OpenSpec.upto fnExactPriceParentSpec)

/-- 'laws.FnExactBergChild', WHERE WHAT IT READS IS OF BULK AT MOST 1048576: true; the input reads as it did. -/
def fnExactBergChildUptoRow : OpenClaim := { program := "ytmjgklpccdigfaa", sum := "638366d64ae3c19135ff2c96d96e6b8e25876994fe377aa8d5b015abb7c81484", func := "loop.example/g01122/laws.FnExactBergChild", spec := "fnExactBergChild", unfollowed := true, recurses := true, apart := false, narrowed := true }
def FnExactBergChildUptoSaid : Prop := fnExactBergChildUptoRow.holds Try.pinned (OpenSpec.upto fnExactBergChildSpec)

/-- 'laws.FnExactPriceChild', WHERE WHAT IT READS IS OF BULK AT MOST 1048576: true; the input reads as it did. -/
def fnExactPriceChildUptoRow : OpenClaim := { program := "ytmjgklpccdigfaa", sum := "638366d64ae3c19135ff2c96d96e6b8e25876994fe377aa8d5b015abb7c81484", func := "loop.example/g01122/laws.FnExactPriceChild", spec := "fnExactPriceChild", unfollowed := true, recurses := true, apart := false, narrowed := true }
def FnExactPriceChildUptoSaid : Prop := fnExactPriceChildUptoRow.holds Try.pinned (OpenSpec.upto fnExactPriceChildSpec)

/-- 'laws.FnExactBergWord', WHERE WHAT IT READS IS OF BULK AT MOST 1048576: true; the input reads as it did. -/
def fnExactBergWordUptoRow : OpenClaim := { program := "ytmjgklpccdigfaa", sum := "638366d64ae3c19135ff2c96d96e6b8e25876994fe377aa8d5b015abb7c81484", func := "loop.example/g01122/laws.FnExactBergWord", spec := "fnExactBergWord", unfollowed := true, recurses := true, apart := false, narrowed := true }
def FnExactBergWordUptoSaid : Prop := fnExactBergWordUptoRow.holds Try.pinned (OpenSpec.upto fnExactBergWordSpec)

/-- 'laws.FnExactPriceWord', WHERE WHAT IT READS IS OF BULK AT MOST 1048576: true; the input reads as it did. -/
def fnExactPriceWordUptoRow : OpenClaim := { program := "ytmjgklpccdigfaa", sum := "638366d64ae3c19135ff2c96d96e6b8e25876994fe377aa8d5b015abb7c81484", func := "loop.example/g01122/laws.FnExactPriceWord", spec := "fnExactPriceWord", unfollowed := true, recurses := true, apart := false, narrowed := true }
def FnExactPriceWordUptoSaid : Prop := fnExactPriceWordUptoRow.holds Try.pinned (OpenSpec.upto fnExactPriceWordSpec)

/-- 'laws.FnExactCountRight', WHERE WHAT IT READS IS OF BULK AT MOST 1048576: true; the input reads as it did. -/
def fnExactCountRightUptoRow : OpenClaim := { program := "ytmjgklpccdigfaa", sum := "638366d64ae3c19135ff2c96d96e6b8e25876994fe377aa8d5b015abb7c81484", func := "loop.example/g01122/laws.FnExactCountRight", spec := "fnExactCountRight", unfollowed := true, recurses := true, apart := false, narrowed := true }
def FnExactCountRightUptoSaid : Prop := fnExactCountRightUptoRow.holds Try.pinned (OpenSpec.upto fnExactCountRightSpec)

/-- 'laws.FnExactRightUpTo', WHERE WHAT IT READS IS OF BULK AT MOST 1048576: true; the input reads as it did. -/
def fnExactRightUpToUptoRow : OpenClaim := { program := "ytmjgklpccdigfaa", sum := "638366d64ae3c19135ff2c96d96e6b8e25876994fe377aa8d5b015abb7c81484", func := "loop.example/g01122/laws.FnExactRightUpTo", spec := "fnExactRightUpTo", unfollowed := true, recurses := true, apart := false, narrowed := true }
def FnExactRightUpToUptoSaid : Prop := fnExactRightUpToUptoRow.holds Try.pinned (OpenSpec.upto fnExactRightUpToSpec)

end Rows
end Go.Proofs.Ytmjgklpccdigfaa
