/-
  No cell of these rows narrows 'for every input' (looked for: loops, veiled, ifaces, maps, wideKeys, modest, calm, conditions, laid).
  DERIVED. THE GIVEN ROWS OF THIS SEAT. 14 by the template 'for every input the law returns true; each argument reads behind the call as it read before'; 0 by the template 'total and deterministic' (their statements: YtjnpopipdnaaiaaTotals.lean).
  GIVEN WITH THE SEED: the statements are not yours to turn. If you find one false, say at which input.
  Laid BY PROGRAM, IN A SANDBOX (cutbox-rows.mjs): the forced cells as the released guide's own fill.sh prints them over the translation 818043e11c336f43… (all of the seat's roots in one cut). By AI agents, Wed Nov 11 2026. No macro, syntax, notation, axiom, sorry.
-/
import Derived.Test.YtjnpopipdnaaiaaChecked
import GoSem.Claim
import GoSem.ClaimJoined
import GoSem.ClaimMapViews
import Derived.JoinedTies
import Derived.KernelRfl
namespace Go.Proofs.Ytjnpopipdnaaiaa
/- THE CELL 'sum', in the pinned program and in every row, IS THE sha256 OF THE DUMP (.gsa) THAT YtjnpopipdnaaiaaProg.lean LOADS. Nothing in Lean hashes anything: it is a label: what it is worth is what the hold of that sum in a sandbox is worth. -/
noncomputable def Try.pinned : Pinned := { name := "ytjnpopipdnaaiaa", sum := "818043e11c336f43f966a27d77b99aed538efffcbc5b91b9f1f3acf38bad9440", checked := Try.checked }
namespace Rows
def none {H : Type} : Left H := { results := [], args := [] }

/-- 'laws.FnExactIsCircle': WHATEVER THE INPUT: true; the input reads as it did. -/
def fnExactIsCircleSpec : ChangeSpec := { name := "fnExactIsCircle", fn := fun _ => fun
  | [d] => { results := [.lit (.bool true)], args := [d] }
  | _ => none }
def fnExactIsCircleRow : OpenClaim := { program := "ytjnpopipdnaaiaa", sum := "818043e11c336f43f966a27d77b99aed538efffcbc5b91b9f1f3acf38bad9440", func := "loop.example/g01122/laws.FnExactIsCircle", spec := "fnExactIsCircle", unfollowed := true, recurses := true, plainKeys := false, apart := false }
def FnExactIsCircleSaid : Prop := fnExactIsCircleRow.holds Try.pinned (OpenSpec.ofChange fnExactIsCircleSpec)

/-- ITS FALSE NEIGHBOUR: 'it returns false'. Refute it at one input. -/
def fnExactIsCircleWrong : ChangeSpec := { name := "fnExactIsCircle", fn := fun _ => fun
  | [d] => { results := [.lit (.bool false)], args := [d] }
  | _ => none }
def FnExactIsCircleWrongFalsely : Prop := fnExactIsCircleRow.holds Try.pinned (OpenSpec.ofChange fnExactIsCircleWrong)

/-- 'laws.FnExactDoTouch': WHATEVER THE INPUT: true; the input reads as it did. -/
def fnExactDoTouchSpec : ChangeSpec := { name := "fnExactDoTouch", fn := fun _ => fun
  | [d1, d2] => { results := [.lit (.bool true)], args := [d1, d2] }
  | _ => none }
def fnExactDoTouchRow : OpenClaim := { program := "ytjnpopipdnaaiaa", sum := "818043e11c336f43f966a27d77b99aed538efffcbc5b91b9f1f3acf38bad9440", func := "loop.example/g01122/laws.FnExactDoTouch", spec := "fnExactDoTouch", unfollowed := true, recurses := true, plainKeys := false, apart := false }
def FnExactDoTouchSaid : Prop := fnExactDoTouchRow.holds Try.pinned (OpenSpec.ofChange fnExactDoTouchSpec)

/-- ITS FALSE NEIGHBOUR: 'it returns false'. Refute it at one input. -/
def fnExactDoTouchWrong : ChangeSpec := { name := "fnExactDoTouch", fn := fun _ => fun
  | [d1, d2] => { results := [.lit (.bool false)], args := [d1, d2] }
  | _ => none }
def FnExactDoTouchWrongFalsely : Prop := fnExactDoTouchRow.holds Try.pinned (OpenSpec.ofChange fnExactDoTouchWrong)

/-- 'laws.FnExactTwiceProduct': WHATEVER THE INPUT: true; the input reads as it did. -/
def fnExactTwiceProductSpec : ChangeSpec := { name := "fnExactTwiceProduct", fn := fun _ => fun
  | [d1, d2] => { results := [.lit (.bool true)], args := [d1, d2] }
  | _ => none }
def fnExactTwiceProductRow : OpenClaim := { program := "ytjnpopipdnaaiaa", sum := "818043e11c336f43f966a27d77b99aed538efffcbc5b91b9f1f3acf38bad9440", func := "loop.example/g01122/laws.FnExactTwiceProduct", spec := "fnExactTwiceProduct", unfollowed := true, recurses := true, plainKeys := false, apart := false }
def FnExactTwiceProductSaid : Prop := fnExactTwiceProductRow.holds Try.pinned (OpenSpec.ofChange fnExactTwiceProductSpec)

/-- ITS FALSE NEIGHBOUR: 'it returns false'. Refute it at one input. -/
def fnExactTwiceProductWrong : ChangeSpec := { name := "fnExactTwiceProduct", fn := fun _ => fun
  | [d1, d2] => { results := [.lit (.bool false)], args := [d1, d2] }
  | _ => none }
def FnExactTwiceProductWrongFalsely : Prop := fnExactTwiceProductRow.holds Try.pinned (OpenSpec.ofChange fnExactTwiceProductWrong)

/-- 'laws.FnExactFlipCircle': WHATEVER THE INPUT: true; the input reads as it did. -/
def fnExactFlipCircleSpec : ChangeSpec := { name := "fnExactFlipCircle", fn := fun _ => fun
  | [d] => { results := [.lit (.bool true)], args := [d] }
  | _ => none }
def fnExactFlipCircleRow : OpenClaim := { program := "ytjnpopipdnaaiaa", sum := "818043e11c336f43f966a27d77b99aed538efffcbc5b91b9f1f3acf38bad9440", func := "loop.example/g01122/laws.FnExactFlipCircle", spec := "fnExactFlipCircle", unfollowed := true, recurses := true, plainKeys := false, apart := false }
def FnExactFlipCircleSaid : Prop := fnExactFlipCircleRow.holds Try.pinned (OpenSpec.ofChange fnExactFlipCircleSpec)

/-- ITS FALSE NEIGHBOUR: 'it returns false'. Refute it at one input. -/
def fnExactFlipCircleWrong : ChangeSpec := { name := "fnExactFlipCircle", fn := fun _ => fun
  | [d] => { results := [.lit (.bool false)], args := [d] }
  | _ => none }
def FnExactFlipCircleWrongFalsely : Prop := fnExactFlipCircleRow.holds Try.pinned (OpenSpec.ofChange fnExactFlipCircleWrong)

/-- 'laws.FnExactTurnCircle': WHATEVER THE INPUT: true; the input reads as it did. -/
def fnExactTurnCircleSpec : ChangeSpec := { name := "fnExactTurnCircle", fn := fun _ => fun
  | [d] => { results := [.lit (.bool true)], args := [d] }
  | _ => none }
def fnExactTurnCircleRow : OpenClaim := { program := "ytjnpopipdnaaiaa", sum := "818043e11c336f43f966a27d77b99aed538efffcbc5b91b9f1f3acf38bad9440", func := "loop.example/g01122/laws.FnExactTurnCircle", spec := "fnExactTurnCircle", unfollowed := true, recurses := true, plainKeys := false, apart := false }
def FnExactTurnCircleSaid : Prop := fnExactTurnCircleRow.holds Try.pinned (OpenSpec.ofChange fnExactTurnCircleSpec)

/-- ITS FALSE NEIGHBOUR: 'it returns false'. Refute it at one input. -/
def fnExactTurnCircleWrong : ChangeSpec := { name := "fnExactTurnCircle", fn := fun _ => fun
  | [d] => { results := [.lit (.bool false)], args := [d] }
  | _ => none }
def FnExactTurnCircleWrongFalsely : Prop := fnExactTurnCircleRow.holds Try.pinned (OpenSpec.ofChange fnExactTurnCircleWrong)

/-- 'laws.FnExactStartConfig': WHATEVER THE INPUT: true; the input reads as it did. -/
def fnExactStartConfigSpec : ChangeSpec := { name := "fnExactStartConfig", fn := fun _ => fun
  | [d] => { results := [.lit (.bool true)], args := [d] }
  | _ => none }
def fnExactStartConfigRow : OpenClaim := { program := "ytjnpopipdnaaiaa", sum := "818043e11c336f43f966a27d77b99aed538efffcbc5b91b9f1f3acf38bad9440", func := "loop.example/g01122/laws.FnExactStartConfig", spec := "fnExactStartConfig", plainKeys := false, apart := false }
def FnExactStartConfigSaid : Prop := fnExactStartConfigRow.holds Try.pinned (OpenSpec.ofChange fnExactStartConfigSpec)

/-- ITS FALSE NEIGHBOUR: 'it returns false'. Refute it at one input. -/
def fnExactStartConfigWrong : ChangeSpec := { name := "fnExactStartConfig", fn := fun _ => fun
  | [d] => { results := [.lit (.bool false)], args := [d] }
  | _ => none }
def FnExactStartConfigWrongFalsely : Prop := fnExactStartConfigRow.holds Try.pinned (OpenSpec.ofChange fnExactStartConfigWrong)

/-- 'laws.FnExactShiftCircle': WHATEVER THE INPUT: true; the input reads as it did. -/
def fnExactShiftCircleSpec : ChangeSpec := { name := "fnExactShiftCircle", fn := fun _ => fun
  | [d1, d2, d3] => { results := [.lit (.bool true)], args := [d1, d2, d3] }
  | _ => none }
def fnExactShiftCircleRow : OpenClaim := { program := "ytjnpopipdnaaiaa", sum := "818043e11c336f43f966a27d77b99aed538efffcbc5b91b9f1f3acf38bad9440", func := "loop.example/g01122/laws.FnExactShiftCircle", spec := "fnExactShiftCircle", unfollowed := true, recurses := true, plainKeys := false, apart := false }
def FnExactShiftCircleSaid : Prop := fnExactShiftCircleRow.holds Try.pinned (OpenSpec.ofChange fnExactShiftCircleSpec)

/-- ITS FALSE NEIGHBOUR: 'it returns false'. Refute it at one input. -/
def fnExactShiftCircleWrong : ChangeSpec := { name := "fnExactShiftCircle", fn := fun _ => fun
  | [d1, d2, d3] => { results := [.lit (.bool false)], args := [d1, d2, d3] }
  | _ => none }
def FnExactShiftCircleWrongFalsely : Prop := fnExactShiftCircleRow.holds Try.pinned (OpenSpec.ofChange fnExactShiftCircleWrong)

/-- 'laws.FnExactReflectCircle': WHATEVER THE INPUT: true; the input reads as it did. -/
def fnExactReflectCircleSpec : ChangeSpec := { name := "fnExactReflectCircle", fn := fun _ => fun
  | [d1, d2] => { results := [.lit (.bool true)], args := [d1, d2] }
  | _ => none }
def fnExactReflectCircleRow : OpenClaim := { program := "ytjnpopipdnaaiaa", sum := "818043e11c336f43f966a27d77b99aed538efffcbc5b91b9f1f3acf38bad9440", func := "loop.example/g01122/laws.FnExactReflectCircle", spec := "fnExactReflectCircle", unfollowed := true, recurses := true, plainKeys := false, apart := false }
def FnExactReflectCircleSaid : Prop := fnExactReflectCircleRow.holds Try.pinned (OpenSpec.ofChange fnExactReflectCircleSpec)

/-- ITS FALSE NEIGHBOUR: 'it returns false'. Refute it at one input. -/
def fnExactReflectCircleWrong : ChangeSpec := { name := "fnExactReflectCircle", fn := fun _ => fun
  | [d1, d2] => { results := [.lit (.bool false)], args := [d1, d2] }
  | _ => none }
def FnExactReflectCircleWrongFalsely : Prop := fnExactReflectCircleRow.holds Try.pinned (OpenSpec.ofChange fnExactReflectCircleWrong)

/-- 'laws.FnExactIsConfig': WHATEVER THE INPUT: true; the input reads as it did. -/
def fnExactIsConfigSpec : ChangeSpec := { name := "fnExactIsConfig", fn := fun _ => fun
  | [d] => { results := [.lit (.bool true)], args := [d] }
  | _ => none }
def fnExactIsConfigRow : OpenClaim := { program := "ytjnpopipdnaaiaa", sum := "818043e11c336f43f966a27d77b99aed538efffcbc5b91b9f1f3acf38bad9440", func := "loop.example/g01122/laws.FnExactIsConfig", spec := "fnExactIsConfig", unfollowed := true, recurses := true, plainKeys := false, apart := false }
def FnExactIsConfigSaid : Prop := fnExactIsConfigRow.holds Try.pinned (OpenSpec.ofChange fnExactIsConfigSpec)

/-- ITS FALSE NEIGHBOUR: 'it returns false'. Refute it at one input. -/
def fnExactIsConfigWrong : ChangeSpec := { name := "fnExactIsConfig", fn := fun _ => fun
  | [d] => { results := [.lit (.bool false)], args := [d] }
  | _ => none }
def FnExactIsConfigWrongFalsely : Prop := fnExactIsConfigRow.holds Try.pinned (OpenSpec.ofChange fnExactIsConfigWrong)

/-- 'laws.FnExactTouchingPairs': WHATEVER THE INPUT: true; the input reads as it did. -/
def fnExactTouchingPairsSpec : ChangeSpec := { name := "fnExactTouchingPairs", fn := fun _ => fun
  | [d] => { results := [.lit (.bool true)], args := [d] }
  | _ => none }
def fnExactTouchingPairsRow : OpenClaim := { program := "ytjnpopipdnaaiaa", sum := "818043e11c336f43f966a27d77b99aed538efffcbc5b91b9f1f3acf38bad9440", func := "loop.example/g01122/laws.FnExactTouchingPairs", spec := "fnExactTouchingPairs", unfollowed := true, recurses := true, plainKeys := false, apart := false }
def FnExactTouchingPairsSaid : Prop := fnExactTouchingPairsRow.holds Try.pinned (OpenSpec.ofChange fnExactTouchingPairsSpec)

/-- ITS FALSE NEIGHBOUR: 'it returns false'. Refute it at one input. -/
def fnExactTouchingPairsWrong : ChangeSpec := { name := "fnExactTouchingPairs", fn := fun _ => fun
  | [d] => { results := [.lit (.bool false)], args := [d] }
  | _ => none }
def FnExactTouchingPairsWrongFalsely : Prop := fnExactTouchingPairsRow.holds Try.pinned (OpenSpec.ofChange fnExactTouchingPairsWrong)

/-- 'laws.FnExactCurvaturesOf': WHATEVER THE INPUT: true; the input reads as it did. -/
def fnExactCurvaturesOfSpec : ChangeSpec := { name := "fnExactCurvaturesOf", fn := fun _ => fun
  | [d] => { results := [.lit (.bool true)], args := [d] }
  | _ => none }
def fnExactCurvaturesOfRow : OpenClaim := { program := "ytjnpopipdnaaiaa", sum := "818043e11c336f43f966a27d77b99aed538efffcbc5b91b9f1f3acf38bad9440", func := "loop.example/g01122/laws.FnExactCurvaturesOf", spec := "fnExactCurvaturesOf", unfollowed := true, recurses := true, plainKeys := false, apart := false }
def FnExactCurvaturesOfSaid : Prop := fnExactCurvaturesOfRow.holds Try.pinned (OpenSpec.ofChange fnExactCurvaturesOfSpec)

/-- ITS FALSE NEIGHBOUR: 'it returns false'. Refute it at one input. -/
def fnExactCurvaturesOfWrong : ChangeSpec := { name := "fnExactCurvaturesOf", fn := fun _ => fun
  | [d] => { results := [.lit (.bool false)], args := [d] }
  | _ => none }
def FnExactCurvaturesOfWrongFalsely : Prop := fnExactCurvaturesOfRow.holds Try.pinned (OpenSpec.ofChange fnExactCurvaturesOfWrong)

/-- 'laws.FnExactSwapCircle': WHATEVER THE INPUT: true; the input reads as it did. -/
def fnExactSwapCircleSpec : ChangeSpec := { name := "fnExactSwapCircle", fn := fun _ => fun
  | [d1, d2] => { results := [.lit (.bool true)], args := [d1, d2] }
  | _ => none }
def fnExactSwapCircleRow : OpenClaim := { program := "ytjnpopipdnaaiaa", sum := "818043e11c336f43f966a27d77b99aed538efffcbc5b91b9f1f3acf38bad9440", func := "loop.example/g01122/laws.FnExactSwapCircle", spec := "fnExactSwapCircle", unfollowed := true, recurses := true, plainKeys := false, apart := false }
def FnExactSwapCircleSaid : Prop := fnExactSwapCircleRow.holds Try.pinned (OpenSpec.ofChange fnExactSwapCircleSpec)

/-- ITS FALSE NEIGHBOUR: 'it returns false'. Refute it at one input. -/
def fnExactSwapCircleWrong : ChangeSpec := { name := "fnExactSwapCircle", fn := fun _ => fun
  | [d1, d2] => { results := [.lit (.bool false)], args := [d1, d2] }
  | _ => none }
def FnExactSwapCircleWrongFalsely : Prop := fnExactSwapCircleRow.holds Try.pinned (OpenSpec.ofChange fnExactSwapCircleWrong)

/-- 'laws.FnExactFollowCircles': WHATEVER THE INPUT: true; the input reads as it did. -/
def fnExactFollowCirclesSpec : ChangeSpec := { name := "fnExactFollowCircles", fn := fun _ => fun
  | [d1, d2] => { results := [.lit (.bool true)], args := [d1, d2] }
  | _ => none }
def fnExactFollowCirclesRow : OpenClaim := { program := "ytjnpopipdnaaiaa", sum := "818043e11c336f43f966a27d77b99aed538efffcbc5b91b9f1f3acf38bad9440", func := "loop.example/g01122/laws.FnExactFollowCircles", spec := "fnExactFollowCircles", unfollowed := true, recurses := true, plainKeys := false, apart := false }
def FnExactFollowCirclesSaid : Prop := fnExactFollowCirclesRow.holds Try.pinned (OpenSpec.ofChange fnExactFollowCirclesSpec)

/-- ITS FALSE NEIGHBOUR: 'it returns false'. Refute it at one input. -/
def fnExactFollowCirclesWrong : ChangeSpec := { name := "fnExactFollowCircles", fn := fun _ => fun
  | [d1, d2] => { results := [.lit (.bool false)], args := [d1, d2] }
  | _ => none }
def FnExactFollowCirclesWrongFalsely : Prop := fnExactFollowCirclesRow.holds Try.pinned (OpenSpec.ofChange fnExactFollowCirclesWrong)

/-- 'laws.FnExactCirclesUpTo': WHATEVER THE INPUT: true; the input reads as it did. -/
def fnExactCirclesUpToSpec : ChangeSpec := { name := "fnExactCirclesUpTo", fn := fun _ => fun
  | [d1, d2] => { results := [.lit (.bool true)], args := [d1, d2] }
  | _ => none }
def fnExactCirclesUpToRow : OpenClaim := { program := "ytjnpopipdnaaiaa", sum := "818043e11c336f43f966a27d77b99aed538efffcbc5b91b9f1f3acf38bad9440", func := "loop.example/g01122/laws.FnExactCirclesUpTo", spec := "fnExactCirclesUpTo", unfollowed := true, recurses := true, plainKeys := false, apart := false }
def FnExactCirclesUpToSaid : Prop := fnExactCirclesUpToRow.holds Try.pinned (OpenSpec.ofChange fnExactCirclesUpToSpec)

/-- ITS FALSE NEIGHBOUR: 'it returns false'. Refute it at one input. -/
def fnExactCirclesUpToWrong : ChangeSpec := { name := "fnExactCirclesUpTo", fn := fun _ => fun
  | [d1, d2] => { results := [.lit (.bool false)], args := [d1, d2] }
  | _ => none }
def FnExactCirclesUpToWrongFalsely : Prop := fnExactCirclesUpToRow.holds Try.pinned (OpenSpec.ofChange fnExactCirclesUpToWrong)

/- THE SECOND FORM. 'bulk': how many values and letters a reading holds, each counted each time it is reached (what is shared counts as often as it is met; a slice's spare places count too). A statement '..UptoSaid' is the law's where the arguments, and the package variables that the reading takes, are together of bulk at most 1048576: NARROWER than '..Said'. Prove '..Said' where nothing that the law and all that it calls make is longer than what came in: it says more and counts as full. Else prove '..UptoSaid'. A law counts once. -/
mutual
def uptoBulk {H : Type} : DataW H → Nat
  | .lit (.string bytes) => bytes.length + 1
  | .lit _ => 1
  | .nil => 1
  | .ptr d => uptoBulk d + 1
  | .slice elems spare => uptoBulkAll elems + uptoBulkAll spare + 1
  | .agg parts => uptoBulkAll parts + 1
  | .iface _ d => uptoBulk d + 1
  | .map entries => uptoBulkEntries entries + 1
  | .held _ => 1
def uptoBulkAll {H : Type} : List (DataW H) → Nat
  | [] => 0
  | d :: r => uptoBulk d + uptoBulkAll r
def uptoBulkEntries {H : Type} : List (Lit × DataW H) → Nat
  | [] => 0
  | x :: r => uptoBulkEntry x + uptoBulkEntries r
def uptoBulkEntry {H : Type} : Lit × DataW H → Nat
  | (.string bytes, d) => bytes.length + uptoBulk d + 1
  | (_, d) => uptoBulk d + 1
 end
def uptoSmall : (H : Type) → List (DataW H) → Bool := fun _ ds => decide (uptoBulkAll ds ≤ 1048576)
def OpenSpec.upto (s : _root_.Go.ChangeSpec) : _root_.Go.OpenSpec := { _root_.Go.OpenSpec.ofChange s with cond := some uptoSmall }

/-- 'laws.FnExactIsCircle', WHERE WHAT IT READS IS OF BULK AT MOST 1048576: true; the input reads as it did. -/
def fnExactIsCircleUptoRow : OpenClaim := { program := "ytjnpopipdnaaiaa", sum := "818043e11c336f43f966a27d77b99aed538efffcbc5b91b9f1f3acf38bad9440", func := "loop.example/g01122/laws.FnExactIsCircle", spec := "fnExactIsCircle", unfollowed := true, recurses := true, plainKeys := false, apart := false, narrowed := true }
def FnExactIsCircleUptoSaid : Prop := fnExactIsCircleUptoRow.holds Try.pinned (OpenSpec.upto fnExactIsCircleSpec)

/-- 'laws.FnExactDoTouch', WHERE WHAT IT READS IS OF BULK AT MOST 1048576: true; the input reads as it did. -/
def fnExactDoTouchUptoRow : OpenClaim := { program := "ytjnpopipdnaaiaa", sum := "818043e11c336f43f966a27d77b99aed538efffcbc5b91b9f1f3acf38bad9440", func := "loop.example/g01122/laws.FnExactDoTouch", spec := "fnExactDoTouch", unfollowed := true, recurses := true, plainKeys := false, apart := false, narrowed := true }
def FnExactDoTouchUptoSaid : Prop := fnExactDoTouchUptoRow.holds Try.pinned (OpenSpec.upto fnExactDoTouchSpec)

/-- 'laws.FnExactTwiceProduct', WHERE WHAT IT READS IS OF BULK AT MOST 1048576: true; the input reads as it did. -/
def fnExactTwiceProductUptoRow : OpenClaim := { program := "ytjnpopipdnaaiaa", sum := "818043e11c336f43f966a27d77b99aed538efffcbc5b91b9f1f3acf38bad9440", func := "loop.example/g01122/laws.FnExactTwiceProduct", spec := "fnExactTwiceProduct", unfollowed := true, recurses := true, plainKeys := false, apart := false, narrowed := true }
def FnExactTwiceProductUptoSaid : Prop := fnExactTwiceProductUptoRow.holds Try.pinned (OpenSpec.upto fnExactTwiceProductSpec)

/-- 'laws.FnExactFlipCircle', WHERE WHAT IT READS IS OF BULK AT MOST 1048576: true; the input reads as it did. -/
def fnExactFlipCircleUptoRow : OpenClaim := { program := "ytjnpopipdnaaiaa", sum := "818043e11c336f43f966a27d77b99aed538efffcbc5b91b9f1f3acf38bad9440", func := "loop.example/g01122/laws.FnExactFlipCircle", spec := "fnExactFlipCircle", unfollowed := true, recurses := true, plainKeys := false, apart := false, narrowed := true }
def FnExactFlipCircleUptoSaid : Prop := fnExactFlipCircleUptoRow.holds Try.pinned (OpenSpec.upto fnExactFlipCircleSpec)

/-- 'laws.FnExactTurnCircle', WHERE WHAT IT READS IS OF BULK AT MOST 1048576: true; the input reads as it did. -/
def fnExactTurnCircleUptoRow : OpenClaim := { program := "ytjnpopipdnaaiaa", sum := "818043e11c336f43f966a27d77b99aed538efffcbc5b91b9f1f3acf38bad9440", func := "loop.example/g01122/laws.FnExactTurnCircle", spec := "fnExactTurnCircle", unfollowed := true, recurses := true, plainKeys := false, apart := false, narrowed := true }
def FnExactTurnCircleUptoSaid : Prop := fnExactTurnCircleUptoRow.holds Try.pinned (OpenSpec.upto fnExactTurnCircleSpec)

/-- 'laws.FnExactStartConfig', WHERE WHAT IT READS IS OF BULK AT MOST 1048576: true; the input reads as it did. -/
def fnExactStartConfigUptoRow : OpenClaim := { program := "ytjnpopipdnaaiaa", sum := "818043e11c336f43f966a27d77b99aed538efffcbc5b91b9f1f3acf38bad9440", func := "loop.example/g01122/laws.FnExactStartConfig", spec := "fnExactStartConfig", plainKeys := false, apart := false, narrowed := true }
def FnExactStartConfigUptoSaid : Prop := fnExactStartConfigUptoRow.holds Try.pinned (OpenSpec.upto fnExactStartConfigSpec)

/-- 'laws.FnExactShiftCircle', WHERE WHAT IT READS IS OF BULK AT MOST 1048576: true; the input reads as it did. -/
def fnExactShiftCircleUptoRow : OpenClaim := { program := "ytjnpopipdnaaiaa", sum := "818043e11c336f43f966a27d77b99aed538efffcbc5b91b9f1f3acf38bad9440", func := "loop.example/g01122/laws.FnExactShiftCircle", spec := "fnExactShiftCircle", unfollowed := true, recurses := true, plainKeys := false, apart := false, narrowed := true }
def FnExactShiftCircleUptoSaid : Prop := fnExactShiftCircleUptoRow.holds Try.pinned (OpenSpec.upto fnExactShiftCircleSpec)

/-- 'laws.FnExactReflectCircle', WHERE WHAT IT READS IS OF BULK AT MOST 1048576: true; the input reads as it did. -/
def fnExactReflectCircleUptoRow : OpenClaim := { program := "ytjnpopipdnaaiaa", sum := "818043e11c336f43f966a27d77b99aed538efffcbc5b91b9f1f3acf38bad9440", func := "loop.example/g01122/laws.FnExactReflectCircle", spec := "fnExactReflectCircle", unfollowed := true, recurses := true, plainKeys := false, apart := false, narrowed := true }
def FnExactReflectCircleUptoSaid : Prop := fnExactReflectCircleUptoRow.holds Try.pinned (OpenSpec.upto fnExactReflectCircleSpec)

/-- 'laws.FnExactIsConfig', WHERE WHAT IT READS IS OF BULK AT MOST 1048576: true; the input reads as it did. -/
def fnExactIsConfigUptoRow : OpenClaim := { program := "ytjnpopipdnaaiaa", sum := "818043e11c336f43f966a27d77b99aed538efffcbc5b91b9f1f3acf38bad9440", func := "loop.example/g01122/laws.FnExactIsConfig", spec := "fnExactIsConfig", unfollowed := true, recurses := true, plainKeys := false, apart := false, narrowed := true }
def FnExactIsConfigUptoSaid : Prop := fnExactIsConfigUptoRow.holds Try.pinned (OpenSpec.upto fnExactIsConfigSpec)

/-- 'laws.FnExactTouchingPairs', WHERE WHAT IT READS IS OF BULK AT MOST 1048576: true; the input reads as it did. -/
def fnExactTouchingPairsUptoRow : OpenClaim := { program := "ytjnpopipdnaaiaa", sum := "818043e11c336f43f966a27d77b99aed538efffcbc5b91b9f1f3acf38bad9440", func := "loop.example/g01122/laws.FnExactTouchingPairs", spec := "fnExactTouchingPairs", unfollowed := true, recurses := true, plainKeys := false, apart := false, narrowed := true }
def FnExactTouchingPairsUptoSaid : Prop := fnExactTouchingPairsUptoRow.holds Try.pinned (OpenSpec.upto fnExactTouchingPairsSpec)

/-- 'laws.FnExactCurvaturesOf', WHERE WHAT IT READS IS OF BULK AT MOST 1048576: true; the input reads as it did. -/
def fnExactCurvaturesOfUptoRow : OpenClaim := { program := "ytjnpopipdnaaiaa", sum := "818043e11c336f43f966a27d77b99aed538efffcbc5b91b9f1f3acf38bad9440", func := "loop.example/g01122/laws.FnExactCurvaturesOf", spec := "fnExactCurvaturesOf", unfollowed := true, recurses := true, plainKeys := false, apart := false, narrowed := true }
def FnExactCurvaturesOfUptoSaid : Prop := fnExactCurvaturesOfUptoRow.holds Try.pinned (OpenSpec.upto fnExactCurvaturesOfSpec)

/-- 'laws.FnExactSwapCircle', WHERE WHAT IT READS IS OF BULK AT MOST 1048576: true; the input reads as it did. -/
def fnExactSwapCircleUptoRow : OpenClaim := { program := "ytjnpopipdnaaiaa", sum := "818043e11c336f43f966a27d77b99aed538efffcbc5b91b9f1f3acf38bad9440", func := "loop.example/g01122/laws.FnExactSwapCircle", spec := "fnExactSwapCircle", unfollowed := true, recurses := true, plainKeys := false, apart := false, narrowed := true }
def FnExactSwapCircleUptoSaid : Prop := fnExactSwapCircleUptoRow.holds Try.pinned (OpenSpec.upto fnExactSwapCircleSpec)

/-- 'laws.FnExactFollowCircles', WHERE WHAT IT READS IS OF BULK AT MOST 1048576: true; the input reads as it did. -/
def fnExactFollowCirclesUptoRow : OpenClaim := { program := "ytjnpopipdnaaiaa", sum := "818043e11c336f43f966a27d77b99aed538efffcbc5b91b9f1f3acf38bad9440", func := "loop.example/g01122/laws.FnExactFollowCircles", spec := "fnExactFollowCircles", unfollowed := true, recurses := true, plainKeys := false, apart := false, narrowed := true }
def FnExactFollowCirclesUptoSaid : Prop := fnExactFollowCirclesUptoRow.holds Try.pinned (OpenSpec.upto fnExactFollowCirclesSpec)

/-- 'laws.FnExactCirclesUpTo', WHERE WHAT IT READS IS OF BULK AT MOST 1048576: true; the input reads as it did. -/
def fnExactCirclesUpToUptoRow : OpenClaim := { program := "ytjnpopipdnaaiaa", sum := "818043e11c336f43f966a27d77b99aed538efffcbc5b91b9f1f3acf38bad9440", func := "loop.example/g01122/laws.FnExactCirclesUpTo", spec := "fnExactCirclesUpTo", unfollowed := true, recurses := true, plainKeys := false, apart := false, narrowed := true }
def FnExactCirclesUpToUptoSaid : Prop := fnExactCirclesUpToUptoRow.holds Try.pinned (OpenSpec.upto fnExactCirclesUpToSpec)

end Rows
end Go.Proofs.Ytjnpopipdnaaiaa
