/- The functions' names as lists of characters, and: a function is found by its name; there is no condition. -/
import Derived.Test.YtaebcdonekpbiaaRows
namespace Go.Proofs.Ytaebcdonekpbiaa.Nm
def ch (l : List Nat) : List Char := l.map Char.ofNat
def a : List Char := ch [108,111,111,112,46,101,120,97,109,112,108,101,47,103,48,49,49,50,50,47]
def L : List (List Char) := [ch [109,97,105,110,46,109,97,105,110],
  ch [103,111,115,101,109,46,99,117,116],
  ch [103,111,115,101,109,46,99,117,116,46,105,110,105,116],
  a ++ ch [108,97,119,115,46,70,110,69,120,97,99,116,82,101,115,105,100,117,101,115,79,102],
  a ++ ch [115,112,101,99,46,82,101,115,105,100,117,101,115,79,102],
  a ++ ch [108,97,119,115,46,116,111,73,110,116,83],
  a ++ ch [105,109,112,108,46,82,101,115,105,100,117,101,115,79,102],
  a ++ ch [108,97,119,115,46,101,113,73,110,116,83],
  a ++ ch [108,97,119,115,46,109,97,114,107,73,110,116,83],
  a ++ ch [108,97,119,115,46,104,101,108,100,73,110,116,83],
  a ++ ch [115,112,101,99,46,97,112,71,111,111,100],
  a ++ ch [115,112,101,99,46,97,112,83,99,97,108,101],
  a ++ ch [115,112,101,99,46,97,112,67,111,100,101],
  a ++ ch [115,112,101,99,46,108,49,80,117,116],
  a ++ ch [115,112,101,99,46,97,112,83,119,97,112],
  a ++ ch [105,109,112,108,46,73,115,81,117,97,100],
  a ++ ch [105,109,112,108,46,115,99,97,108,101],
  a ++ ch [105,109,112,108,46,82,101,115,105,100,117,101,115,79,102,36,49],
  a ++ ch [105,109,112,108,46,115,119,97,112,112,101,100],
  a ++ ch [115,112,101,99,46,108,49,65,108,108],
  a ++ ch [115,112,101,99,46,102,111,71,99,100],
  a ++ ch [115,112,101,99,46,108,49,79,119,110],
  a ++ ch [115,112,101,99,46,97,112,83,117,109],
  a ++ ch [105,109,112,108,46,97,108,108,87,105,116,104,105,110],
  a ++ ch [105,109,112,108,46,115,117,109,79,102],
  a ++ ch [105,109,112,108,46,100,111,116],
  a ++ ch [105,109,112,108,46,100,105,118,105,115,111,114],
  ch [115,108,105,99,101,115,46,67,108,111,110,101,91,91,93,105,110,116,44,105,110,116,93],
  a ++ ch [115,112,101,99,46,108,49,73,110],
  a ++ ch [115,112,101,99,46,108,49,65,98,115],
  ch [115,108,105,99,101,115,46,67,111,110,116,97,105,110,115,70,117,110,99,91,91,93,105,110,116,44,105,110,116,93],
  a ++ ch [105,109,112,108,46,97,108,108,87,105,116,104,105,110,36,49],
  a ++ ch [105,109,112,108,46,119,105,116,104,105,110],
  a ++ ch [115,112,101,99,46,108,49,77,111,115,116],
  ch [115,108,105,99,101,115,46,73,110,100,101,120,70,117,110,99,91,91,93,105,110,116,44,105,110,116,93],
  ch [40,114,117,110,116,105,109,101,46,98,111,117,110,100,115,69,114,114,111,114,41,46,69,114,114,111,114],
  ch [40,114,117,110,116,105,109,101,46,98,111,117,110,100,115,69,114,114,111,114,41,46,82,117,110,116,105,109,101,69,114,114,111,114],
  ch [40,114,117,110,116,105,109,101,46,101,114,114,111,114,83,116,114,105,110,103,41,46,69,114,114,111,114],
  ch [40,114,117,110,116,105,109,101,46,101,114,114,111,114,83,116,114,105,110,103,41,46,82,117,110,116,105,109,101,69,114,114,111,114],
  ch [40,114,117,110,116,105,109,101,46,112,108,97,105,110,69,114,114,111,114,41,46,69,114,114,111,114],
  ch [40,114,117,110,116,105,109,101,46,112,108,97,105,110,69,114,114,111,114,41,46,82,117,110,116,105,109,101,69,114,114,111,114],
  ch [40,114,117,110,116,105,109,101,46,101,114,114,111,114,65,100,100,114,101,115,115,83,116,114,105,110,103,41,46,69,114,114,111,114],
  ch [40,114,117,110,116,105,109,101,46,101,114,114,111,114,65,100,100,114,101,115,115,83,116,114,105,110,103,41,46,82,117,110,116,105,109,101,69,114,114,111,114],
  ch [40,42,114,117,110,116,105,109,101,46,84,121,112,101,65,115,115,101,114,116,105,111,110,69,114,114,111,114,41,46,69,114,114,111,114],
  ch [40,42,114,117,110,116,105,109,101,46,84,121,112,101,65,115,115,101,114,116,105,111,110,69,114,114,111,114,41,46,82,117,110,116,105,109,101,69,114,114,111,114],
  ch [40,42,114,117,110,116,105,109,101,46,80,97,110,105,99,78,105,108,69,114,114,111,114,41,46,69,114,114,111,114],
  ch [40,42,114,117,110,116,105,109,101,46,80,97,110,105,99,78,105,108,69,114,114,111,114,41,46,82,117,110,116,105,109,101,69,114,114,111,114],
  ch [40,42,105,110,116,101,114,110,97,108,47,97,98,105,46,84,121,112,101,41,46,65,108,105,103,110],
  ch [40,105,110,116,101,114,110,97,108,47,114,117,110,116,105,109,101,47,109,97,112,115,46,117,110,104,97,115,104,97,98,108,101,84,121,112,101,69,114,114,111,114,41,46,69,114,114,111,114],
  ch [40,105,110,116,101,114,110,97,108,47,114,117,110,116,105,109,101,47,109,97,112,115,46,117,110,104,97,115,104,97,98,108,101,84,121,112,101,69,114,114,111,114,41,46,82,117,110,116,105,109,101,69,114,114,111,114],
  ch [40,105,110,116,101,114,110,97,108,47,97,98,105,46,75,105,110,100,41,46,83,116,114,105,110,103]]
set_option maxRecDepth 100000 in
theorem names : (Try.prog.funcs.toList.map fun (f : Func) => f.name) = L.map String.ofList := by kernel_rfl
theorem ofList_beq (a b : List Char) : (String.ofList a == String.ofList b) = (a == b) := by
  rw [Bool.eq_iff_iff, beq_iff_eq, beq_iff_eq]
  exact ⟨fun h => by simpa using congrArg String.toList h, fun h => by rw [h]⟩
theorem found (s : List Char) (i : Nat) (h : ((List.range L.length).filter fun j => (L[j]?).any (· == s)) = [i]) : Try.prog.funcNamed (String.ofList s) = some i := by
  have hsz : Try.prog.funcs.size = L.length := by
    have := congrArg List.length names
    simpa using this
  have hj : ∀ j : Nat, ((Try.prog.funcs[j]?).any fun (f : Func) => f.name == String.ofList s) = (L[j]?).any (· == s) := by
    intro j
    have e : (Try.prog.funcs.toList.map fun (f : Func) => f.name)[j]? = (L.map String.ofList)[j]? := by rw [names]
    rw [List.getElem?_map, List.getElem?_map, Array.getElem?_toList] at e
    cases h1 : Try.prog.funcs[j]? with
    | none =>
      rw [h1] at e
      cases h2 : L[j]? with
      | none => rfl
      | some b => rw [h2] at e; cases e
    | some f =>
      rw [h1] at e
      cases h2 : L[j]? with
      | none => rw [h2] at e; cases e
      | some b =>
        rw [h2] at e
        have e2 : f.name = String.ofList b := Option.some.inj e
        simp only [Option.any_some, e2, ofList_beq]
  unfold Go.Program.funcNamed
  rw [hsz, List.filter_congr (fun j _ => hj j), h]
/-- the program's head word -/
def O : List Char := ch [104,97,114,110,101,115,115,32,99,56,51,53,57,100,52,51,55,54,48,49,48,49,100,97,97,55,52,51,50,99,98,53,99,56,100,99,99,98,98,56,52,102,101,52,97,98,99,56,50,51,55,102,101,55,101,102,56,48,99,102,52,53,102,51,52,102,52,49,97,48,48,55,32,99,117,116,32,97,116,32,108,111,111,112,46,101,120,97,109,112,108,101,47,103,48,49,49,50,50,47,108,97,119,115,46,70,110,69,120,97,99,116,82,101,115,105,100,117,101,115,79,102]
set_option maxRecDepth 100000 in
theorem ord0 : Try.prog.initOrder = String.ofList O := by kernel_rfl
theorem ord : Try.prog.initOrder.toList = O := by rw [ord0]; exact String.toList_ofList
/-- what stands behind the main word -/
def B : List (List Char) := [ch [99,117,116],
  ch [97,116],
  a ++ ch [108,97,119,115,46,70,110,69,120,97,99,116,82,101,115,105,100,117,101,115,79,102]]
set_option maxRecDepth 100000 in
theorem words : wordsSigns O = [ch [104,97,114,110,101,115,115],
  ch [99,56,51,53,57,100,52,51,55,54,48,49,48,49,100,97,97,55,52,51,50,99,98,53,99,56,100,99,99,98,98,56,52,102,101,52,97,98,99,56,50,51,55,102,101,55,101,102,56,48,99,102,52,53,102,51,52,102,52,49,97,48,48,55]] ++ B := by kernel_rfl
theorem behind : behindMainWord (wordsSigns O) = B := by
  rw [words]
  kernel_rfl
theorem make0 (P : Go.Program) (l : List Char) (h : P.initOrder.toList = l) (W : List (List Char)) (hb : behindMainWord (wordsSigns l) = [Char.ofNat 99, Char.ofNat 117, Char.ofNat 116] :: W) : P.make = some .cut := by
  unfold Go.Program.make
  rw [h, hb]
  rfl
theorem lifts0 (P : Go.Program) (l : List Char) (h : P.initOrder.toList = l) (W : List (List Char)) (hb : behindMainWord (wordsSigns l) = [Char.ofNat 99, Char.ofNat 117, Char.ofNat 116] :: W) (hs : stripLifts liftWords ([Char.ofNat 99, Char.ofNat 117, Char.ofNat 116] :: W) = ([], [Char.ofNat 99, Char.ofNat 117, Char.ofNat 116] :: W)) : P.liftsFinal = false := by
  unfold Go.Program.liftsFinal Go.Program.headLifts
  rw [h, hb]
  simp only [hs]
  rfl
theorem enter0 (P : Go.Program) (l : List Char) (h : P.initOrder.toList = l) (W : List (List Char)) (hb : behindMainWord (wordsSigns l) = [Char.ofNat 99, Char.ofNat 117, Char.ofNat 116] :: W) (hs : stripLifts liftWords ([Char.ofNat 99, Char.ofNat 117, Char.ofNat 116] :: W) = ([], [Char.ofNat 99, Char.ofNat 117, Char.ofNat 116] :: W)) (h1 : P.laysLater = false) (h2 : P.bearsReflect = false) (h3 : P.doorFits [] = true) : P.mayEnter = true := by
  unfold Go.Program.mayEnter
  rw [h, hb]
  simp only [hs, h1, h2, h3]
  rfl
theorem strip_ : stripLifts liftWords B = ([], B) := by kernel_rfl
theorem lays_ : Try.prog.laysLater = false := by kernel_rfl
theorem refl_ : Try.prog.bearsReflect = false := by kernel_rfl
theorem door_ : Try.prog.doorFits [] = true := by kernel_rfl
theorem make_ : Try.prog.make = some .cut := make0 Try.prog O ord _ behind
theorem lifts_ : Try.prog.liftsFinal = false := lifts0 Try.prog O ord _ behind strip_
theorem enter_ : Try.prog.mayEnter = true := enter0 Try.prog O ord _ behind strip_ lays_ refl_ door_
end Go.Proofs.Ytaebcdonekpbiaa.Nm
