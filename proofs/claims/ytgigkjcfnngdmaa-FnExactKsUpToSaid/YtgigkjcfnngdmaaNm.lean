/- The functions' names as lists of characters, and: a function is found by its name; there is no condition. -/
import Derived.Test.YtgigkjcfnngdmaaRows
namespace Go.Proofs.Ytgigkjcfnngdmaa.Nm
def a : List Char := ['l','o','o','p','.','e','x','a','m','p','l','e','/','g','0','1','1','2','2','/']
def L : List (List Char) := [['m','a','i','n','.','m','a','i','n'],
  ['g','o','s','e','m','.','c','u','t'],
  ['g','o','s','e','m','.','c','u','t','.','i','n','i','t'],
  a ++ ['l','a','w','s','.','F','n','E','x','a','c','t','S','q','u','a','r','e','Q','u','o','t','i','e','n','t'],
  a ++ ['l','a','w','s','.','F','n','E','x','a','c','t','I','s','J','u','m','p'],
  a ++ ['l','a','w','s','.','F','n','E','x','a','c','t','K','O','f','P','a','i','r'],
  a ++ ['l','a','w','s','.','F','n','E','x','a','c','t','J','u','m','p','U','p'],
  a ++ ['l','a','w','s','.','F','n','E','x','a','c','t','J','u','m','p','D','o','w','n'],
  a ++ ['l','a','w','s','.','F','n','E','x','a','c','t','L','e','a','s','t','P','a','i','r'],
  a ++ ['l','a','w','s','.','F','n','E','x','a','c','t','J','u','m','p','M','a','t','r','i','x'],
  a ++ ['l','a','w','s','.','F','n','E','x','a','c','t','Q','u','o','t','i','e','n','t','P','a','i','r','s'],
  a ++ ['l','a','w','s','.','F','n','E','x','a','c','t','K','s','U','p','T','o'],
  a ++ ['l','a','w','s','.','F','n','E','x','a','c','t','A','s','c','e','n','d','P','a','i','r'],
  a ++ ['l','a','w','s','.','F','n','E','x','a','c','t','P','a','i','r','s','U','p','T','o'],
  a ++ ['l','a','w','s','.','F','n','E','x','a','c','t','D','e','s','c','e','n','d','P','a','i','r'],
  a ++ ['l','a','w','s','.','F','n','E','x','a','c','t','C','l','a','s','s','e','s','U','p','T','o'],
  a ++ ['s','p','e','c','.','S','q','u','a','r','e','Q','u','o','t','i','e','n','t'],
  a ++ ['i','m','p','l','.','S','q','u','a','r','e','Q','u','o','t','i','e','n','t'],
  a ++ ['s','p','e','c','.','I','s','J','u','m','p'],
  a ++ ['i','m','p','l','.','I','s','J','u','m','p'],
  a ++ ['s','p','e','c','.','K','O','f','P','a','i','r'],
  a ++ ['i','m','p','l','.','K','O','f','P','a','i','r'],
  a ++ ['s','p','e','c','.','J','u','m','p','U','p'],
  a ++ ['i','m','p','l','.','J','u','m','p','U','p'],
  a ++ ['s','p','e','c','.','J','u','m','p','D','o','w','n'],
  a ++ ['i','m','p','l','.','J','u','m','p','D','o','w','n'],
  a ++ ['s','p','e','c','.','L','e','a','s','t','P','a','i','r'],
  a ++ ['i','m','p','l','.','L','e','a','s','t','P','a','i','r'],
  a ++ ['s','p','e','c','.','J','u','m','p','M','a','t','r','i','x'],
  a ++ ['i','m','p','l','.','J','u','m','p','M','a','t','r','i','x'],
  a ++ ['l','a','w','s','.','e','q','M','a','t','r','i','x'],
  a ++ ['l','a','w','s','.','m','a','r','k','M','a','t','r','i','x'],
  a ++ ['l','a','w','s','.','h','e','l','d','M','a','t','r','i','x'],
  a ++ ['s','p','e','c','.','Q','u','o','t','i','e','n','t','P','a','i','r','s'],
  a ++ ['i','m','p','l','.','Q','u','o','t','i','e','n','t','P','a','i','r','s'],
  a ++ ['l','a','w','s','.','e','q','I','n','t','S','S'],
  a ++ ['l','a','w','s','.','m','a','r','k','I','n','t','S','S'],
  a ++ ['l','a','w','s','.','h','e','l','d','I','n','t','S','S'],
  a ++ ['s','p','e','c','.','K','s','U','p','T','o'],
  a ++ ['i','m','p','l','.','K','s','U','p','T','o'],
  a ++ ['l','a','w','s','.','e','q','I','n','t','S'],
  a ++ ['l','a','w','s','.','m','a','r','k','I','n','t','S'],
  a ++ ['l','a','w','s','.','h','e','l','d','I','n','t','S'],
  a ++ ['s','p','e','c','.','A','s','c','e','n','d','P','a','i','r'],
  a ++ ['i','m','p','l','.','A','s','c','e','n','d','P','a','i','r'],
  a ++ ['s','p','e','c','.','P','a','i','r','s','U','p','T','o'],
  a ++ ['i','m','p','l','.','P','a','i','r','s','U','p','T','o'],
  a ++ ['s','p','e','c','.','D','e','s','c','e','n','d','P','a','i','r'],
  a ++ ['i','m','p','l','.','D','e','s','c','e','n','d','P','a','i','r'],
  a ++ ['s','p','e','c','.','C','l','a','s','s','e','s','U','p','T','o'],
  a ++ ['i','m','p','l','.','C','l','a','s','s','e','s','U','p','T','o'],
  a ++ ['s','p','e','c','.','j','u','Q','u','o','t','i','e','n','t'],
  a ++ ['i','m','p','l','.','w','i','t','h','i','n'],
  a ++ ['s','p','e','c','.','j','u','G','i','v','e','n'],
  a ++ ['s','p','e','c','.','j','u','G','o','o','d'],
  a ++ ['i','m','p','l','.','a','r','e','C','o','n','s','t','a','n','t','s'],
  a ++ ['i','m','p','l','.','i','s','J','u','m','p'],
  a ++ ['s','p','e','c','.','l','1','I','n'],
  a ++ ['i','m','p','l','.','k','O','f'],
  a ++ ['i','m','p','l','.','i','s','J','u','m','p','e','r'],
  a ++ ['i','m','p','l','.','j','u','m','p','U','p'],
  a ++ ['s','p','e','c','.','j','u','D','o','w','n'],
  a ++ ['i','m','p','l','.','j','u','m','p','D','o','w','n'],
  a ++ ['s','p','e','c','.','j','u','T','a','s','k'],
  a ++ ['s','p','e','c','.','l','1','P','u','t'],
  a ++ ['s','p','e','c','.','j','u','U','p','T','o'],
  a ++ ['i','m','p','l','.','p','a','i','r','s','B','y'],
  a ++ ['i','m','p','l','.','P','a','i','r','s','U','p','T','o','$','1'],
  a ++ ['s','p','e','c','.','j','u','R','u','n'],
  a ++ ['i','m','p','l','.','d','e','s','c','e','n','d'],
  a ++ ['i','m','p','l','.','C','l','a','s','s','e','s','U','p','T','o','$','1'],
  ['(','r','u','n','t','i','m','e','.','b','o','u','n','d','s','E','r','r','o','r',')','.','E','r','r','o','r'],
  ['(','r','u','n','t','i','m','e','.','b','o','u','n','d','s','E','r','r','o','r',')','.','R','u','n','t','i','m','e','E','r','r','o','r'],
  ['(','r','u','n','t','i','m','e','.','e','r','r','o','r','S','t','r','i','n','g',')','.','E','r','r','o','r'],
  ['(','r','u','n','t','i','m','e','.','e','r','r','o','r','S','t','r','i','n','g',')','.','R','u','n','t','i','m','e','E','r','r','o','r'],
  ['(','r','u','n','t','i','m','e','.','p','l','a','i','n','E','r','r','o','r',')','.','E','r','r','o','r'],
  ['(','r','u','n','t','i','m','e','.','p','l','a','i','n','E','r','r','o','r',')','.','R','u','n','t','i','m','e','E','r','r','o','r'],
  ['(','r','u','n','t','i','m','e','.','e','r','r','o','r','A','d','d','r','e','s','s','S','t','r','i','n','g',')','.','E','r','r','o','r'],
  ['(','r','u','n','t','i','m','e','.','e','r','r','o','r','A','d','d','r','e','s','s','S','t','r','i','n','g',')','.','R','u','n','t','i','m','e','E','r','r','o','r'],
  ['(','*','r','u','n','t','i','m','e','.','T','y','p','e','A','s','s','e','r','t','i','o','n','E','r','r','o','r',')','.','E','r','r','o','r'],
  ['(','*','r','u','n','t','i','m','e','.','T','y','p','e','A','s','s','e','r','t','i','o','n','E','r','r','o','r',')','.','R','u','n','t','i','m','e','E','r','r','o','r'],
  ['(','*','r','u','n','t','i','m','e','.','P','a','n','i','c','N','i','l','E','r','r','o','r',')','.','E','r','r','o','r'],
  ['(','*','r','u','n','t','i','m','e','.','P','a','n','i','c','N','i','l','E','r','r','o','r',')','.','R','u','n','t','i','m','e','E','r','r','o','r'],
  ['(','*','i','n','t','e','r','n','a','l','/','a','b','i','.','T','y','p','e',')','.','A','l','i','g','n'],
  ['(','i','n','t','e','r','n','a','l','/','r','u','n','t','i','m','e','/','m','a','p','s','.','u','n','h','a','s','h','a','b','l','e','T','y','p','e','E','r','r','o','r',')','.','E','r','r','o','r'],
  ['(','i','n','t','e','r','n','a','l','/','r','u','n','t','i','m','e','/','m','a','p','s','.','u','n','h','a','s','h','a','b','l','e','T','y','p','e','E','r','r','o','r',')','.','R','u','n','t','i','m','e','E','r','r','o','r'],
  ['(','l','o','o','p','.','e','x','a','m','p','l','e','/','g','0','1','1','2','2','/','i','m','p','l','.','M','a','t','r','i','x',')','.','d','e','t','e','r','m','i','n','a','n','t'],
  ['(','i','n','t','e','r','n','a','l','/','a','b','i','.','K','i','n','d',')','.','S','t','r','i','n','g']]
set_option maxRecDepth 100000 in
theorem names : (Try.prog.funcs.toList.map fun (f : Func) => f.name) = L.map String.ofList := by kernel_rfl
theorem ofList_beq (a b : List Char) : (String.ofList a == String.ofList b) = (a == b) := by
  rw [Bool.eq_iff_iff, beq_iff_eq, beq_iff_eq]
  exact ⟨fun h => by simpa using congrArg String.toList h, fun h => by rw [h]⟩
theorem found (s : List Char) (i : Nat) (h : ((List.range L.length).filter fun j => (L[j]?).any (· == s)) = [i]) : Try.prog.funcNamed (String.ofList s) = some i := by
  have hsz : Try.prog.funcs.size = L.length := by
    have := congrArg List.length names
    simpa using this
  have hj : ∀ j : Nat, ((Try.prog.funcs[j]?).any fun (f : Func) => f.name == String.ofList s) = (L[j]?).any (· == s) := by
    intro j
    have e : (Try.prog.funcs.toList.map fun (f : Func) => f.name)[j]? = (L.map String.ofList)[j]? := by rw [names]
    rw [List.getElem?_map, List.getElem?_map, Array.getElem?_toList] at e
    cases h1 : Try.prog.funcs[j]? with
    | none =>
      rw [h1] at e
      cases h2 : L[j]? with
      | none => rfl
      | some b => rw [h2] at e; cases e
    | some f =>
      rw [h1] at e
      cases h2 : L[j]? with
      | none => rw [h2] at e; cases e
      | some b =>
        rw [h2] at e
        have e2 : f.name = String.ofList b := Option.some.inj e
        simp only [Option.any_some, e2, ofList_beq]
  unfold Go.Program.funcNamed
  rw [hsz, List.filter_congr (fun j _ => hj j), h]
/-- the program's head word -/
def O : List Char := ['h', 'a', 'r', 'n', 'e', 's', 's', ' ', '7', 'a', '4', '2', '1', '7', 'a', '2', '3', '7', '8', '0', 'e', 'c', 'd', '8', '1', 'e', '0', '2', '8', 'f', '1', 'd', '6', 'e', 'd', '6', '4', '7', '8', '7', 'f', '9', '4', '8', '0', 'c', '0', '7', 'a', 'e', 'f', 'e', '2', 'f', '6', '4', 'e', 'e', 'e', '9', '3', 'f', '1', '9', '9', '4', '9', '8', '6', 'd', 'c', '3', ' ', 'c', 'u', 't', ' ', 'a', 't', ' ', 'l', 'o', 'o', 'p', '.', 'e', 'x', 'a', 'm', 'p', 'l', 'e', '/', 'g', '0', '1', '1', '2', '2', '/', 'l', 'a', 'w', 's', '.', 'F', 'n', 'E', 'x', 'a', 'c', 't', 'S', 'q', 'u', 'a', 'r', 'e', 'Q', 'u', 'o', 't', 'i', 'e', 'n', 't', ' ', 'l', 'o', 'o', 'p', '.', 'e', 'x', 'a', 'm', 'p', 'l', 'e', '/', 'g', '0', '1', '1', '2', '2', '/', 'l', 'a', 'w', 's', '.', 'F', 'n', 'E', 'x', 'a', 'c', 't', 'I', 's', 'J', 'u', 'm', 'p', ' ', 'l', 'o', 'o', 'p', '.', 'e', 'x', 'a', 'm', 'p', 'l', 'e', '/', 'g', '0', '1', '1', '2', '2', '/', 'l', 'a', 'w', 's', '.', 'F', 'n', 'E', 'x', 'a', 'c', 't', 'K', 'O', 'f', 'P', 'a', 'i', 'r', ' ', 'l', 'o', 'o', 'p', '.', 'e', 'x', 'a', 'm', 'p', 'l', 'e', '/', 'g', '0', '1', '1', '2', '2', '/', 'l', 'a', 'w', 's', '.', 'F', 'n', 'E', 'x', 'a', 'c', 't', 'J', 'u', 'm', 'p', 'U', 'p', ' ', 'l', 'o', 'o', 'p', '.', 'e', 'x', 'a', 'm', 'p', 'l', 'e', '/', 'g', '0', '1', '1', '2', '2', '/', 'l', 'a', 'w', 's', '.', 'F', 'n', 'E', 'x', 'a', 'c', 't', 'J', 'u', 'm', 'p', 'D', 'o', 'w', 'n', ' ', 'l', 'o', 'o', 'p', '.', 'e', 'x', 'a', 'm', 'p', 'l', 'e', '/', 'g', '0', '1', '1', '2', '2', '/', 'l', 'a', 'w', 's', '.', 'F', 'n', 'E', 'x', 'a', 'c', 't', 'L', 'e', 'a', 's', 't', 'P', 'a', 'i', 'r', ' ', 'l', 'o', 'o', 'p', '.', 'e', 'x', 'a', 'm', 'p', 'l', 'e', '/', 'g', '0', '1', '1', '2', '2', '/', 'l', 'a', 'w', 's', '.', 'F', 'n', 'E', 'x', 'a', 'c', 't', 'J', 'u', 'm', 'p', 'M', 'a', 't', 'r', 'i', 'x', ' ', 'l', 'o', 'o', 'p', '.', 'e', 'x', 'a', 'm', 'p', 'l', 'e', '/', 'g', '0', '1', '1', '2', '2', '/', 'l', 'a', 'w', 's', '.', 'F', 'n', 'E', 'x', 'a', 'c', 't', 'Q', 'u', 'o', 't', 'i', 'e', 'n', 't', 'P', 'a', 'i', 'r', 's', ' ', 'l', 'o', 'o', 'p', '.', 'e', 'x', 'a', 'm', 'p', 'l', 'e', '/', 'g', '0', '1', '1', '2', '2', '/', 'l', 'a', 'w', 's', '.', 'F', 'n', 'E', 'x', 'a', 'c', 't', 'K', 's', 'U', 'p', 'T', 'o', ' ', 'l', 'o', 'o', 'p', '.', 'e', 'x', 'a', 'm', 'p', 'l', 'e', '/', 'g', '0', '1', '1', '2', '2', '/', 'l', 'a', 'w', 's', '.', 'F', 'n', 'E', 'x', 'a', 'c', 't', 'A', 's', 'c', 'e', 'n', 'd', 'P', 'a', 'i', 'r', ' ', 'l', 'o', 'o', 'p', '.', 'e', 'x', 'a', 'm', 'p', 'l', 'e', '/', 'g', '0', '1', '1', '2', '2', '/', 'l', 'a', 'w', 's', '.', 'F', 'n', 'E', 'x', 'a', 'c', 't', 'P', 'a', 'i', 'r', 's', 'U', 'p', 'T', 'o', ' ', 'l', 'o', 'o', 'p', '.', 'e', 'x', 'a', 'm', 'p', 'l', 'e', '/', 'g', '0', '1', '1', '2', '2', '/', 'l', 'a', 'w', 's', '.', 'F', 'n', 'E', 'x', 'a', 'c', 't', 'D', 'e', 's', 'c', 'e', 'n', 'd', 'P', 'a', 'i', 'r', ' ', 'l', 'o', 'o', 'p', '.', 'e', 'x', 'a', 'm', 'p', 'l', 'e', '/', 'g', '0', '1', '1', '2', '2', '/', 'l', 'a', 'w', 's', '.', 'F', 'n', 'E', 'x', 'a', 'c', 't', 'C', 'l', 'a', 's', 's', 'e', 's', 'U', 'p', 'T', 'o']
set_option maxRecDepth 100000 in
theorem ord0 : Try.prog.initOrder = String.ofList O := by kernel_rfl
theorem ord : Try.prog.initOrder.toList = O := by rw [ord0]; exact String.toList_ofList
/-- what stands behind the main word -/
def B : List (List Char) := [['c','u','t'],
  ['a','t'],
  a ++ ['l','a','w','s','.','F','n','E','x','a','c','t','S','q','u','a','r','e','Q','u','o','t','i','e','n','t'],
  a ++ ['l','a','w','s','.','F','n','E','x','a','c','t','I','s','J','u','m','p'],
  a ++ ['l','a','w','s','.','F','n','E','x','a','c','t','K','O','f','P','a','i','r'],
  a ++ ['l','a','w','s','.','F','n','E','x','a','c','t','J','u','m','p','U','p'],
  a ++ ['l','a','w','s','.','F','n','E','x','a','c','t','J','u','m','p','D','o','w','n'],
  a ++ ['l','a','w','s','.','F','n','E','x','a','c','t','L','e','a','s','t','P','a','i','r'],
  a ++ ['l','a','w','s','.','F','n','E','x','a','c','t','J','u','m','p','M','a','t','r','i','x'],
  a ++ ['l','a','w','s','.','F','n','E','x','a','c','t','Q','u','o','t','i','e','n','t','P','a','i','r','s'],
  a ++ ['l','a','w','s','.','F','n','E','x','a','c','t','K','s','U','p','T','o'],
  a ++ ['l','a','w','s','.','F','n','E','x','a','c','t','A','s','c','e','n','d','P','a','i','r'],
  a ++ ['l','a','w','s','.','F','n','E','x','a','c','t','P','a','i','r','s','U','p','T','o'],
  a ++ ['l','a','w','s','.','F','n','E','x','a','c','t','D','e','s','c','e','n','d','P','a','i','r'],
  a ++ ['l','a','w','s','.','F','n','E','x','a','c','t','C','l','a','s','s','e','s','U','p','T','o']]
set_option maxRecDepth 100000 in
theorem words : wordsSigns O = [['h','a','r','n','e','s','s'],
  ['7','a','4','2','1','7','a','2','3','7','8','0','e','c','d','8','1','e','0','2','8','f','1','d','6','e','d','6','4','7','8','7','f','9','4','8','0','c','0','7','a','e','f','e','2','f','6','4','e','e','e','9','3','f','1','9','9','4','9','8','6','d','c','3']] ++ B := by kernel_rfl
theorem behind : behindMainWord (wordsSigns O) = B := by
  rw [words]
  kernel_rfl
theorem make0 (P : Go.Program) (l : List Char) (h : P.initOrder.toList = l) (W : List (List Char)) (hb : behindMainWord (wordsSigns l) = ['c', 'u', 't'] :: W) : P.make = some .cut := by
  unfold Go.Program.make
  rw [h, hb]
  rfl
theorem lifts0 (P : Go.Program) (l : List Char) (h : P.initOrder.toList = l) (W : List (List Char)) (hb : behindMainWord (wordsSigns l) = ['c', 'u', 't'] :: W) (hs : stripLifts liftWords (['c', 'u', 't'] :: W) = ([], ['c', 'u', 't'] :: W)) : P.liftsFinal = false := by
  unfold Go.Program.liftsFinal Go.Program.headLifts
  rw [h, hb]
  simp only [hs]
  rfl
theorem enter0 (P : Go.Program) (l : List Char) (h : P.initOrder.toList = l) (W : List (List Char)) (hb : behindMainWord (wordsSigns l) = ['c', 'u', 't'] :: W) (hs : stripLifts liftWords (['c', 'u', 't'] :: W) = ([], ['c', 'u', 't'] :: W)) (h1 : P.laysLater = false) (h2 : P.bearsReflect = false) (h3 : P.doorFits [] = true) : P.mayEnter = true := by
  unfold Go.Program.mayEnter
  rw [h, hb]
  simp only [hs, h1, h2, h3]
  rfl
theorem strip_ : stripLifts liftWords B = ([], B) := by kernel_rfl
theorem lays_ : Try.prog.laysLater = false := by kernel_rfl
theorem refl_ : Try.prog.bearsReflect = false := by kernel_rfl
theorem door_ : Try.prog.doorFits [] = true := by kernel_rfl
theorem make_ : Try.prog.make = some .cut := make0 Try.prog O ord _ behind
theorem lifts_ : Try.prog.liftsFinal = false := lifts0 Try.prog O ord _ behind strip_
theorem enter_ : Try.prog.mayEnter = true := enter0 Try.prog O ord _ behind strip_ lays_ refl_ door_
end Go.Proofs.Ytgigkjcfnngdmaa.Nm
