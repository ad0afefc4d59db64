/- The functions' names as lists of characters, and: a function is found by its name; there is no condition. -/
import Derived.Test.YtgjgoeodhioeiaaRows
namespace Go.Proofs.Ytgjgoeodhioeiaa.Nm
def a : List Char := ['l','o','o','p','.','e','x','a','m','p','l','e','/','g','0','1','1','2','2','/']
def L : List (List Char) := [['m','a','i','n','.','m','a','i','n'],
  ['g','o','s','e','m','.','c','u','t'],
  ['g','o','s','e','m','.','c','u','t','.','i','n','i','t'],
  a ++ ['l','a','w','s','.','F','n','R','o','o','t','Q','u','a','d','s'],
  a ++ ['l','a','w','s','.','b','i','g'],
  a ++ ['s','p','e','c','.','D','r','a','w','R','o','o','t','s','W','i','t','h'],
  a ++ ['i','m','p','l','.','R','o','o','t','s','W','i','t','h'],
  a ++ ['s','p','e','c','.','R','o','o','t','s','W','i','t','h'],
  a ++ ['l','a','w','s','.','d','L','i','s','t','s'],
  a ++ ['i','m','p','l','.','I','s','R','o','o','t'],
  a ++ ['i','m','p','l','.','R','o','o','t','Q','u','a','d'],
  a ++ ['i','m','p','l','.','S','c','a','l','e','O','f'],
  a ++ ['l','a','w','s','.','d','S','a','m','e'],
  a ++ ['l','a','w','s','.','d','L','e','s','s'],
  a ++ ['s','p','e','c','.','D','r','a','w','A','l','l','R','o','o','t','s','U','p','T','o'],
  a ++ ['i','m','p','l','.','A','l','l','R','o','o','t','s','U','p','T','o'],
  a ++ ['s','p','e','c','.','A','l','l','R','o','o','t','s','U','p','T','o'],
  ['(','*','l','o','o','p','.','e','x','a','m','p','l','e','/','g','0','1','1','2','2','/','s','p','e','c','.','l','1','C','u','r',')','.','a','m','o','n','g'],
  a ++ ['i','m','p','l','.','w','i','t','h','i','n'],
  ['s','l','i','c','e','s','.','C','l','o','n','e','[','[',']','[',']','i','n','t',',','[',']','i','n','t',']'],
  a ++ ['i','m','p','l','.','r','o','o','t','s','W','i','t','h'],
  a ++ ['s','p','e','c','.','l','1','I','n'],
  a ++ ['s','p','e','c','.','a','p','R','o','o','t','s'],
  a ++ ['i','m','p','l','.','I','s','Q','u','a','d'],
  a ++ ['i','m','p','l','.','i','s','R','o','o','t'],
  a ++ ['i','m','p','l','.','D','o','w','n','P','a','t','h'],
  ['s','l','i','c','e','s','.','S','o','r','t','e','d','[','i','n','t',']'],
  ['s','l','i','c','e','s','.','V','a','l','u','e','s','[','[',']','i','n','t',',','i','n','t',']'],
  a ++ ['i','m','p','l','.','s','c','a','l','e'],
  ['(','*','l','o','o','p','.','e','x','a','m','p','l','e','/','g','0','1','1','2','2','/','s','p','e','c','.','l','1','C','u','r',')','.','p','i','c','k'],
  ['s','l','i','c','e','s','.','S','o','r','t','[','[',']','i','n','t',',','i','n','t',']'],
  ['s','l','i','c','e','s','.','S','o','r','t','F','u','n','c','[','[',']','[',']','i','n','t',',','[',']','i','n','t',']'],
  ['s','l','i','c','e','s','.','C','o','m','p','a','r','e','[','[',']','i','n','t',',','i','n','t',']'],
  ['s','l','i','c','e','s','.','C','o','m','p','a','c','t','F','u','n','c','[','[',']','[',']','i','n','t',',','[',']','i','n','t',']'],
  ['s','l','i','c','e','s','.','E','q','u','a','l','[','[',']','i','n','t',',','i','n','t',']'],
  a ++ ['s','p','e','c','.','f','o','R','o','o','t'],
  a ++ ['s','p','e','c','.','a','p','G','o','o','d'],
  a ++ ['s','p','e','c','.','a','p','S','c','a','l','e'],
  a ++ ['i','m','p','l','.','a','l','l','W','i','t','h','i','n'],
  a ++ ['i','m','p','l','.','s','u','m','O','f'],
  a ++ ['i','m','p','l','.','d','o','t'],
  a ++ ['i','m','p','l','.','s','w','a','p','p','e','d'],
  a ++ ['i','m','p','l','.','d','o','w','n'],
  ['s','l','i','c','e','s','.','C','o','l','l','e','c','t','[','i','n','t',']'],
  ['s','l','i','c','e','s','.','V','a','l','u','e','s','[','[',']','i','n','t',',','i','n','t',']','$','1'],
  a ++ ['i','m','p','l','.','d','i','v','i','s','o','r'],
  ['(','*','l','o','o','p','.','e','x','a','m','p','l','e','/','g','0','1','1','2','2','/','s','p','e','c','.','l','1','C','u','r',')','.','n','e','x','t'],
  ['s','l','i','c','e','s','.','p','d','q','s','o','r','t','O','r','d','e','r','e','d','[','i','n','t',']'],
  ['m','a','t','h','/','b','i','t','s','.','L','e','n'],
  ['s','l','i','c','e','s','.','p','d','q','s','o','r','t','C','m','p','F','u','n','c','[','[',']','i','n','t',']'],
  ['c','m','p','.','C','o','m','p','a','r','e','[','i','n','t',']'],
  a ++ ['s','p','e','c','.','l','1','A','l','l'],
  a ++ ['s','p','e','c','.','f','o','G','c','d'],
  ['s','l','i','c','e','s','.','C','o','n','t','a','i','n','s','F','u','n','c','[','[',']','i','n','t',',','i','n','t',']'],
  a ++ ['i','m','p','l','.','a','l','l','W','i','t','h','i','n','$','1'],
  ['s','l','i','c','e','s','.','C','l','o','n','e','[','[',']','i','n','t',',','i','n','t',']'],
  a ++ ['i','m','p','l','.','g','r','e','a','t','e','s','t'],
  ['s','l','i','c','e','s','.','A','p','p','e','n','d','S','e','q','[','[',']','i','n','t',',','i','n','t',']'],
  ['s','l','i','c','e','s','.','i','n','s','e','r','t','i','o','n','S','o','r','t','O','r','d','e','r','e','d','[','i','n','t',']'],
  ['s','l','i','c','e','s','.','h','e','a','p','S','o','r','t','O','r','d','e','r','e','d','[','i','n','t',']'],
  ['s','l','i','c','e','s','.','b','r','e','a','k','P','a','t','t','e','r','n','s','O','r','d','e','r','e','d','[','i','n','t',']'],
  ['s','l','i','c','e','s','.','c','h','o','o','s','e','P','i','v','o','t','O','r','d','e','r','e','d','[','i','n','t',']'],
  ['s','l','i','c','e','s','.','r','e','v','e','r','s','e','R','a','n','g','e','O','r','d','e','r','e','d','[','i','n','t',']'],
  ['s','l','i','c','e','s','.','p','a','r','t','i','a','l','I','n','s','e','r','t','i','o','n','S','o','r','t','O','r','d','e','r','e','d','[','i','n','t',']'],
  ['c','m','p','.','L','e','s','s','[','i','n','t',']'],
  ['s','l','i','c','e','s','.','p','a','r','t','i','t','i','o','n','E','q','u','a','l','O','r','d','e','r','e','d','[','i','n','t',']'],
  ['s','l','i','c','e','s','.','p','a','r','t','i','t','i','o','n','O','r','d','e','r','e','d','[','i','n','t',']'],
  ['m','a','t','h','/','b','i','t','s','.','L','e','n','3','2'],
  ['m','a','t','h','/','b','i','t','s','.','L','e','n','6','4'],
  ['s','l','i','c','e','s','.','i','n','s','e','r','t','i','o','n','S','o','r','t','C','m','p','F','u','n','c','[','[',']','i','n','t',']'],
  ['s','l','i','c','e','s','.','h','e','a','p','S','o','r','t','C','m','p','F','u','n','c','[','[',']','i','n','t',']'],
  ['s','l','i','c','e','s','.','b','r','e','a','k','P','a','t','t','e','r','n','s','C','m','p','F','u','n','c','[','[',']','i','n','t',']'],
  ['s','l','i','c','e','s','.','c','h','o','o','s','e','P','i','v','o','t','C','m','p','F','u','n','c','[','[',']','i','n','t',']'],
  ['s','l','i','c','e','s','.','r','e','v','e','r','s','e','R','a','n','g','e','C','m','p','F','u','n','c','[','[',']','i','n','t',']'],
  ['s','l','i','c','e','s','.','p','a','r','t','i','a','l','I','n','s','e','r','t','i','o','n','S','o','r','t','C','m','p','F','u','n','c','[','[',']','i','n','t',']'],
  ['s','l','i','c','e','s','.','p','a','r','t','i','t','i','o','n','E','q','u','a','l','C','m','p','F','u','n','c','[','[',']','i','n','t',']'],
  ['s','l','i','c','e','s','.','p','a','r','t','i','t','i','o','n','C','m','p','F','u','n','c','[','[',']','i','n','t',']'],
  ['c','m','p','.','i','s','N','a','N','[','i','n','t',']'],
  a ++ ['s','p','e','c','.','l','1','A','b','s'],
  ['s','l','i','c','e','s','.','I','n','d','e','x','F','u','n','c','[','[',']','i','n','t',',','i','n','t',']'],
  ['s','l','i','c','e','s','.','I','n','d','e','x','[','[',']','i','n','t',',','i','n','t',']'],
  ['s','l','i','c','e','s','.','M','a','x','[','[',']','i','n','t',',','i','n','t',']'],
  ['s','l','i','c','e','s','.','s','i','f','t','D','o','w','n','O','r','d','e','r','e','d','[','i','n','t',']'],
  ['s','l','i','c','e','s','.','n','e','x','t','P','o','w','e','r','O','f','T','w','o'],
  ['(','*','s','l','i','c','e','s','.','x','o','r','s','h','i','f','t',')','.','N','e','x','t'],
  ['s','l','i','c','e','s','.','m','e','d','i','a','n','A','d','j','a','c','e','n','t','O','r','d','e','r','e','d','[','i','n','t',']'],
  ['s','l','i','c','e','s','.','m','e','d','i','a','n','O','r','d','e','r','e','d','[','i','n','t',']'],
  ['s','l','i','c','e','s','.','s','i','f','t','D','o','w','n','C','m','p','F','u','n','c','[','[',']','i','n','t',']'],
  ['s','l','i','c','e','s','.','m','e','d','i','a','n','A','d','j','a','c','e','n','t','C','m','p','F','u','n','c','[','[',']','i','n','t',']'],
  ['s','l','i','c','e','s','.','m','e','d','i','a','n','C','m','p','F','u','n','c','[','[',']','i','n','t',']'],
  a ++ ['s','p','e','c','.','l','1','M','o','s','t'],
  ['s','l','i','c','e','s','.','o','r','d','e','r','2','O','r','d','e','r','e','d','[','i','n','t',']'],
  ['s','l','i','c','e','s','.','o','r','d','e','r','2','C','m','p','F','u','n','c','[','[',']','i','n','t',']'],
  ['(','r','u','n','t','i','m','e','.','b','o','u','n','d','s','E','r','r','o','r',')','.','E','r','r','o','r'],
  ['(','r','u','n','t','i','m','e','.','b','o','u','n','d','s','E','r','r','o','r',')','.','R','u','n','t','i','m','e','E','r','r','o','r'],
  ['(','r','u','n','t','i','m','e','.','e','r','r','o','r','S','t','r','i','n','g',')','.','E','r','r','o','r'],
  ['(','r','u','n','t','i','m','e','.','e','r','r','o','r','S','t','r','i','n','g',')','.','R','u','n','t','i','m','e','E','r','r','o','r'],
  ['(','r','u','n','t','i','m','e','.','p','l','a','i','n','E','r','r','o','r',')','.','E','r','r','o','r'],
  ['(','r','u','n','t','i','m','e','.','p','l','a','i','n','E','r','r','o','r',')','.','R','u','n','t','i','m','e','E','r','r','o','r'],
  ['(','r','u','n','t','i','m','e','.','e','r','r','o','r','A','d','d','r','e','s','s','S','t','r','i','n','g',')','.','E','r','r','o','r'],
  ['(','r','u','n','t','i','m','e','.','e','r','r','o','r','A','d','d','r','e','s','s','S','t','r','i','n','g',')','.','R','u','n','t','i','m','e','E','r','r','o','r'],
  ['(','*','r','u','n','t','i','m','e','.','T','y','p','e','A','s','s','e','r','t','i','o','n','E','r','r','o','r',')','.','E','r','r','o','r'],
  ['(','*','r','u','n','t','i','m','e','.','T','y','p','e','A','s','s','e','r','t','i','o','n','E','r','r','o','r',')','.','R','u','n','t','i','m','e','E','r','r','o','r'],
  ['(','*','r','u','n','t','i','m','e','.','P','a','n','i','c','N','i','l','E','r','r','o','r',')','.','E','r','r','o','r'],
  ['(','*','r','u','n','t','i','m','e','.','P','a','n','i','c','N','i','l','E','r','r','o','r',')','.','R','u','n','t','i','m','e','E','r','r','o','r'],
  ['(','*','i','n','t','e','r','n','a','l','/','a','b','i','.','T','y','p','e',')','.','A','l','i','g','n'],
  ['(','i','n','t','e','r','n','a','l','/','r','u','n','t','i','m','e','/','m','a','p','s','.','u','n','h','a','s','h','a','b','l','e','T','y','p','e','E','r','r','o','r',')','.','E','r','r','o','r'],
  ['(','i','n','t','e','r','n','a','l','/','r','u','n','t','i','m','e','/','m','a','p','s','.','u','n','h','a','s','h','a','b','l','e','T','y','p','e','E','r','r','o','r',')','.','R','u','n','t','i','m','e','E','r','r','o','r'],
  ['(','*','l','o','o','p','.','e','x','a','m','p','l','e','/','g','0','1','1','2','2','/','s','p','e','c','.','l','1','C','u','r',')','.','b','o','u','n','d'],
  ['(','i','n','t','e','r','n','a','l','/','a','b','i','.','K','i','n','d',')','.','S','t','r','i','n','g']]
set_option maxRecDepth 100000 in
theorem names : (Try.prog.funcs.toList.map fun (f : Func) => f.name) = L.map String.ofList := by kernel_rfl
theorem ofList_beq (a b : List Char) : (String.ofList a == String.ofList b) = (a == b) := by
  rw [Bool.eq_iff_iff, beq_iff_eq, beq_iff_eq]
  exact ⟨fun h => by simpa using congrArg String.toList h, fun h => by rw [h]⟩
theorem found (s : List Char) (i : Nat) (h : ((List.range L.length).filter fun j => (L[j]?).any (· == s)) = [i]) : Try.prog.funcNamed (String.ofList s) = some i := by
  have hsz : Try.prog.funcs.size = L.length := by
    have := congrArg List.length names
    simpa using this
  have hj : ∀ j : Nat, ((Try.prog.funcs[j]?).any fun (f : Func) => f.name == String.ofList s) = (L[j]?).any (· == s) := by
    intro j
    have e : (Try.prog.funcs.toList.map fun (f : Func) => f.name)[j]? = (L.map String.ofList)[j]? := by rw [names]
    rw [List.getElem?_map, List.getElem?_map, Array.getElem?_toList] at e
    cases h1 : Try.prog.funcs[j]? with
    | none =>
      rw [h1] at e
      cases h2 : L[j]? with
      | none => rfl
      | some b => rw [h2] at e; cases e
    | some f =>
      rw [h1] at e
      cases h2 : L[j]? with
      | none => rw [h2] at e; cases e
      | some b =>
        rw [h2] at e
        have e2 : f.name = String.ofList b := Option.some.inj e
        simp only [Option.any_some, e2, ofList_beq]
  unfold Go.Program.funcNamed
  rw [hsz, List.filter_congr (fun j _ => hj j), h]
/-- the program's head word -/
def O : List Char := ['h', 'a', 'r', 'n', 'e', 's', 's', ' ', 'b', 'e', 'b', 'b', '3', 'd', 'a', '0', '8', '0', '1', '6', '6', '9', '7', '1', '2', '6', 'b', '5', '4', '6', '0', '0', '5', '0', 'e', '3', '6', '2', '6', 'd', '2', 'f', 'b', '7', '4', 'a', '8', '4', '1', 'd', 'd', 'f', '3', '9', 'a', '3', '5', '3', 'b', 'a', '3', '3', 'd', 'f', 'a', '4', '3', 'd', 'e', 'f', '8', '2', ' ', 'c', 'u', 't', ' ', 'a', 't', ' ', 'l', 'o', 'o', 'p', '.', 'e', 'x', 'a', 'm', 'p', 'l', 'e', '/', 'g', '0', '1', '1', '2', '2', '/', 'l', 'a', 'w', 's', '.', 'F', 'n', 'R', 'o', 'o', 't', 'Q', 'u', 'a', 'd', 's']
set_option maxRecDepth 100000 in
theorem ord0 : Try.prog.initOrder = String.ofList O := by kernel_rfl
theorem ord : Try.prog.initOrder.toList = O := by rw [ord0]; exact String.toList_ofList
/-- what stands behind the main word -/
def B : List (List Char) := [['c','u','t'],
  ['a','t'],
  a ++ ['l','a','w','s','.','F','n','R','o','o','t','Q','u','a','d','s']]
set_option maxRecDepth 100000 in
theorem words : wordsSigns O = [['h','a','r','n','e','s','s'],
  ['b','e','b','b','3','d','a','0','8','0','1','6','6','9','7','1','2','6','b','5','4','6','0','0','5','0','e','3','6','2','6','d','2','f','b','7','4','a','8','4','1','d','d','f','3','9','a','3','5','3','b','a','3','3','d','f','a','4','3','d','e','f','8','2']] ++ B := by kernel_rfl
theorem behind : behindMainWord (wordsSigns O) = B := by
  rw [words]
  kernel_rfl
theorem make0 (P : Go.Program) (l : List Char) (h : P.initOrder.toList = l) (W : List (List Char)) (hb : behindMainWord (wordsSigns l) = ['c', 'u', 't'] :: W) : P.make = some .cut := by
  unfold Go.Program.make
  rw [h, hb]
  rfl
theorem lifts0 (P : Go.Program) (l : List Char) (h : P.initOrder.toList = l) (W : List (List Char)) (hb : behindMainWord (wordsSigns l) = ['c', 'u', 't'] :: W) (hs : stripLifts liftWords (['c', 'u', 't'] :: W) = ([], ['c', 'u', 't'] :: W)) : P.liftsFinal = false := by
  unfold Go.Program.liftsFinal Go.Program.headLifts
  rw [h, hb]
  simp only [hs]
  rfl
theorem enter0 (P : Go.Program) (l : List Char) (h : P.initOrder.toList = l) (W : List (List Char)) (hb : behindMainWord (wordsSigns l) = ['c', 'u', 't'] :: W) (hs : stripLifts liftWords (['c', 'u', 't'] :: W) = ([], ['c', 'u', 't'] :: W)) (h1 : P.laysLater = false) (h2 : P.bearsReflect = false) (h3 : P.doorFits [] = true) : P.mayEnter = true := by
  unfold Go.Program.mayEnter
  rw [h, hb]
  simp only [hs, h1, h2, h3]
  rfl
theorem strip_ : stripLifts liftWords B = ([], B) := by kernel_rfl
theorem lays_ : Try.prog.laysLater = false := by kernel_rfl
theorem refl_ : Try.prog.bearsReflect = false := by kernel_rfl
theorem door_ : Try.prog.doorFits [] = true := by kernel_rfl
theorem make_ : Try.prog.make = some .cut := make0 Try.prog O ord _ behind
theorem lifts_ : Try.prog.liftsFinal = false := lifts0 Try.prog O ord _ behind strip_
theorem enter_ : Try.prog.mayEnter = true := enter0 Try.prog O ord _ behind strip_ lays_ refl_ door_
end Go.Proofs.Ytgjgoeodhioeiaa.Nm
