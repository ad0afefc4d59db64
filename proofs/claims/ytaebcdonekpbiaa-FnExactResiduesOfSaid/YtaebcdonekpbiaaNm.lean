/- The functions' names as lists of characters, and: a function is found by its name; there is no condition. -/
import Derived.Test.YtaebcdonekpbiaaRows
namespace Go.Proofs.Ytaebcdonekpbiaa.Nm
def a : List Char := ['l','o','o','p','.','e','x','a','m','p','l','e','/','g','0','1','1','2','2','/']
def L : List (List Char) := [['m','a','i','n','.','m','a','i','n'],
  ['g','o','s','e','m','.','c','u','t'],
  ['g','o','s','e','m','.','c','u','t','.','i','n','i','t'],
  a ++ ['l','a','w','s','.','F','n','E','x','a','c','t','R','e','s','i','d','u','e','s','O','f'],
  a ++ ['s','p','e','c','.','R','e','s','i','d','u','e','s','O','f'],
  a ++ ['l','a','w','s','.','t','o','I','n','t','S'],
  a ++ ['i','m','p','l','.','R','e','s','i','d','u','e','s','O','f'],
  a ++ ['l','a','w','s','.','e','q','I','n','t','S'],
  a ++ ['l','a','w','s','.','m','a','r','k','I','n','t','S'],
  a ++ ['l','a','w','s','.','h','e','l','d','I','n','t','S'],
  a ++ ['s','p','e','c','.','a','p','G','o','o','d'],
  a ++ ['s','p','e','c','.','a','p','S','c','a','l','e'],
  a ++ ['s','p','e','c','.','a','p','C','o','d','e'],
  a ++ ['s','p','e','c','.','l','1','P','u','t'],
  a ++ ['s','p','e','c','.','a','p','S','w','a','p'],
  a ++ ['i','m','p','l','.','I','s','Q','u','a','d'],
  a ++ ['i','m','p','l','.','s','c','a','l','e'],
  a ++ ['i','m','p','l','.','R','e','s','i','d','u','e','s','O','f','$','1'],
  a ++ ['i','m','p','l','.','s','w','a','p','p','e','d'],
  a ++ ['s','p','e','c','.','l','1','A','l','l'],
  a ++ ['s','p','e','c','.','f','o','G','c','d'],
  a ++ ['s','p','e','c','.','l','1','O','w','n'],
  a ++ ['s','p','e','c','.','a','p','S','u','m'],
  a ++ ['i','m','p','l','.','a','l','l','W','i','t','h','i','n'],
  a ++ ['i','m','p','l','.','s','u','m','O','f'],
  a ++ ['i','m','p','l','.','d','o','t'],
  a ++ ['i','m','p','l','.','d','i','v','i','s','o','r'],
  ['s','l','i','c','e','s','.','C','l','o','n','e','[','[',']','i','n','t',',','i','n','t',']'],
  a ++ ['s','p','e','c','.','l','1','I','n'],
  a ++ ['s','p','e','c','.','l','1','A','b','s'],
  ['s','l','i','c','e','s','.','C','o','n','t','a','i','n','s','F','u','n','c','[','[',']','i','n','t',',','i','n','t',']'],
  a ++ ['i','m','p','l','.','a','l','l','W','i','t','h','i','n','$','1'],
  a ++ ['i','m','p','l','.','w','i','t','h','i','n'],
  a ++ ['s','p','e','c','.','l','1','M','o','s','t'],
  ['s','l','i','c','e','s','.','I','n','d','e','x','F','u','n','c','[','[',']','i','n','t',',','i','n','t',']'],
  ['(','r','u','n','t','i','m','e','.','b','o','u','n','d','s','E','r','r','o','r',')','.','E','r','r','o','r'],
  ['(','r','u','n','t','i','m','e','.','b','o','u','n','d','s','E','r','r','o','r',')','.','R','u','n','t','i','m','e','E','r','r','o','r'],
  ['(','r','u','n','t','i','m','e','.','e','r','r','o','r','S','t','r','i','n','g',')','.','E','r','r','o','r'],
  ['(','r','u','n','t','i','m','e','.','e','r','r','o','r','S','t','r','i','n','g',')','.','R','u','n','t','i','m','e','E','r','r','o','r'],
  ['(','r','u','n','t','i','m','e','.','p','l','a','i','n','E','r','r','o','r',')','.','E','r','r','o','r'],
  ['(','r','u','n','t','i','m','e','.','p','l','a','i','n','E','r','r','o','r',')','.','R','u','n','t','i','m','e','E','r','r','o','r'],
  ['(','r','u','n','t','i','m','e','.','e','r','r','o','r','A','d','d','r','e','s','s','S','t','r','i','n','g',')','.','E','r','r','o','r'],
  ['(','r','u','n','t','i','m','e','.','e','r','r','o','r','A','d','d','r','e','s','s','S','t','r','i','n','g',')','.','R','u','n','t','i','m','e','E','r','r','o','r'],
  ['(','*','r','u','n','t','i','m','e','.','T','y','p','e','A','s','s','e','r','t','i','o','n','E','r','r','o','r',')','.','E','r','r','o','r'],
  ['(','*','r','u','n','t','i','m','e','.','T','y','p','e','A','s','s','e','r','t','i','o','n','E','r','r','o','r',')','.','R','u','n','t','i','m','e','E','r','r','o','r'],
  ['(','*','r','u','n','t','i','m','e','.','P','a','n','i','c','N','i','l','E','r','r','o','r',')','.','E','r','r','o','r'],
  ['(','*','r','u','n','t','i','m','e','.','P','a','n','i','c','N','i','l','E','r','r','o','r',')','.','R','u','n','t','i','m','e','E','r','r','o','r'],
  ['(','*','i','n','t','e','r','n','a','l','/','a','b','i','.','T','y','p','e',')','.','A','l','i','g','n'],
  ['(','i','n','t','e','r','n','a','l','/','r','u','n','t','i','m','e','/','m','a','p','s','.','u','n','h','a','s','h','a','b','l','e','T','y','p','e','E','r','r','o','r',')','.','E','r','r','o','r'],
  ['(','i','n','t','e','r','n','a','l','/','r','u','n','t','i','m','e','/','m','a','p','s','.','u','n','h','a','s','h','a','b','l','e','T','y','p','e','E','r','r','o','r',')','.','R','u','n','t','i','m','e','E','r','r','o','r'],
  ['(','i','n','t','e','r','n','a','l','/','a','b','i','.','K','i','n','d',')','.','S','t','r','i','n','g']]
set_option maxRecDepth 100000 in
theorem names : (Try.prog.funcs.toList.map fun (f : Func) => f.name) = L.map String.ofList := by kernel_rfl
theorem ofList_beq (a b : List Char) : (String.ofList a == String.ofList b) = (a == b) := by
  rw [Bool.eq_iff_iff, beq_iff_eq, beq_iff_eq]
  exact ⟨fun h => by simpa using congrArg String.toList h, fun h => by rw [h]⟩
theorem found (s : List Char) (i : Nat) (h : ((List.range L.length).filter fun j => (L[j]?).any (· == s)) = [i]) : Try.prog.funcNamed (String.ofList s) = some i := by
  have hsz : Try.prog.funcs.size = L.length := by
    have := congrArg List.length names
    simpa using this
  have hj : ∀ j : Nat, ((Try.prog.funcs[j]?).any fun (f : Func) => f.name == String.ofList s) = (L[j]?).any (· == s) := by
    intro j
    have e : (Try.prog.funcs.toList.map fun (f : Func) => f.name)[j]? = (L.map String.ofList)[j]? := by rw [names]
    rw [List.getElem?_map, List.getElem?_map, Array.getElem?_toList] at e
    cases h1 : Try.prog.funcs[j]? with
    | none =>
      rw [h1] at e
      cases h2 : L[j]? with
      | none => rfl
      | some b => rw [h2] at e; cases e
    | some f =>
      rw [h1] at e
      cases h2 : L[j]? with
      | none => rw [h2] at e; cases e
      | some b =>
        rw [h2] at e
        have e2 : f.name = String.ofList b := Option.some.inj e
        simp only [Option.any_some, e2, ofList_beq]
  unfold Go.Program.funcNamed
  rw [hsz, List.filter_congr (fun j _ => hj j), h]
/-- the program's head word -/
def O : List Char := ['h', 'a', 'r', 'n', 'e', 's', 's', ' ', 'c', '8', '3', '5', '9', 'd', '4', '3', '7', '6', '0', '1', '0', '1', 'd', 'a', 'a', '7', '4', '3', '2', 'c', 'b', '5', 'c', '8', 'd', 'c', 'c', 'b', 'b', '8', '4', 'f', 'e', '4', 'a', 'b', 'c', '8', '2', '3', '7', 'f', 'e', '7', 'e', 'f', '8', '0', 'c', 'f', '4', '5', 'f', '3', '4', 'f', '4', '1', 'a', '0', '0', '7', ' ', 'c', 'u', 't', ' ', 'a', 't', ' ', 'l', 'o', 'o', 'p', '.', 'e', 'x', 'a', 'm', 'p', 'l', 'e', '/', 'g', '0', '1', '1', '2', '2', '/', 'l', 'a', 'w', 's', '.', 'F', 'n', 'E', 'x', 'a', 'c', 't', 'R', 'e', 's', 'i', 'd', 'u', 'e', 's', 'O', 'f']
set_option maxRecDepth 100000 in
theorem ord0 : Try.prog.initOrder = String.ofList O := by kernel_rfl
theorem ord : Try.prog.initOrder.toList = O := by rw [ord0]; exact String.toList_ofList
/-- what stands behind the main word -/
def B : List (List Char) := [['c','u','t'],
  ['a','t'],
  a ++ ['l','a','w','s','.','F','n','E','x','a','c','t','R','e','s','i','d','u','e','s','O','f']]
set_option maxRecDepth 100000 in
theorem words : wordsSigns O = [['h','a','r','n','e','s','s'],
  ['c','8','3','5','9','d','4','3','7','6','0','1','0','1','d','a','a','7','4','3','2','c','b','5','c','8','d','c','c','b','b','8','4','f','e','4','a','b','c','8','2','3','7','f','e','7','e','f','8','0','c','f','4','5','f','3','4','f','4','1','a','0','0','7']] ++ B := by kernel_rfl
theorem behind : behindMainWord (wordsSigns O) = B := by
  rw [words]
  kernel_rfl
theorem make0 (P : Go.Program) (l : List Char) (h : P.initOrder.toList = l) (W : List (List Char)) (hb : behindMainWord (wordsSigns l) = ['c', 'u', 't'] :: W) : P.make = some .cut := by
  unfold Go.Program.make
  rw [h, hb]
  rfl
theorem lifts0 (P : Go.Program) (l : List Char) (h : P.initOrder.toList = l) (W : List (List Char)) (hb : behindMainWord (wordsSigns l) = ['c', 'u', 't'] :: W) (hs : stripLifts liftWords (['c', 'u', 't'] :: W) = ([], ['c', 'u', 't'] :: W)) : P.liftsFinal = false := by
  unfold Go.Program.liftsFinal Go.Program.headLifts
  rw [h, hb]
  simp only [hs]
  rfl
theorem enter0 (P : Go.Program) (l : List Char) (h : P.initOrder.toList = l) (W : List (List Char)) (hb : behindMainWord (wordsSigns l) = ['c', 'u', 't'] :: W) (hs : stripLifts liftWords (['c', 'u', 't'] :: W) = ([], ['c', 'u', 't'] :: W)) (h1 : P.laysLater = false) (h2 : P.bearsReflect = false) (h3 : P.doorFits [] = true) : P.mayEnter = true := by
  unfold Go.Program.mayEnter
  rw [h, hb]
  simp only [hs, h1, h2, h3]
  rfl
theorem strip_ : stripLifts liftWords B = ([], B) := by kernel_rfl
theorem lays_ : Try.prog.laysLater = false := by kernel_rfl
theorem refl_ : Try.prog.bearsReflect = false := by kernel_rfl
theorem door_ : Try.prog.doorFits [] = true := by kernel_rfl
theorem make_ : Try.prog.make = some .cut := make0 Try.prog O ord _ behind
theorem lifts_ : Try.prog.liftsFinal = false := lifts0 Try.prog O ord _ behind strip_
theorem enter_ : Try.prog.mayEnter = true := enter0 Try.prog O ord _ behind strip_ lays_ refl_ door_
end Go.Proofs.Ytaebcdonekpbiaa.Nm
