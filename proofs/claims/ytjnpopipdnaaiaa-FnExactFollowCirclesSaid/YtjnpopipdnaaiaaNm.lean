/- The functions' names as lists of characters, and: a function is found by its name; there is no condition. -/
import Derived.Test.YtjnpopipdnaaiaaRows
namespace Go.Proofs.Ytjnpopipdnaaiaa.Nm
def a : List Char := ['l','o','o','p','.','e','x','a','m','p','l','e','/','g','0','1','1','2','2','/']
def L : List (List Char) := [['m','a','i','n','.','m','a','i','n'],
  ['g','o','s','e','m','.','c','u','t'],
  ['g','o','s','e','m','.','c','u','t','.','i','n','i','t'],
  a ++ ['l','a','w','s','.','F','n','E','x','a','c','t','I','s','C','i','r','c','l','e'],
  a ++ ['l','a','w','s','.','F','n','E','x','a','c','t','D','o','T','o','u','c','h'],
  a ++ ['l','a','w','s','.','F','n','E','x','a','c','t','T','w','i','c','e','P','r','o','d','u','c','t'],
  a ++ ['l','a','w','s','.','F','n','E','x','a','c','t','F','l','i','p','C','i','r','c','l','e'],
  a ++ ['l','a','w','s','.','F','n','E','x','a','c','t','T','u','r','n','C','i','r','c','l','e'],
  a ++ ['l','a','w','s','.','F','n','E','x','a','c','t','S','t','a','r','t','C','o','n','f','i','g'],
  a ++ ['l','a','w','s','.','F','n','E','x','a','c','t','S','h','i','f','t','C','i','r','c','l','e'],
  a ++ ['l','a','w','s','.','F','n','E','x','a','c','t','R','e','f','l','e','c','t','C','i','r','c','l','e'],
  a ++ ['l','a','w','s','.','F','n','E','x','a','c','t','I','s','C','o','n','f','i','g'],
  a ++ ['l','a','w','s','.','F','n','E','x','a','c','t','T','o','u','c','h','i','n','g','P','a','i','r','s'],
  a ++ ['l','a','w','s','.','F','n','E','x','a','c','t','C','u','r','v','a','t','u','r','e','s','O','f'],
  a ++ ['l','a','w','s','.','F','n','E','x','a','c','t','S','w','a','p','C','i','r','c','l','e'],
  a ++ ['l','a','w','s','.','F','n','E','x','a','c','t','F','o','l','l','o','w','C','i','r','c','l','e','s'],
  a ++ ['l','a','w','s','.','F','n','E','x','a','c','t','C','i','r','c','l','e','s','U','p','T','o'],
  a ++ ['s','p','e','c','.','I','s','C','i','r','c','l','e'],
  a ++ ['l','a','w','s','.','t','o','C','i','r','c','l','e'],
  a ++ ['i','m','p','l','.','I','s','C','i','r','c','l','e'],
  a ++ ['s','p','e','c','.','D','o','T','o','u','c','h'],
  a ++ ['i','m','p','l','.','D','o','T','o','u','c','h'],
  a ++ ['s','p','e','c','.','T','w','i','c','e','P','r','o','d','u','c','t'],
  a ++ ['i','m','p','l','.','T','w','i','c','e','P','r','o','d','u','c','t'],
  a ++ ['s','p','e','c','.','F','l','i','p','C','i','r','c','l','e'],
  a ++ ['i','m','p','l','.','F','l','i','p','C','i','r','c','l','e'],
  a ++ ['l','a','w','s','.','e','q','C','i','r','c','l','e'],
  a ++ ['s','p','e','c','.','T','u','r','n','C','i','r','c','l','e'],
  a ++ ['i','m','p','l','.','T','u','r','n','C','i','r','c','l','e'],
  a ++ ['s','p','e','c','.','S','t','a','r','t','C','o','n','f','i','g'],
  a ++ ['i','m','p','l','.','S','t','a','r','t','C','o','n','f','i','g'],
  a ++ ['l','a','w','s','.','e','q','C','i','r','c','l','e','S'],
  a ++ ['l','a','w','s','.','m','a','r','k','C','i','r','c','l','e','S'],
  a ++ ['l','a','w','s','.','h','e','l','d','C','i','r','c','l','e','S'],
  a ++ ['s','p','e','c','.','S','h','i','f','t','C','i','r','c','l','e'],
  a ++ ['i','m','p','l','.','S','h','i','f','t','C','i','r','c','l','e'],
  a ++ ['s','p','e','c','.','R','e','f','l','e','c','t','C','i','r','c','l','e'],
  a ++ ['i','m','p','l','.','R','e','f','l','e','c','t','C','i','r','c','l','e'],
  a ++ ['l','a','w','s','.','s','z','C','i','r','c','l','e','S'],
  a ++ ['s','p','e','c','.','I','s','C','o','n','f','i','g'],
  a ++ ['l','a','w','s','.','t','o','C','i','r','c','l','e','S'],
  a ++ ['i','m','p','l','.','I','s','C','o','n','f','i','g'],
  a ++ ['s','p','e','c','.','T','o','u','c','h','i','n','g','P','a','i','r','s'],
  a ++ ['i','m','p','l','.','T','o','u','c','h','i','n','g','P','a','i','r','s'],
  a ++ ['l','a','w','s','.','e','q','I','n','t','S','S'],
  a ++ ['l','a','w','s','.','m','a','r','k','I','n','t','S','S'],
  a ++ ['l','a','w','s','.','h','e','l','d','I','n','t','S','S'],
  a ++ ['s','p','e','c','.','C','u','r','v','a','t','u','r','e','s','O','f'],
  a ++ ['i','m','p','l','.','C','u','r','v','a','t','u','r','e','s','O','f'],
  a ++ ['l','a','w','s','.','e','q','I','n','t','S'],
  a ++ ['l','a','w','s','.','m','a','r','k','I','n','t','S'],
  a ++ ['l','a','w','s','.','h','e','l','d','I','n','t','S'],
  a ++ ['s','p','e','c','.','S','w','a','p','C','i','r','c','l','e'],
  a ++ ['i','m','p','l','.','S','w','a','p','C','i','r','c','l','e'],
  a ++ ['s','p','e','c','.','F','o','l','l','o','w','C','i','r','c','l','e','s'],
  a ++ ['l','a','w','s','.','t','o','I','n','t','S'],
  a ++ ['i','m','p','l','.','F','o','l','l','o','w','C','i','r','c','l','e','s'],
  a ++ ['s','p','e','c','.','C','i','r','c','l','e','s','U','p','T','o'],
  a ++ ['i','m','p','l','.','C','i','r','c','l','e','s','U','p','T','o'],
  a ++ ['s','p','e','c','.','c','i','G','o','o','d'],
  a ++ ['i','m','p','l','.','a','l','l','W','i','t','h','i','n'],
  ['(','l','o','o','p','.','e','x','a','m','p','l','e','/','g','0','1','1','2','2','/','i','m','p','l','.','C','i','r','c','l','e',')','.','n','u','m','b','e','r','s'],
  a ++ ['s','p','e','c','.','c','i','T','w','i','c','e'],
  a ++ ['i','m','p','l','.','a','r','e','C','i','r','c','l','e','s'],
  a ++ ['i','m','p','l','.','t','w','i','c','e'],
  a ++ ['s','p','e','c','.','l','1','I','n'],
  a ++ ['s','p','e','c','.','c','i','I','f'],
  a ++ ['i','m','p','l','.','w','i','t','h','i','n'],
  a ++ ['i','m','p','l','.','d','r','a','w','n'],
  a ++ ['s','p','e','c','.','c','i','F','i','t','s'],
  a ++ ['s','p','e','c','.','c','i','F','o','u','r'],
  a ++ ['s','p','e','c','.','c','i','C','o','n','f','i','g'],
  a ++ ['i','m','p','l','.','a','r','e','F','o','u','r'],
  a ++ ['i','m','p','l','.','i','s','C','o','n','f','i','g'],
  a ++ ['i','m','p','l','.','t','o','u','c','h','i','n','g'],
  a ++ ['s','p','e','c','.','c','i','C','u','r','v','a','t','u','r','e','s'],
  a ++ ['i','m','p','l','.','c','u','r','v','a','t','u','r','e','s'],
  a ++ ['s','p','e','c','.','c','i','S','w','a','p'],
  a ++ ['i','m','p','l','.','i','s','I','n','d','e','x'],
  a ++ ['s','p','e','c','.','l','1','A','l','l'],
  ['s','l','i','c','e','s','.','C','l','o','n','e','[','[',']','l','o','o','p','.','e','x','a','m','p','l','e','/','g','0','1','1','2','2','/','i','m','p','l','.','C','i','r','c','l','e',',','l','o','o','p','.','e','x','a','m','p','l','e','/','g','0','1','1','2','2','/','i','m','p','l','.','C','i','r','c','l','e',']'],
  a ++ ['i','m','p','l','.','s','w','a','p','C','i','r','c','l','e'],
  a ++ ['s','p','e','c','.','a','p','G','o','o','d'],
  a ++ ['s','p','e','c','.','a','p','D','o','w','n'],
  a ++ ['s','p','e','c','.','a','p','S','o','r','t','e','d'],
  a ++ ['i','m','p','l','.','I','s','Q','u','a','d'],
  a ++ ['i','m','p','l','.','i','s','R','o','o','t'],
  ['s','l','i','c','e','s','.','M','i','n','[','[',']','i','n','t',',','i','n','t',']'],
  a ++ ['i','m','p','l','.','C','i','r','c','l','e','s','U','p','T','o','$','1'],
  ['s','l','i','c','e','s','.','C','o','n','t','a','i','n','s','F','u','n','c','[','[',']','i','n','t',',','i','n','t',']'],
  a ++ ['i','m','p','l','.','a','l','l','W','i','t','h','i','n','$','1'],
  ['s','l','i','c','e','s','.','C','o','n','t','a','i','n','s','F','u','n','c','[','[',']','l','o','o','p','.','e','x','a','m','p','l','e','/','g','0','1','1','2','2','/','i','m','p','l','.','C','i','r','c','l','e',',','l','o','o','p','.','e','x','a','m','p','l','e','/','g','0','1','1','2','2','/','i','m','p','l','.','C','i','r','c','l','e',']'],
  a ++ ['i','m','p','l','.','a','r','e','C','i','r','c','l','e','s','$','1'],
  a ++ ['s','p','e','c','.','l','1','A','b','s'],
  a ++ ['s','p','e','c','.','a','p','S','w','a','p'],
  a ++ ['s','p','e','c','.','l','1','O','w','n'],
  a ++ ['i','m','p','l','.','s','u','m','O','f'],
  a ++ ['i','m','p','l','.','d','o','t'],
  a ++ ['i','m','p','l','.','s','w','a','p','p','e','d'],
  ['s','l','i','c','e','s','.','I','n','d','e','x','F','u','n','c','[','[',']','i','n','t',',','i','n','t',']'],
  ['s','l','i','c','e','s','.','I','n','d','e','x','F','u','n','c','[','[',']','l','o','o','p','.','e','x','a','m','p','l','e','/','g','0','1','1','2','2','/','i','m','p','l','.','C','i','r','c','l','e',',','l','o','o','p','.','e','x','a','m','p','l','e','/','g','0','1','1','2','2','/','i','m','p','l','.','C','i','r','c','l','e',']'],
  a ++ ['s','p','e','c','.','l','1','M','o','s','t'],
  a ++ ['s','p','e','c','.','a','p','S','u','m'],
  ['s','l','i','c','e','s','.','C','l','o','n','e','[','[',']','i','n','t',',','i','n','t',']'],
  ['(','r','u','n','t','i','m','e','.','b','o','u','n','d','s','E','r','r','o','r',')','.','E','r','r','o','r'],
  ['(','r','u','n','t','i','m','e','.','b','o','u','n','d','s','E','r','r','o','r',')','.','R','u','n','t','i','m','e','E','r','r','o','r'],
  ['(','r','u','n','t','i','m','e','.','e','r','r','o','r','S','t','r','i','n','g',')','.','E','r','r','o','r'],
  ['(','r','u','n','t','i','m','e','.','e','r','r','o','r','S','t','r','i','n','g',')','.','R','u','n','t','i','m','e','E','r','r','o','r'],
  ['(','r','u','n','t','i','m','e','.','p','l','a','i','n','E','r','r','o','r',')','.','E','r','r','o','r'],
  ['(','r','u','n','t','i','m','e','.','p','l','a','i','n','E','r','r','o','r',')','.','R','u','n','t','i','m','e','E','r','r','o','r'],
  ['(','r','u','n','t','i','m','e','.','e','r','r','o','r','A','d','d','r','e','s','s','S','t','r','i','n','g',')','.','E','r','r','o','r'],
  ['(','r','u','n','t','i','m','e','.','e','r','r','o','r','A','d','d','r','e','s','s','S','t','r','i','n','g',')','.','R','u','n','t','i','m','e','E','r','r','o','r'],
  ['(','*','r','u','n','t','i','m','e','.','T','y','p','e','A','s','s','e','r','t','i','o','n','E','r','r','o','r',')','.','E','r','r','o','r'],
  ['(','*','r','u','n','t','i','m','e','.','T','y','p','e','A','s','s','e','r','t','i','o','n','E','r','r','o','r',')','.','R','u','n','t','i','m','e','E','r','r','o','r'],
  ['(','*','r','u','n','t','i','m','e','.','P','a','n','i','c','N','i','l','E','r','r','o','r',')','.','E','r','r','o','r'],
  ['(','*','r','u','n','t','i','m','e','.','P','a','n','i','c','N','i','l','E','r','r','o','r',')','.','R','u','n','t','i','m','e','E','r','r','o','r'],
  ['(','*','i','n','t','e','r','n','a','l','/','a','b','i','.','T','y','p','e',')','.','A','l','i','g','n'],
  ['(','i','n','t','e','r','n','a','l','/','r','u','n','t','i','m','e','/','m','a','p','s','.','u','n','h','a','s','h','a','b','l','e','T','y','p','e','E','r','r','o','r',')','.','E','r','r','o','r'],
  ['(','i','n','t','e','r','n','a','l','/','r','u','n','t','i','m','e','/','m','a','p','s','.','u','n','h','a','s','h','a','b','l','e','T','y','p','e','E','r','r','o','r',')','.','R','u','n','t','i','m','e','E','r','r','o','r'],
  ['(','i','n','t','e','r','n','a','l','/','a','b','i','.','K','i','n','d',')','.','S','t','r','i','n','g']]
set_option maxRecDepth 100000 in
theorem names : (Try.prog.funcs.toList.map fun (f : Func) => f.name) = L.map String.ofList := by kernel_rfl
theorem ofList_beq (a b : List Char) : (String.ofList a == String.ofList b) = (a == b) := by
  rw [Bool.eq_iff_iff, beq_iff_eq, beq_iff_eq]
  exact ⟨fun h => by simpa using congrArg String.toList h, fun h => by rw [h]⟩
theorem found (s : List Char) (i : Nat) (h : ((List.range L.length).filter fun j => (L[j]?).any (· == s)) = [i]) : Try.prog.funcNamed (String.ofList s) = some i := by
  have hsz : Try.prog.funcs.size = L.length := by
    have := congrArg List.length names
    simpa using this
  have hj : ∀ j : Nat, ((Try.prog.funcs[j]?).any fun (f : Func) => f.name == String.ofList s) = (L[j]?).any (· == s) := by
    intro j
    have e : (Try.prog.funcs.toList.map fun (f : Func) => f.name)[j]? = (L.map String.ofList)[j]? := by rw [names]
    rw [List.getElem?_map, List.getElem?_map, Array.getElem?_toList] at e
    cases h1 : Try.prog.funcs[j]? with
    | none =>
      rw [h1] at e
      cases h2 : L[j]? with
      | none => rfl
      | some b => rw [h2] at e; cases e
    | some f =>
      rw [h1] at e
      cases h2 : L[j]? with
      | none => rw [h2] at e; cases e
      | some b =>
        rw [h2] at e
        have e2 : f.name = String.ofList b := Option.some.inj e
        simp only [Option.any_some, e2, ofList_beq]
  unfold Go.Program.funcNamed
  rw [hsz, List.filter_congr (fun j _ => hj j), h]
/-- the program's head word -/
def O : List Char := ['h', 'a', 'r', 'n', 'e', 's', 's', ' ', '4', '3', '7', '2', '7', '8', 'd', 'a', '4', '3', '7', 'c', '3', '6', '8', '0', '4', 'e', '2', '6', '8', '5', '7', 'e', '3', '8', '3', 'e', 'e', 'b', '5', 'e', '3', 'c', 'c', 'e', 'd', '6', 'e', '5', '2', 'a', '5', '4', '9', '0', '7', '1', '3', '0', 'e', '5', 'e', '4', 'a', '6', '1', '7', '6', '9', 'e', '7', '5', '6', ' ', 'c', 'u', 't', ' ', 'a', 't', ' ', 'l', 'o', 'o', 'p', '.', 'e', 'x', 'a', 'm', 'p', 'l', 'e', '/', 'g', '0', '1', '1', '2', '2', '/', 'l', 'a', 'w', 's', '.', 'F', 'n', 'E', 'x', 'a', 'c', 't', 'I', 's', 'C', 'i', 'r', 'c', 'l', 'e', ' ', 'l', 'o', 'o', 'p', '.', 'e', 'x', 'a', 'm', 'p', 'l', 'e', '/', 'g', '0', '1', '1', '2', '2', '/', 'l', 'a', 'w', 's', '.', 'F', 'n', 'E', 'x', 'a', 'c', 't', 'D', 'o', 'T', 'o', 'u', 'c', 'h', ' ', 'l', 'o', 'o', 'p', '.', 'e', 'x', 'a', 'm', 'p', 'l', 'e', '/', 'g', '0', '1', '1', '2', '2', '/', 'l', 'a', 'w', 's', '.', 'F', 'n', 'E', 'x', 'a', 'c', 't', 'T', 'w', 'i', 'c', 'e', 'P', 'r', 'o', 'd', 'u', 'c', 't', ' ', 'l', 'o', 'o', 'p', '.', 'e', 'x', 'a', 'm', 'p', 'l', 'e', '/', 'g', '0', '1', '1', '2', '2', '/', 'l', 'a', 'w', 's', '.', 'F', 'n', 'E', 'x', 'a', 'c', 't', 'F', 'l', 'i', 'p', 'C', 'i', 'r', 'c', 'l', 'e', ' ', 'l', 'o', 'o', 'p', '.', 'e', 'x', 'a', 'm', 'p', 'l', 'e', '/', 'g', '0', '1', '1', '2', '2', '/', 'l', 'a', 'w', 's', '.', 'F', 'n', 'E', 'x', 'a', 'c', 't', 'T', 'u', 'r', 'n', 'C', 'i', 'r', 'c', 'l', 'e', ' ', 'l', 'o', 'o', 'p', '.', 'e', 'x', 'a', 'm', 'p', 'l', 'e', '/', 'g', '0', '1', '1', '2', '2', '/', 'l', 'a', 'w', 's', '.', 'F', 'n', 'E', 'x', 'a', 'c', 't', 'S', 't', 'a', 'r', 't', 'C', 'o', 'n', 'f', 'i', 'g', ' ', 'l', 'o', 'o', 'p', '.', 'e', 'x', 'a', 'm', 'p', 'l', 'e', '/', 'g', '0', '1', '1', '2', '2', '/', 'l', 'a', 'w', 's', '.', 'F', 'n', 'E', 'x', 'a', 'c', 't', 'S', 'h', 'i', 'f', 't', 'C', 'i', 'r', 'c', 'l', 'e', ' ', 'l', 'o', 'o', 'p', '.', 'e', 'x', 'a', 'm', 'p', 'l', 'e', '/', 'g', '0', '1', '1', '2', '2', '/', 'l', 'a', 'w', 's', '.', 'F', 'n', 'E', 'x', 'a', 'c', 't', 'R', 'e', 'f', 'l', 'e', 'c', 't', 'C', 'i', 'r', 'c', 'l', 'e', ' ', 'l', 'o', 'o', 'p', '.', 'e', 'x', 'a', 'm', 'p', 'l', 'e', '/', 'g', '0', '1', '1', '2', '2', '/', 'l', 'a', 'w', 's', '.', 'F', 'n', 'E', 'x', 'a', 'c', 't', 'I', 's', 'C', 'o', 'n', 'f', 'i', 'g', ' ', 'l', 'o', 'o', 'p', '.', 'e', 'x', 'a', 'm', 'p', 'l', 'e', '/', 'g', '0', '1', '1', '2', '2', '/', 'l', 'a', 'w', 's', '.', 'F', 'n', 'E', 'x', 'a', 'c', 't', 'T', 'o', 'u', 'c', 'h', 'i', 'n', 'g', 'P', 'a', 'i', 'r', 's', ' ', 'l', 'o', 'o', 'p', '.', 'e', 'x', 'a', 'm', 'p', 'l', 'e', '/', 'g', '0', '1', '1', '2', '2', '/', 'l', 'a', 'w', 's', '.', 'F', 'n', 'E', 'x', 'a', 'c', 't', 'C', 'u', 'r', 'v', 'a', 't', 'u', 'r', 'e', 's', 'O', 'f', ' ', 'l', 'o', 'o', 'p', '.', 'e', 'x', 'a', 'm', 'p', 'l', 'e', '/', 'g', '0', '1', '1', '2', '2', '/', 'l', 'a', 'w', 's', '.', 'F', 'n', 'E', 'x', 'a', 'c', 't', 'S', 'w', 'a', 'p', 'C', 'i', 'r', 'c', 'l', 'e', ' ', 'l', 'o', 'o', 'p', '.', 'e', 'x', 'a', 'm', 'p', 'l', 'e', '/', 'g', '0', '1', '1', '2', '2', '/', 'l', 'a', 'w', 's', '.', 'F', 'n', 'E', 'x', 'a', 'c', 't', 'F', 'o', 'l', 'l', 'o', 'w', 'C', 'i', 'r', 'c', 'l', 'e', 's', ' ', 'l', 'o', 'o', 'p', '.', 'e', 'x', 'a', 'm', 'p', 'l', 'e', '/', 'g', '0', '1', '1', '2', '2', '/', 'l', 'a', 'w', 's', '.', 'F', 'n', 'E', 'x', 'a', 'c', 't', 'C', 'i', 'r', 'c', 'l', 'e', 's', 'U', 'p', 'T', 'o']
set_option maxRecDepth 100000 in
theorem ord0 : Try.prog.initOrder = String.ofList O := by kernel_rfl
theorem ord : Try.prog.initOrder.toList = O := by rw [ord0]; exact String.toList_ofList
/-- what stands behind the main word -/
def B : List (List Char) := [['c','u','t'],
  ['a','t'],
  a ++ ['l','a','w','s','.','F','n','E','x','a','c','t','I','s','C','i','r','c','l','e'],
  a ++ ['l','a','w','s','.','F','n','E','x','a','c','t','D','o','T','o','u','c','h'],
  a ++ ['l','a','w','s','.','F','n','E','x','a','c','t','T','w','i','c','e','P','r','o','d','u','c','t'],
  a ++ ['l','a','w','s','.','F','n','E','x','a','c','t','F','l','i','p','C','i','r','c','l','e'],
  a ++ ['l','a','w','s','.','F','n','E','x','a','c','t','T','u','r','n','C','i','r','c','l','e'],
  a ++ ['l','a','w','s','.','F','n','E','x','a','c','t','S','t','a','r','t','C','o','n','f','i','g'],
  a ++ ['l','a','w','s','.','F','n','E','x','a','c','t','S','h','i','f','t','C','i','r','c','l','e'],
  a ++ ['l','a','w','s','.','F','n','E','x','a','c','t','R','e','f','l','e','c','t','C','i','r','c','l','e'],
  a ++ ['l','a','w','s','.','F','n','E','x','a','c','t','I','s','C','o','n','f','i','g'],
  a ++ ['l','a','w','s','.','F','n','E','x','a','c','t','T','o','u','c','h','i','n','g','P','a','i','r','s'],
  a ++ ['l','a','w','s','.','F','n','E','x','a','c','t','C','u','r','v','a','t','u','r','e','s','O','f'],
  a ++ ['l','a','w','s','.','F','n','E','x','a','c','t','S','w','a','p','C','i','r','c','l','e'],
  a ++ ['l','a','w','s','.','F','n','E','x','a','c','t','F','o','l','l','o','w','C','i','r','c','l','e','s'],
  a ++ ['l','a','w','s','.','F','n','E','x','a','c','t','C','i','r','c','l','e','s','U','p','T','o']]
set_option maxRecDepth 100000 in
theorem words : wordsSigns O = [['h','a','r','n','e','s','s'],
  ['4','3','7','2','7','8','d','a','4','3','7','c','3','6','8','0','4','e','2','6','8','5','7','e','3','8','3','e','e','b','5','e','3','c','c','e','d','6','e','5','2','a','5','4','9','0','7','1','3','0','e','5','e','4','a','6','1','7','6','9','e','7','5','6']] ++ B := by kernel_rfl
theorem behind : behindMainWord (wordsSigns O) = B := by
  rw [words]
  kernel_rfl
theorem make0 (P : Go.Program) (l : List Char) (h : P.initOrder.toList = l) (W : List (List Char)) (hb : behindMainWord (wordsSigns l) = ['c', 'u', 't'] :: W) : P.make = some .cut := by
  unfold Go.Program.make
  rw [h, hb]
  rfl
theorem lifts0 (P : Go.Program) (l : List Char) (h : P.initOrder.toList = l) (W : List (List Char)) (hb : behindMainWord (wordsSigns l) = ['c', 'u', 't'] :: W) (hs : stripLifts liftWords (['c', 'u', 't'] :: W) = ([], ['c', 'u', 't'] :: W)) : P.liftsFinal = false := by
  unfold Go.Program.liftsFinal Go.Program.headLifts
  rw [h, hb]
  simp only [hs]
  rfl
theorem enter0 (P : Go.Program) (l : List Char) (h : P.initOrder.toList = l) (W : List (List Char)) (hb : behindMainWord (wordsSigns l) = ['c', 'u', 't'] :: W) (hs : stripLifts liftWords (['c', 'u', 't'] :: W) = ([], ['c', 'u', 't'] :: W)) (h1 : P.laysLater = false) (h2 : P.bearsReflect = false) (h3 : P.doorFits [] = true) : P.mayEnter = true := by
  unfold Go.Program.mayEnter
  rw [h, hb]
  simp only [hs, h1, h2, h3]
  rfl
theorem strip_ : stripLifts liftWords B = ([], B) := by kernel_rfl
theorem lays_ : Try.prog.laysLater = false := by kernel_rfl
theorem refl_ : Try.prog.bearsReflect = false := by kernel_rfl
theorem door_ : Try.prog.doorFits [] = true := by kernel_rfl
theorem make_ : Try.prog.make = some .cut := make0 Try.prog O ord _ behind
theorem lifts_ : Try.prog.liftsFinal = false := lifts0 Try.prog O ord _ behind strip_
theorem enter_ : Try.prog.mayEnter = true := enter0 Try.prog O ord _ behind strip_ lays_ refl_ door_
end Go.Proofs.Ytjnpopipdnaaiaa.Nm
