/-
  The run: the evaluator answers 'true' on the law ScriptExamples (function 3 of this translation), with the table louvre/val.words in its heap and nothing else; by the kernel. Conditions: none.
-/
import Derived.Test.YtajkappjebiolaaGreatDoorLv8
import Derived.Test.YtajkappjebiolaaGreatDoorProg
namespace Go.Proofs.YtajkappjebiolaaGreatDoor
open Go Go.Lv
set_option maxRecDepth 1000000
noncomputable def wordsA : List AV := [.str [], .str [35, 68, 73, 86, 47, 48, 33], .str [35, 86, 65, 76, 85, 69, 33], .str [35, 78, 85, 77, 33], .str [35, 78, 47, 65], .str [35, 82, 69, 70, 33], .str [35, 67, 89, 67, 76, 69, 33], .str [35, 68, 69, 78, 73, 69, 68]]
noncomputable def FF : PT FE := mkF Tryz.prog
noncomputable def G0 : G := ⟨startHp [(1, wordsA)], Pos.ofNat 1000⟩
theorem mix : Tryz.prog.follows .mixedOrders = true := by decide +kernel
theorem gsz : Tryz.prog.globals.size = 9 := by decide +kernel
theorem fsz : Tryz.prog.funcs.size = 676 := by decide +kernel
theorem chk : Tryz.prog.funcs.toList.all fnCheck = true := by decide +kernel
theorem tab : FTab Tryz.prog FF := mkF_ok chk (by rw [fsz]; decide)
theorem run : evCall Tryz.prog FF (ev Tryz.prog FF 100000) (Pos.ofNat 3) [] G0 endTrue = true := by decide +kernel
end Go.Proofs.YtajkappjebiolaaGreatDoor
