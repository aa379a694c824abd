/-
  The other closed facts of the row and of its card, each a theorem of its own. Conditions: none.
-/
import Derived.Test.YtajkappjebiolaaGreatDoorRows
import Derived.KernelRfl
import GoSem.ClaimSeven
namespace Go.Proofs.YtajkappjebiolaaGreatDoor
open Go
theorem jf1 : (Rows.scriptExamplesRow.wf (OpenSpec.ofChange Rows.scriptExamplesSpec)) = true := by kernel_rfl
theorem jf3 : (mapsRowed Tryz.prog) = true := by kernel_rfl
theorem jf4 : (Tryz.f3.params.all (Tryz.prog.readableRec ·)) = true := by kernel_rfl
theorem jf5 : (namedTie Tryz.prog Rows.scriptExamplesRow.named Rows.scriptExamplesSpec.vars) = true := by kernel_rfl
theorem jf6 : ((Rows.scriptExamplesRow.stops == [])) = true := by kernel_rfl
theorem jf7 : ((Tryz.prog.stops == [])) = true := by kernel_rfl
theorem jf8 : ((Rows.scriptExamplesRow.knobs == [])) = true := by kernel_rfl
theorem jf9 : ((Tryz.prog.stopKnobs == [])) = true := by kernel_rfl
theorem jf14 : ((Rows.scriptExamplesRow.maps == (Tryz.f3.params.toList ++ Rows.scriptExamplesSpec.plain.varTypes Tryz.prog).any (Tryz.prog.mapsRec ·))) = true := by kernel_rfl
theorem jf15 : ((Rows.scriptExamplesRow.ifaces == (Tryz.f3.params.toList ++ Rows.scriptExamplesSpec.plain.varTypes Tryz.prog).any (Tryz.prog.ifacesRec ·))) = true := by kernel_rfl
theorem jf16 : ((Rows.scriptExamplesRow.mapsOut == Tryz.prog.mapsAmong Tryz.f3.resultTypes.toList)) = true := by kernel_rfl
theorem jf17 : ((Rows.scriptExamplesRow.loops == (Tryz.f3.params.toList ++ Rows.scriptExamplesSpec.plain.varTypes Tryz.prog).any (Tryz.prog.loopsFrom ·))) = true := by kernel_rfl
theorem jf18 : ((Rows.scriptExamplesRow.wideKeys == (Tryz.f3.params.toList ++ Rows.scriptExamplesSpec.plain.varTypes Tryz.prog ++ Tryz.f3.resultTypes.toList).any (Tryz.prog.wideKeysFrom ·))) = true := by kernel_rfl
theorem jf19 : (Rows.scriptExamplesSpec.vars.all (Tryz.prog.varReadable ·)) = true := by kernel_rfl
theorem jf20 : (Tryz.f3.resultTypes.all (fun t => Tryz.prog.readableRec t && decide (t < Tryz.prog.types.size))) = true := by kernel_rfl
theorem jf21 : ((Rows.scriptExamplesRow.ifacesOut == Tryz.f3.resultTypes.toList.any (Tryz.prog.ifacesRec ·))) = true := by kernel_rfl
theorem jf22 : ((Rows.scriptExamplesRow.loopsOut == Tryz.f3.resultTypes.toList.any (Tryz.prog.loopsFrom ·))) = true := by kernel_rfl
theorem jf23 : ((Rows.scriptExamplesRow.plainKeys == Tryz.prog.plainKeys)) = true := by kernel_rfl
theorem jf24 : (Rows.scriptExamplesRow.shortTexts.isNone) = true := by kernel_rfl
theorem jf25 : (Tryz.prog.stopsHeard) = true := by kernel_rfl
theorem jf26 : (Tryz.prog.mayEnter) = true := by kernel_rfl
theorem jf27 : ((Rows.scriptExamplesRow.lifted == Tryz.prog.liftsFinal)) = true := by kernel_rfl
theorem jf28 : ((Tryz.prog.make == some Rows.scriptExamplesRow.make)) = true := by kernel_rfl
theorem jf30 : ((Rows.scriptExamplesRow.pinned == Rows.scriptExamplesRow.pinnedBy)) = true := by kernel_rfl
theorem jf31 : ((Rows.scriptExamplesRow.veiled == (Tryz.f3.params.toList ++ Rows.scriptExamplesSpec.plain.varTypes Tryz.prog ++ Tryz.f3.resultTypes.toList).any (Tryz.prog.veiledRec ·))) = true := by kernel_rfl
theorem jf32 : (Rows.scriptExamplesRow.veiledFits Tryz.prog Tryz.f3.params.toList (Tryz.f3.params.toList ++ Rows.scriptExamplesSpec.plain.varTypes Tryz.prog ++ Tryz.f3.resultTypes.toList)) = true := by kernel_rfl
theorem cf1 : Rows.scriptExamplesRow.wfByText (OpenSpec.ofChange Rows.scriptExamplesSpec) = true := by kernel_rfl
theorem cf2 : Tryz.prog.mainIs = some (true, "63d3cafe305afb949f8c0da724242b59b0975f95e5e378ff385002d5b57ebd97".toList) := by kernel_rfl
theorem cf4 : Tryz.prog.funcNamed "louvre/louvrelaw41.ScriptExamples" = some 3 := by kernel_rfl
theorem cf6 : Tryz.f3.isInstance Tryz.prog Rows.scriptExamplesRow.origin Rows.scriptExamplesRow.targs := of_decide_eq_true (by kernel_rfl)
theorem cf7 : Tryz.f3.isWrapper Tryz.prog Rows.scriptExamplesRow.wrapper Rows.scriptExamplesRow.mainSum := by unfold Func.isWrapper; first | (rw [if_pos (by decide +kernel)]; kernel_rfl) | (rw [if_neg (by decide +kernel)]; exact ⟨rfl, rfl⟩)
theorem cf5 : true = Tryz.prog.looks [] := by kernel_rfl
end Go.Proofs.YtajkappjebiolaaGreatDoor
