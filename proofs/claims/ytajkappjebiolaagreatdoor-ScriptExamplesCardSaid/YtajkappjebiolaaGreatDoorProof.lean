/-
  louvrelaw41.ScriptExamples returns true: the row and its tied card, from the evaluator's answer (Run). Conditions: those of the given statement alone (the listed variables hold what the program's text lays).
-/
import Derived.Test.YtajkappjebiolaaGreatDoorRun
import Derived.Test.YtajkappjebiolaaGreatDoorKnot
import Derived.Test.YtajkappjebiolaaGreatDoorFactsA
import Derived.Test.YtajkappjebiolaaGreatDoorFactsB
import Derived.Test.YtajkappjebiolaaGreatDoorCards
import Derived.ProofKit
import Derived.OpenShut
import Derived.LaidMore
import Derived.Lay
import Derived.SevenTiedAt
import Derived.Stop.Joined
namespace Go.Proofs.YtajkappjebiolaaGreatDoor
open Go Go.ChangeShapes Go.WideShapes Go.ChangeAt Go.RowKit Go.Lv

def wordsB : List (List UInt8) := [[], [35, 68, 73, 86, 47, 48, 33], [35, 86, 65, 76, 85, 69, 33], [35, 78, 85, 77, 33], [35, 78, 47, 65], [35, 82, 69, 70, 33], [35, 67, 89, 67, 76, 69, 33], [35, 68, 69, 78, 73, 69, 68]]
theorem words_eq : wordsA = strsA wordsB := rfl
noncomputable abbrev laid : List (String × DataW Unit) := Rows.scriptExamplesRow.laid
theorem own : ownKnob Tryz.prog.godebug = none := by kernel_rfl

/-- The call, in any world that meets the condition. -/
theorem call (W : World) (h : laidMet Tryz.prog laid W) : Calls Tryz.prog 3 #[] W fun e W' => e = .returned (.bool true) ∧ Below W.heap.size W W' := by
  have hcells := strings_laid h (bss := wordsB) (name := "louvre/val.words") (.head _) (g := 1) (t := 437) (e := 9) (n := 8) (by kernel_rfl) (by kernel_rfl) Tryz.underlying437 rfl Tryz.underlying9 (by kernel_rfl)
  obtain ⟨φ, h1, h2, h3⟩ := start_ok (P := Tryz.prog) (W := W) (l := [(1, wordsA)]) (nx := Pos.ofNat 1000) gsz (by decide) (by rw [Pos.ofNat_n (by decide)]; decide) (fun x hx => by
    obtain rfl : x = (1, wordsA) := by simpa using hx
    refine ⟨by decide, by rw [words_eq]; exact strsA_one _, _, ?_, fun φ => by rw [words_eq]; exact strsA_VRs φ _, hcells⟩
    simp [wordsB])
  refine (run_ok mix tab h1 h2 h3 run).mono fun e W' ⟨he, k1, k2, k3, k4, k5⟩ => ?_
  exact ⟨he, k3, k5, k4, k1, k2⟩

set_option maxRecDepth 100000 in
theorem lifted (os : Os) (started : os.Started) (H : Type) (enc : TypeId × Value → H) :
    ReturnsInHanded {} Tryz.checked os 3 .any (fun w args => (Rows.scriptExamplesSpec.pre enc Tryz.prog Tryz.f3 [] false w args ∧ laidMetH Tryz.prog laid w) ∧ sizedMet enc Tryz.prog Tryz.f3 (OpenSpec.ofChange Rows.scriptExamplesSpec) false w args)
      (Rows.scriptExamplesSpec.post enc Tryz.prog Tryz.f3 false true false false) := by
  refine returnsInHanded_of_change_and (C := Tryz.checked) (X := fun w _ => laidMetH Tryz.prog laid w) (fun _ _ _ hh h => h.of_heap hh) own started (by kernel_rfl) Tryz.func3
    (ChangeSpec.witness_shaped (enc := enc) (C := Tryz.checked) (os := os) (X := fun w _ => laidMetH Tryz.prog laid w) false (World.laidAll Tryz.prog os laid) #[] 8 (World.laidAll_os _ _ _)
      (World.shaped_of_ZipB (by kernel_rfl) (by kernel_rfl)) (by kernel_rfl) (by kernel_rfl) (by kernel_rfl)
      (by rw [MakeChecks.laidMetH_plain _ _ _ (by kernel_rfl)]; exact laidMet_laidAll _ (by kernel_rfl) (by kernel_rfl))) ?_
  intro W base args ds gs before hval0 hW _ _ hL _
  have hW' := hW
  obtain ⟨p, q, hA0, hV, rfl, _, _⟩ := hW
  have hA : DataW.TrodAll enc Tryz.prog W 0 (fun _ => true) true Tryz.f3.params.toList args.toList ds p := hA0
  rw [Tryz.params3] at hA
  obtain ⟨rfl, rfl, rfl⟩ := trodAll_none hA
  obtain ⟨rfl, rfl⟩ := trodVars_none hV
  simp only [List.append_nil] at hW'
  rw [MakeChecks.laidMetH_plain _ _ _ (by kernel_rfl)] at hL
  refine (call W hL).mono fun e W' ⟨he, hb⟩ => ?_
  subst he
  exact ⟨_, rfl, _, _, _, [], [], [], hW', trodAll_mk1 (shut_bool Tryz.underlying4 _), trodAll_mk0, rfl, hb.frame _, fun h => by cases h⟩

theorem joined : joinedFacts Tryz.prog 3 Tryz.f3 Rows.scriptExamplesSpec Rows.scriptExamplesRow = true :=
  Go.Lv.joined_of jf1 jf2 jf3 jf4 jf5 jf6 jf7 jf8 jf9 jf10 jf11 jf12 jf13 jf14 jf15 jf16 jf17 jf18 jf19 jf20 jf21 jf22 jf23 jf24 jf25 jf26 jf27 jf28 rfl rfl jf30 jf31 jf32

theorem row_holds : Rows.ScriptExamplesSaid :=
  OpenClaim.holds_of_wide 3 Tryz.f3 rfl rfl rfl rfl rfl rfl rfl ⟨rfl, rfl, rfl, rfl, rfl⟩ rfl rfl rfl rfl rfl cf4 Tryz.func3 joined cf6 cf7
    (fun os started H enc _ => lifted os started H enc)

theorem card_holds : Rows.ScriptExamplesCardSaid :=
  Claim7.holds_tied_plain_at .later [] [.data, .data, .data, .data, .pinned, .data] true (true, "63d3cafe305afb949f8c0da724242b59b0975f95e5e378ff385002d5b57ebd97") true row_holds (fun _ h => by cases h) cf1 (fun _ h => by cases h) scriptExamples_row_tie rfl ⟨rfl, rfl⟩ cf2 rfl
    (fun f fn hf hfn => by
      obtain rfl : f = 3 := Option.some.inj (cf4.symm.trans hf) |>.symm
      obtain rfl : fn = Tryz.f3 := (Option.some.inj (Tryz.func3.symm.trans hfn)).symm
      exact ⟨cf5, fun j t ht => by
        rw [Tryz.params3] at ht
        simp at ht⟩)
    cfGoes
end Go.Proofs.YtajkappjebiolaaGreatDoor
