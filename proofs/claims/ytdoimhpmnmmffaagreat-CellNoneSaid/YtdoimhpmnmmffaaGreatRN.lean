/- The statement on a cell that is not there: the law returns true, whatever the world. No condition. -/
import Derived.Test.YtdoimhpmnmmffaaGreatK4
import Derived.Test.YtdoimhpmnmmffaaGreatRows
import Derived.WalkKit
import Derived.ProofKit
import Derived.OpenShut
set_option linter.unusedVariables false
set_option linter.unusedSimpArgs false
namespace Go.Proofs.YtdoimhpmnmmffaaGreat
open Go

theorem kept_keep {w w' : World} (k : Keep no w.heap w'.heap) (ho : w'.os = w.os) (hu : w'.output = w.output) (may : MemPlace → Prop) : w.keptBut w' may := by
  refine ⟨ho, hu, fun i hi => ?_⟩
  rw [k.get i hi (fun h => h)]
  split
  · rename_i h1 h2
    rw [h1] at h2; cases h2
    exact ⟨rfl, rfl, rfl, fun _ _ => rfl⟩
  · rename_i h1 h2
    rw [h1] at h2; cases h2
    exact .inr ⟨rfl, rfl⟩
  · rfl
theorem walk_none (w : World) : Calls Tryz.prog 5 #[] w fun e w' => e = .returned (.bool true) ∧ w'.os = w.os ∧ w'.output = w.output ∧ Keep no w.heap w'.heap := by
  have h : Runs Tryz.prog 5 [] w.heap (fun v H' => v = .bool true ∧ Keep no w.heap H') (fun _ _ => False) := c5 fun H' k => ⟨rfl, k⟩
  refine (h w rfl).mono fun e w' he => ?_
  obtain ⟨h1, h2, h3⟩ := he
  cases e with
  | returned v => obtain ⟨rfl, k⟩ := h3; exact ⟨rfl, h1, h2, k⟩
  | panicked c => exact h3.elim
  | outgrown => exact h3.elim

open Go.ChangeShapes Go.WideShapes Go.ChangeAt Go.RowKit
theorem own_none : ownKnob Tryz.prog.godebug = none := by kernel_rfl
set_option maxRecDepth 100000 in
theorem lifted_none (os : Os) (started : os.Started) (H : Type) (enc : TypeId × Value → H) :
    ReturnsInHanded {} Tryz.checked os 5 .any (Rows.cellNoneSpec.pre6 enc Tryz.prog Tryz.f5 Rows.cellNoneRow.domain false) (Rows.cellNoneSpec.post enc Tryz.prog Tryz.f5 false true false false) := by
  refine returnsInHanded_of_change (C := Tryz.checked) own_none started (by kernel_rfl) Tryz.func5
    (ChangeSpec.witness6 (enc := enc) (C := Tryz.checked) false ⟨#[], #[], []⟩ 8 (by kernel_rfl) (by kernel_rfl) (by kernel_rfl) (by kernel_rfl)) ?_
  intro W base args ds gs before _ hW _ _
  have hW' := hW
  obtain ⟨p, q, hA0, hV, rfl, _, _⟩ := hW
  have hA : DataW.TrodAll enc Tryz.prog W 0 (fun _ => true) true Tryz.f5.params.toList args.toList ds p := hA0
  rw [Tryz.params5] at hA
  obtain ⟨rfl, rfl, rfl⟩ := trodAll_none hA
  obtain ⟨rfl, rfl⟩ := trodVars_none hV
  clear hA0
  simp only [List.append_nil] at hW'
  refine (walk_none W).mono fun e W' ⟨he, ho, hu, hk⟩ => ?_
  subst he
  exact ⟨_, rfl, [], [], [], [], [], [], hW', trodAll_cons_mk (shut_bool Tryz.underlying4 _) trodAll_mk0, rfl, rfl, kept_keep hk ho hu _, fun h => by cases h⟩

theorem none_holds : Rows.CellNoneSaid :=
  OpenClaim.holds_of_wide 5 Tryz.f5 rfl rfl rfl rfl rfl rfl rfl ⟨rfl, rfl, rfl, rfl, rfl⟩ rfl rfl rfl rfl rfl (by kernel_rfl) Tryz.func5 (by kernel_rfl)
    (of_decide_eq_true (by kernel_rfl)) (by unfold Func.isWrapper; first | (rw [if_pos (by decide +kernel)]; kernel_rfl) | (rw [if_neg (by decide +kernel)]; exact ⟨rfl, rfl⟩))
    (fun os started H enc _ => lifted_none os started H enc)
end Go.Proofs.YtdoimhpmnmmffaaGreat
#print axioms Go.Proofs.YtdoimhpmnmmffaaGreat.none_holds

