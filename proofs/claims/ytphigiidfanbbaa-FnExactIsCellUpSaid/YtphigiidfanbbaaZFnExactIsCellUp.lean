/- The law FnExactIsCellUp holds of every input: its call returns true and leaves its arguments as they were. No condition. -/
import Derived.Test.YtphigiidfanbbaaRows
import Derived.Test.YtphigiidfanbbaaV3
set_option linter.unusedVariables false
set_option linter.unusedSimpArgs false
set_option linter.unusedSectionVars false
set_option linter.unusedVariables false
set_option linter.unusedSimpArgs false
namespace Go.Proofs.Ytphigiidfanbbaa.fnExactIsCellUp
open Go.ChangeShapes Go.WideShapes Go.ChangeAt Go.RowKit Go.Proofs.XTv Go.Proofs.XF Go.Proofs.Ytphigiidfanbbaa.XS
theorem own : ownKnob Try.prog.godebug = none := by kernel_rfl
theorem laid : laidOutB Try.prog = true := by kernel_rfl
theorem ub_ok {H : Type} : UbOk (H := H) Rows.uptoBulk Rows.uptoBulkAll := by
  refine ⟨fun l => ?_, fun b => ?_, ?_, fun a b => ?_, fun a => ?_, fun d r => ?_⟩
  · cases l <;> simp [Rows.uptoBulk]
  · simp [Rows.uptoBulk]
  · simp [Rows.uptoBulk]
  · simp only [Rows.uptoBulk]; omega
  · simp only [Rows.uptoBulk]; omega
  · simp only [Rows.uptoBulkAll]; omega
set_option maxRecDepth 100000 in
theorem lifted (os : Os) (started : os.Started) (H : Type) (enc : TypeId × Value → H) :
    ReturnsInHanded {} Try.checked os 3 .any (Rows.fnExactIsCellUpSpec.pre6 enc Try.prog Try.f3 Rows.fnExactIsCellUpRow.domain false) (Rows.fnExactIsCellUpSpec.post enc Try.prog Try.f3 false true false false) := by
  refine returnsInHanded_of_change_sized (C := Try.checked) own started (by kernel_rfl) Try.func3
    (ChangeSpec.witness6 (enc := enc) (C := Try.checked) false ⟨#[], #[.agg #[.slice none 0 0, .slice none 0 0, .slice none 0 0, .slice none 0 0, .slice none 0 0, .int .i64 0, .int .i64 0, .int .i64 0, .int .i64 0, .int .i64 0], .int .i64 0], []⟩ 12 (by kernel_rfl) (by kernel_rfl) (by kernel_rfl) (by kernel_rfl)) ?_
  intro W base args ds gs before hval hW hcnd hsz _
  refine law_step (B := Rows.uptoBulkAll (ds ++ gs)) (Γ := cx0) ty_ok open_ok ub_ok laid (ps := laws_FnExactIsCellUp.ps) (m := .own) (by decide) laws_FnExactIsCellUp.sound rfl ?_ (by kernel_rfl) (bT := 4) (by kernel_rfl) Try.underlying4 ?_ ?_ hval hW (Nat.le_refl _) hsz
  · rw [Try.params3]
    intro T hT
    simp only [List.mem_cons, List.not_mem_nil, or_false] at hT
    rcases hT with rfl | rfl
    all_goals exact ⟨by kernel_rfl, of_decide_eq_true (by kernel_rfl)⟩
  · intro ds hds
    rw [Try.params3] at hds
    match ds, hds with
    | [_, _], _ => rfl
  · intro x hg _
    exact ⟨FU, true, law_IsCellUp (Nat.le_refl _) (⟨good_plain (by decide) hg.1, good_plain (by decide) hg.2.1⟩), rfl⟩
theorem over : Rows.fnExactIsCellUpRow.holds Try.pinned (OpenSpec.ofChange Rows.fnExactIsCellUpSpec) :=
  OpenClaim.holds_of_wide 3 Try.f3 rfl rfl rfl rfl rfl rfl rfl ⟨rfl, rfl, rfl, rfl, rfl⟩ rfl rfl rfl rfl rfl (by kernel_rfl) Try.func3 (by kernel_rfl)
    (of_decide_eq_true (by kernel_rfl)) (by unfold Func.isWrapper; first | (rw [if_pos (by decide +kernel)]; kernel_rfl) | (rw [if_neg (by decide +kernel)]; exact ⟨rfl, rfl⟩))
    (fun os started H enc _ => lifted os started H enc)
end Go.Proofs.Ytphigiidfanbbaa.fnExactIsCellUp
namespace Go.Proofs.Ytphigiidfanbbaa
/-- The row, under a short name, for the claim. -/
theorem fnExactIsCellUp_holds : Rows.FnExactIsCellUpSaid := fnExactIsCellUp.over
end Go.Proofs.Ytphigiidfanbbaa
#print axioms Go.Proofs.Ytphigiidfanbbaa.fnExactIsCellUp_holds
