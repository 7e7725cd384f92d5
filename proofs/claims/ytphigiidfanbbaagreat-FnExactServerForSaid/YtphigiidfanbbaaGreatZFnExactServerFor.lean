/- The law FnExactServerFor holds of every input: its call returns true and leaves its arguments as they were. No condition. -/
import Derived.Test.YtphigiidfanbbaaGreatRows
import Derived.Test.YtphigiidfanbbaaGreatV3
set_option linter.unusedVariables false
set_option linter.unusedSimpArgs false
set_option linter.unusedSectionVars false
set_option linter.unusedVariables false
set_option linter.unusedSimpArgs false
namespace Go.Proofs.YtphigiidfanbbaaGreat.fnExactServerFor
open Go.ChangeShapes Go.WideShapes Go.ChangeAt Go.RowKit Go.Proofs.XTv Go.Proofs.XF Go.Proofs.YtphigiidfanbbaaGreat.XS
theorem own : ownKnob Tryz.prog.godebug = none := by kernel_rfl
theorem laid : laidOutB Tryz.prog = true := by kernel_rfl
theorem ub_ok {H : Type} : UbOk (H := H) Rows.uptoBulk Rows.uptoBulkAll := by
  refine ⟨fun l => ?_, fun b => ?_, ?_, fun a b => ?_, fun a => ?_, fun d r => ?_⟩
  · cases l <;> simp [Rows.uptoBulk]
  · simp [Rows.uptoBulk]
  · simp [Rows.uptoBulk]
  · simp only [Rows.uptoBulk]; omega
  · simp only [Rows.uptoBulk]; omega
  · simp only [Rows.uptoBulkAll]; omega
set_option maxRecDepth 100000 in
theorem lifted (os : Os) (started : os.Started) (H : Type) (enc : TypeId × Value → H) :
    ReturnsInHanded {} Tryz.checked os 3 .any (Rows.fnExactServerForSpec.pre6 enc Tryz.prog Tryz.f3 Rows.fnExactServerForRow.domain false) (Rows.fnExactServerForSpec.post enc Tryz.prog Tryz.f3 false true false false) := by
  refine returnsInHanded_of_change_sized (C := Tryz.checked) own started (by kernel_rfl) Tryz.func3
    (ChangeSpec.witness6 (enc := enc) (C := Tryz.checked) false ⟨#[], #[.agg #[.slice none 0 0, .slice none 0 0, .slice none 0 0, .slice none 0 0, .slice none 0 0, .int .i64 0, .int .i64 0, .int .i64 0, .int .i64 0, .int .i64 0], .int .i64 0], []⟩ 12 (by kernel_rfl) (by kernel_rfl) (by kernel_rfl) (by kernel_rfl)) ?_
  intro W base args ds gs before hval hW hcnd hsz _
  refine law_step (B := Rows.uptoBulkAll (ds ++ gs)) (Γ := cx0) ty_ok open_ok ub_ok laid (ps := laws_FnExactServerFor.ps) (m := .own) (by decide) laws_FnExactServerFor.sound rfl ?_ (by kernel_rfl) (bT := 4) (by kernel_rfl) Tryz.underlying4 ?_ ?_ hval hW (Nat.le_refl _) hsz
  · rw [Tryz.params3]
    intro T hT
    simp only [List.mem_cons, List.not_mem_nil, or_false] at hT
    rcases hT with rfl | rfl
    all_goals exact ⟨by kernel_rfl, of_decide_eq_true (by kernel_rfl)⟩
  · intro ds hds
    rw [Tryz.params3] at hds
    match ds, hds with
    | [_, _], _ => rfl
  · intro x hg _
    exact ⟨FU, true, law_ServerFor (Nat.le_refl _) (⟨good_plain (by decide) hg.1, good_plain (by decide) hg.2.1⟩), rfl⟩
theorem over : Rows.fnExactServerForRow.holds Tryz.pinned (OpenSpec.ofChange Rows.fnExactServerForSpec) :=
  OpenClaim.holds_of_wide 3 Tryz.f3 rfl rfl rfl rfl rfl rfl rfl ⟨rfl, rfl, rfl, rfl, rfl⟩ rfl rfl rfl rfl rfl (by kernel_rfl) Tryz.func3 (by kernel_rfl)
    (of_decide_eq_true (by kernel_rfl)) (by unfold Func.isWrapper; first | (rw [if_pos (by decide +kernel)]; kernel_rfl) | (rw [if_neg (by decide +kernel)]; exact ⟨rfl, rfl⟩))
    (fun os started H enc _ => lifted os started H enc)
end Go.Proofs.YtphigiidfanbbaaGreat.fnExactServerFor
namespace Go.Proofs.YtphigiidfanbbaaGreat
/-- The row, under a short name, for the claim. -/
theorem fnExactServerFor_holds : Rows.FnExactServerForSaid := fnExactServerFor.over
end Go.Proofs.YtphigiidfanbbaaGreat
#print axioms Go.Proofs.YtphigiidfanbbaaGreat.fnExactServerFor_holds
