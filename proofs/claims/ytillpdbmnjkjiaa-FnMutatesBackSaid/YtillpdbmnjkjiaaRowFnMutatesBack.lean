/- The law's function returns true whatever its arguments are, and leaves them as they were. No conditions. -/
import Derived.Test.YtillpdbmnjkjiaaRows
import Derived.Test.YtillpdbmnjkjiaaFwc
import Derived.Test.YtillpdbmnjkjiaaTiFnMutatesBackb
namespace Go.Proofs.Ytillpdbmnjkjiaa.fnMutatesBack
open Go.Fw
set_option linter.unusedVariables false
theorem own : ownKnob Try.prog.godebug = none := by kernel_rfl
set_option maxRecDepth 100000 in
theorem lifted (os : Os) (started : os.Started) (H : Type) (enc : TypeId × Value → H) :
    ReturnsInHanded {} Try.checked os 5 .any (Rows.fnMutatesBackSpec.pre6 enc Try.prog Try.f5 Rows.fnMutatesBackRow.domain false) (Rows.fnMutatesBackSpec.post enc Try.prog Try.f5 false true false false) := by
  refine returnsInHanded_of_change_sized (C := Try.checked) own started (by kernel_rfl) Try.func5
    (ChangeSpec.witness6 (enc := enc) (C := Try.checked) false ⟨#[], #[.slice none 0 0], []⟩ 8 (by kernel_rfl) (by kernel_rfl) (by kernel_rfl) (by kernel_rfl)) ?_
  intro W base args ds gs before hval hW hcnd hsz _
  exact row_true e5ok Try.func5 (by kernel_rfl) (by kernel_rfl) (by kernel_rfl) (fun X => rfl) (fun X _ => rfl) (by kernel_rfl) (by kernel_rfl) (by kernel_rfl) (bt := 4) (by kernel_rfl) Try.underlying4 rfl
    (fun H ds h => match ds, h with | [d0], _ => rfl) W base args ds gs before hval hW trivial
theorem over : Rows.fnMutatesBackRow.holds Try.pinned (OpenSpec.ofChange Rows.fnMutatesBackSpec) :=
  OpenClaim.holds_of_wide 5 Try.f5 rfl rfl rfl rfl rfl rfl rfl ⟨rfl, rfl, rfl, rfl, rfl⟩ rfl rfl rfl rfl rfl (by kernel_rfl) Try.func5 (by kernel_rfl)
    (of_decide_eq_true (by kernel_rfl)) (by unfold Func.isWrapper; first | (rw [if_pos (by decide +kernel)]; kernel_rfl) | (rw [if_neg (by decide +kernel)]; exact ⟨rfl, rfl⟩))
    (fun os started H enc _ => lifted os started H enc)
theorem proved : Rows.FnMutatesBackSaid := over
end Go.Proofs.Ytillpdbmnjkjiaa.fnMutatesBack
namespace Go.Proofs.Ytillpdbmnjkjiaa
theorem fnMutatesBack_holds : Rows.FnMutatesBackSaid := fnMutatesBack.proved
end Go.Proofs.Ytillpdbmnjkjiaa
