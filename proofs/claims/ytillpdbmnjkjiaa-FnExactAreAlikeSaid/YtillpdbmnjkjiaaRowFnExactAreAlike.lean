/- The law's function returns true whatever its arguments are, and leaves them as they were. No conditions. -/
import Derived.Test.YtillpdbmnjkjiaaRows
import Derived.Test.YtillpdbmnjkjiaaFwc
import Derived.Test.YtillpdbmnjkjiaaTiFnExactAreAlikeb
namespace Go.Proofs.Ytillpdbmnjkjiaa.fnExactAreAlike
open Go.Fw
set_option linter.unusedVariables false
theorem own : ownKnob Try.prog.godebug = none := by kernel_rfl
set_option maxRecDepth 100000 in
theorem lifted (os : Os) (started : os.Started) (H : Type) (enc : TypeId × Value → H) :
    ReturnsInHanded {} Try.checked os 9 .any (Rows.fnExactAreAlikeSpec.pre6 enc Try.prog Try.f9 Rows.fnExactAreAlikeRow.domain false) (Rows.fnExactAreAlikeSpec.post enc Try.prog Try.f9 false true false false) := by
  refine returnsInHanded_of_change_sized (C := Try.checked) own started (by kernel_rfl) Try.func9
    (ChangeSpec.witness6 (enc := enc) (C := Try.checked) false ⟨#[], #[.agg #[.int .i64 0, .int .i64 0, .slice none 0 0], .agg #[.int .i64 0, .int .i64 0, .slice none 0 0]], []⟩ 8 (by kernel_rfl) (by kernel_rfl) (by kernel_rfl) (by kernel_rfl)) ?_
  intro W base args ds gs before hval hW hcnd hsz _
  exact row_true e9ok Try.func9 (by kernel_rfl) (by kernel_rfl) (by kernel_rfl) (fun X => rfl) (fun X _ => rfl) (by kernel_rfl) (by kernel_rfl) (by kernel_rfl) (bt := 4) (by kernel_rfl) Try.underlying4 rfl
    (fun H ds h => match ds, h with | [d0, d1], _ => rfl) W base args ds gs before hval hW trivial
theorem over : Rows.fnExactAreAlikeRow.holds Try.pinned (OpenSpec.ofChange Rows.fnExactAreAlikeSpec) :=
  OpenClaim.holds_of_wide 9 Try.f9 rfl rfl rfl rfl rfl rfl rfl ⟨rfl, rfl, rfl, rfl, rfl⟩ rfl rfl rfl rfl rfl (by kernel_rfl) Try.func9 (by kernel_rfl)
    (of_decide_eq_true (by kernel_rfl)) (by unfold Func.isWrapper; first | (rw [if_pos (by decide +kernel)]; kernel_rfl) | (rw [if_neg (by decide +kernel)]; exact ⟨rfl, rfl⟩))
    (fun os started H enc _ => lifted os started H enc)
theorem proved : Rows.FnExactAreAlikeSaid := over
end Go.Proofs.Ytillpdbmnjkjiaa.fnExactAreAlike
namespace Go.Proofs.Ytillpdbmnjkjiaa
theorem fnExactAreAlike_holds : Rows.FnExactAreAlikeSaid := fnExactAreAlike.proved
end Go.Proofs.Ytillpdbmnjkjiaa
