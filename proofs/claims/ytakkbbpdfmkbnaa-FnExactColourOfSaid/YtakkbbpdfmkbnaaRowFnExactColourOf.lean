/- The law's function returns true whatever its arguments are, and leaves them as they were. No conditions. -/
import Derived.Test.YtakkbbpdfmkbnaaRows
import Derived.Test.YtakkbbpdfmkbnaaFwb
import Derived.Test.YtakkbbpdfmkbnaaTiFnExactColourOfb
namespace Go.Proofs.Ytakkbbpdfmkbnaa.fnExactColourOf
open Go.Fw
set_option linter.unusedVariables false
theorem own : ownKnob Try.prog.godebug = none := by kernel_rfl
set_option maxRecDepth 100000 in
theorem lifted (os : Os) (started : os.Started) (H : Type) (enc : TypeId × Value → H) :
    ReturnsInHanded {} Try.checked os 10 .any (Rows.fnExactColourOfSpec.pre6 enc Try.prog Try.f10 Rows.fnExactColourOfRow.domain false) (Rows.fnExactColourOfSpec.post enc Try.prog Try.f10 false true false false) := by
  refine returnsInHanded_of_change_sized (C := Try.checked) own started (by kernel_rfl) Try.func10
    (ChangeSpec.witness6 (enc := enc) (C := Try.checked) false ⟨#[], #[.agg #[.int .i64 0, .int .i64 0, .slice none 0 0], .slice none 0 0, .int .i64 0], []⟩ 8 (by kernel_rfl) (by kernel_rfl) (by kernel_rfl) (by kernel_rfl)) ?_
  intro W base args ds gs before hval hW hcnd hsz _
  exact row_true e10ok Try.func10 (by kernel_rfl) (by kernel_rfl) (by kernel_rfl) (fun X => rfl) (fun X _ => rfl) (by kernel_rfl) (by kernel_rfl) (by kernel_rfl) (bt := 4) (by kernel_rfl) Try.underlying4 rfl
    (fun H ds h => match ds, h with | [d0, d1, d2], _ => rfl) W base args ds gs before hval hW
theorem over : Rows.fnExactColourOfRow.holds Try.pinned (OpenSpec.ofChange Rows.fnExactColourOfSpec) :=
  OpenClaim.holds_of_wide 10 Try.f10 rfl rfl rfl rfl rfl rfl rfl ⟨rfl, rfl, rfl, rfl, rfl⟩ rfl rfl rfl rfl rfl (by kernel_rfl) Try.func10 (by kernel_rfl)
    (of_decide_eq_true (by kernel_rfl)) (by unfold Func.isWrapper; first | (rw [if_pos (by decide +kernel)]; kernel_rfl) | (rw [if_neg (by decide +kernel)]; exact ⟨rfl, rfl⟩))
    (fun os started H enc _ => lifted os started H enc)
theorem proved : Rows.FnExactColourOfSaid := over
end Go.Proofs.Ytakkbbpdfmkbnaa.fnExactColourOf
namespace Go.Proofs.Ytakkbbpdfmkbnaa
theorem fnExactColourOf_holds : Rows.FnExactColourOfSaid := fnExactColourOf.proved
end Go.Proofs.Ytakkbbpdfmkbnaa
