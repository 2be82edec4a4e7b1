/- The law's function returns true whatever its arguments are, and leaves them as they were. No conditions. -/
import Derived.Test.YtakkbbpdfmkbnaaRows
import Derived.Test.YtakkbbpdfmkbnaaFwd
import Derived.Test.YtakkbbpdfmkbnaaTiFnColoursb
namespace Go.Proofs.Ytakkbbpdfmkbnaa.fnColours
open Go.Fw
set_option linter.unusedVariables false
theorem own : ownKnob Try.prog.godebug = none := by kernel_rfl
set_option maxRecDepth 100000 in
theorem lifted (os : Os) (started : os.Started) (H : Type) (enc : TypeId × Value → H) :
    ReturnsInHanded {} Try.checked os 3 .any (Rows.fnColoursSpec.pre6 enc Try.prog Try.f3 Rows.fnColoursRow.domain false) (Rows.fnColoursSpec.post enc Try.prog Try.f3 false true false false) := by
  refine returnsInHanded_of_change_sized (C := Try.checked) own started (by kernel_rfl) Try.func3
    (ChangeSpec.witness6 (enc := enc) (C := Try.checked) false ⟨#[], #[.slice none 0 0], []⟩ 8 (by kernel_rfl) (by kernel_rfl) (by kernel_rfl) (by kernel_rfl)) ?_
  intro W base args ds gs fN hval hW hcnd hsz _
  exact J0 e3ok Try.func3 (by kernel_rfl) (by kernel_rfl) (by kernel_rfl) (fun X => rfl) (fun X _ => rfl) (by kernel_rfl) (by kernel_rfl) (by kernel_rfl) (bt := 4) (by kernel_rfl) Try.underlying4 rfl
    (fun H ds h => match ds, h with | [d0], _ => rfl) W base args ds gs fN hval hW trivial
theorem over : Rows.fnColoursRow.holds Try.pinned (OpenSpec.ofChange Rows.fnColoursSpec) :=
  OpenClaim.holds_of_wide 3 Try.f3 rfl rfl rfl rfl rfl rfl rfl ⟨rfl, rfl, rfl, rfl, rfl⟩ rfl rfl rfl rfl rfl (by kernel_rfl) Try.func3 (by kernel_rfl)
    (of_decide_eq_true (by kernel_rfl)) (by unfold Func.isWrapper; first | (rw [if_pos (by decide +kernel)]; kernel_rfl) | (rw [if_neg (by decide +kernel)]; exact ⟨rfl, rfl⟩))
    (fun os started H enc _ => lifted os started H enc)
theorem proved : Rows.FnColoursSaid := over
end Go.Proofs.Ytakkbbpdfmkbnaa.fnColours
namespace Go.Proofs.Ytakkbbpdfmkbnaa
theorem fnColours_holds : Rows.FnColoursSaid := fnColours.proved
end Go.Proofs.Ytakkbbpdfmkbnaa
