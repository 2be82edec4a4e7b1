/- The law's function returns true whatever its arguments are, and leaves them as they were. No conditions. -/
import Derived.Test.YtillpdbmnjkjiaaRows
import Derived.Test.YtillpdbmnjkjiaaFwc
import Derived.Test.YtillpdbmnjkjiaaTiFnAcyclicb
namespace Go.Proofs.Ytillpdbmnjkjiaa.fnAcyclic
open Go.Fw
set_option linter.unusedVariables false
theorem own : ownKnob Try.prog.godebug = none := by kernel_rfl
set_option maxRecDepth 100000 in
theorem lifted (os : Os) (started : os.Started) (H : Type) (enc : TypeId × Value → H) :
    ReturnsInHanded {} Try.checked os 7 .any (Rows.fnAcyclicSpec.pre6 enc Try.prog Try.f7 Rows.fnAcyclicRow.domain false) (Rows.fnAcyclicSpec.post enc Try.prog Try.f7 false true false false) := by
  refine returnsInHanded_of_change_sized (C := Try.checked) own started (by kernel_rfl) Try.func7
    (ChangeSpec.witness6 (enc := enc) (C := Try.checked) false ⟨#[], #[.slice none 0 0], []⟩ 8 (by kernel_rfl) (by kernel_rfl) (by kernel_rfl) (by kernel_rfl)) ?_
  intro W base args ds gs z7b hval hW hcnd hsz _
  exact row_true e7ok Try.func7 (by kernel_rfl) (by kernel_rfl) (by kernel_rfl) (fun X => rfl) (fun X _ => rfl) (by kernel_rfl) (by kernel_rfl) (by kernel_rfl) (bt := 4) (by kernel_rfl) Try.underlying4 rfl
    (fun H ds h => match ds, h with | [d0], _ => rfl) W base args ds gs z7b hval hW trivial
theorem over : Rows.fnAcyclicRow.holds Try.pinned (OpenSpec.ofChange Rows.fnAcyclicSpec) :=
  OpenClaim.holds_of_wide 7 Try.f7 rfl rfl rfl rfl rfl rfl rfl ⟨rfl, rfl, rfl, rfl, rfl⟩ rfl rfl rfl rfl rfl (by kernel_rfl) Try.func7 (by kernel_rfl)
    (of_decide_eq_true (by kernel_rfl)) (by unfold Func.isWrapper; first | (rw [if_pos (by decide +kernel)]; kernel_rfl) | (rw [if_neg (by decide +kernel)]; exact ⟨rfl, rfl⟩))
    (fun os started H enc _ => lifted os started H enc)
theorem proved : Rows.FnAcyclicSaid := over
end Go.Proofs.Ytillpdbmnjkjiaa.fnAcyclic
namespace Go.Proofs.Ytillpdbmnjkjiaa
theorem fnAcyclic_holds : Rows.FnAcyclicSaid := fnAcyclic.proved
end Go.Proofs.Ytillpdbmnjkjiaa
