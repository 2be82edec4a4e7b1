/- The law's function returns true whatever its arguments are, and leaves them as they were. No conditions. -/
import Derived.Test.YtillpdbmnjkjiaaRows
import Derived.Test.YtillpdbmnjkjiaaFwd
import Derived.Test.YtillpdbmnjkjiaaTiFnExactSeedOka
namespace Go.Proofs.Ytillpdbmnjkjiaa.fnExactSeedOk
open Go.Fw
set_option linter.unusedVariables false
theorem own : ownKnob Try.prog.godebug = none := by kernel_rfl
set_option maxRecDepth 100000 in
theorem Rm (os : Os) (started : os.Started) (H : Type) (enc : TypeId × Value → H) :
    ReturnsInHanded {} Try.checked os 3 .any (Rows.fnExactSeedOkSpec.pre6 enc Try.prog Try.f3 Rows.fnExactSeedOkRow.domain false) (Rows.fnExactSeedOkSpec.post enc Try.prog Try.f3 false true false false) := by
  refine returnsInHanded_of_change_sized (C := Try.checked) own started (by kernel_rfl) Try.func3
    (ChangeSpec.witness6 (enc := enc) (C := Try.checked) false ⟨#[], #[.agg #[.int .i64 0, .int .i64 0, .slice none 0 0, .slice none 0 0]], []⟩ 8 (by kernel_rfl) (by kernel_rfl) (by kernel_rfl) (by kernel_rfl)) ?_
  intro W base args ds gs dN hval hW hcnd hsz _
  exact Bx Rl Try.func3 (by kernel_rfl) (by kernel_rfl) (by kernel_rfl) (fun X => rfl) (fun X _ => rfl) (by kernel_rfl) (by kernel_rfl) (by kernel_rfl) (bt := 4) (by kernel_rfl) Try.underlying4 rfl
    (fun H ds h => match ds, h with | [d0], _ => rfl) W base args ds gs dN hval hW trivial
theorem over : Rows.fnExactSeedOkRow.holds Try.pinned (OpenSpec.ofChange Rows.fnExactSeedOkSpec) :=
  OpenClaim.holds_of_wide 3 Try.f3 rfl rfl rfl rfl rfl rfl rfl ⟨rfl, rfl, rfl, rfl, rfl⟩ rfl rfl rfl rfl rfl (by kernel_rfl) Try.func3 (by kernel_rfl)
    (of_decide_eq_true (by kernel_rfl)) (by unfold Func.isWrapper; first | (rw [if_pos (by decide +kernel)]; kernel_rfl) | (rw [if_neg (by decide +kernel)]; exact ⟨rfl, rfl⟩))
    (fun os started H enc _ => Rm os started H enc)
theorem proved : Rows.FnExactSeedOkSaid := over
end Go.Proofs.Ytillpdbmnjkjiaa.fnExactSeedOk
namespace Go.Proofs.Ytillpdbmnjkjiaa
theorem fnExactSeedOk_holds : Rows.FnExactSeedOkSaid := fnExactSeedOk.proved
end Go.Proofs.Ytillpdbmnjkjiaa
