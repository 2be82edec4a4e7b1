/- The law's function returns true whatever its arguments are, and leaves them as they were. No conditions. -/
import Derived.Test.YtkjnhmjfdfiklaaDoorRows
import Derived.Test.YtkjnhmjfdfiklaaDoorCards
import Derived.Test.YtkjnhmjfdfiklaaDoorTie
import Derived.Test.YtkjnhmjfdfiklaaDoorFwd
import Derived.Test.YtkjnhmjfdfiklaaDoorTiFnLaurentTexta
import Derived.Test.YtkjnhmjfdfiklaaDoorFza
import Derived.MakeChecks
import Derived.LaidLaws
import Derived.HandedShaped
import Derived.Handed
import Derived.Lay
import Derived.SevenTiedAt
namespace Go.Proofs.YtkjnhmjfdfiklaaDoor.FnLaurentText
open Go.Fw
set_option linter.unusedVariables false
theorem own : ownKnob Tryd.prog.godebug = none := by kernel_rfl
set_option maxRecDepth 100000 in
theorem S5 (os : Os) (started : os.Started) (H : Type) (enc : TypeId × Value → H) :
    ReturnsInHanded {} Tryd.checked os 6 .any (fun w args => (Rows.fnLaurentTextSpec.pre enc Tryd.prog Tryd.f6 [] false w args ∧ laidMetH Tryd.prog Rows.fnLaurentTextRow.laid w) ∧ sizedMet enc Tryd.prog Tryd.f6 (OpenSpec.ofChange Rows.fnLaurentTextSpec) false w args)
      (Rows.fnLaurentTextSpec.post enc Tryd.prog Tryd.f6 false true false false) := by
  refine Go.Fw.returnsInHanded_and_shaped (C := Tryd.checked) (X := fun w _ => laidMetH Tryd.prog Rows.fnLaurentTextRow.laid w) (fun _ _ _ hh h => h.of_heap hh) own started (by kernel_rfl) Tryd.func6
    (ChangeSpec.witness_shaped (enc := enc) (C := Tryd.checked) (os := os) (X := fun w _ => laidMetH Tryd.prog Rows.fnLaurentTextRow.laid w) false (World.laidAll Tryd.prog os Rows.fnLaurentTextRow.laid) #[.slice none 0 0] 8 (World.laidAll_os _ _ _)
      (World.shaped_of_ZipB (by kernel_rfl) (by kernel_rfl)) (by kernel_rfl) (by kernel_rfl) (by kernel_rfl)
      (by rw [MakeChecks.laidMetH_plain _ _ _ (by kernel_rfl)]; exact laidMet_laidAll _ (by kernel_rfl) (by kernel_rfl))) ?_
  intro W base args ds gs dw hval hW hL hsh
  rw [MakeChecks.laidMetH_plain _ _ _ (by kernel_rfl)] at hL
  exact EC S4 Tryd.func6 (by kernel_rfl) (by kernel_rfl) (by kernel_rfl) (fun X => rfl) (fun X _ => rfl) (by kernel_rfl) (by kernel_rfl) (by kernel_rfl) (bt := 4) (by kernel_rfl) Tryd.underlying4 rfl
    (fun H ds h => match ds, h with | [d0], _ => rfl) W base args ds gs dw hval hW ⟨fun p hp => by
    have hp : p ∈ kO := hp
    unfold kO at hp
    simp only [List.mem_cons, List.mem_nil_iff, or_false] at hp
    subst hp
    exact EF (name := "internal/strconv.uint64pow10") (k := .u64) (zs := Lib.pow10Tab) (g := 5) (t := 150) (e := 118) (n := 20) hL (List.mem_of_getElem? (i := 2) (by kernel_rfl)) (by kernel_rfl) (by kernel_rfl) Tryd.underlying150 Tryd.underlying118 (by kernel_rfl) (by kernel_rfl),
    fun p hp => by
    have hp : p ∈ kP := hp
    unfold kP at hp
    simp only [List.mem_cons, List.mem_nil_iff, or_false] at hp
    subst hp
    exact ⟨2, by kernel_rfl, Go.Proofs.cell_of_shapedOpen_int (zero := #[.int .i64 0]) (t := 3) hsh (of_decide_eq_true (by kernel_rfl)) (by kernel_rfl) rfl (by kernel_rfl) (by kernel_rfl) Tryd.underlying3⟩,
    fun p hp => by
    have hp : p ∈ my := hp
    unfold my at hp
    simp only [List.mem_cons, List.mem_nil_iff, or_false] at hp
    rcases hp with rfl | rfl
    · exact xj hL (D := Rows.laid_strconv_ErrSyntax) (List.mem_of_getElem? (i := 5) (by kernel_rfl)) ⟨_, _, rfl⟩ (g := 0) (t := 53) (by kernel_rfl) (by kernel_rfl) Tryd.underlying53
    · exact xj hL (D := Rows.laid_strconv_ErrRange) (List.mem_of_getElem? (i := 4) (by kernel_rfl)) ⟨_, _, rfl⟩ (g := 1) (t := 53) (by kernel_rfl) (by kernel_rfl) Tryd.underlying53⟩
theorem over : Rows.fnLaurentTextRow.holds Tryd.pinned (OpenSpec.ofChange Rows.fnLaurentTextSpec) :=
  OpenClaim.holds_of_wide 6 Tryd.f6 rfl rfl rfl rfl rfl rfl rfl ⟨rfl, rfl, rfl, rfl, rfl⟩ rfl rfl rfl rfl rfl (by kernel_rfl) Tryd.func6 (by kernel_rfl)
    (of_decide_eq_true (by kernel_rfl)) (by unfold Func.isWrapper; first | (rw [if_pos (by decide +kernel)]; kernel_rfl) | (rw [if_neg (by decide +kernel)]; exact ⟨rfl, rfl⟩))
    (fun os started H enc _ => S5 os started H enc)
theorem card : Claim7.holds Tryd.pinned (.plain (OpenSpec.ofChange Rows.fnLaurentTextSpec)) Rows.fnLaurentTextCard :=
  Claim7.holds_tied_plain_at .later [] [.data, .data, .data, .data, .sentinel, .sentinel, .pinned] true (true, "6dd9026b1d8cc5fd4798a9ba67dfee7f825ed68ed5f11e1a65eceadaf0a9eeed") true
    over (fun _ h => by cases h) (by kernel_rfl) (fun _ h => by cases h) fnLaurentText_row_tie rfl ⟨rfl, rfl⟩ (by kernel_rfl) rfl
    (fun f fn hf hfn => by
      obtain rfl : f = 6 := Option.some.inj ((show Tryd.prog.funcNamed "loop.example/g03115/laws.FnLaurentText" = some 6 by kernel_rfl).symm.trans hf) |>.symm
      obtain rfl : fn = Tryd.f6 := (Option.some.inj (Tryd.func6.symm.trans hfn)).symm
      exact ⟨by kernel_rfl, fun j t ht => by
        rw [Tryd.params6] at ht
        have hm : t ∈ [41] := by simpa using Array.mem_of_getElem? ht
        have hall : ([41].all fun u => !Tryd.prog.wantsStandIn u) = true := by kernel_rfl
        exact (show Tryd.prog.wantsStandIn t = false by simpa using List.all_eq_true.1 hall t hm)⟩)
    (by kernel_rfl)
end Go.Proofs.YtkjnhmjfdfiklaaDoor.FnLaurentText
namespace Go.Proofs.YtkjnhmjfdfiklaaDoor
theorem fnLaurentText_holds : Rows.FnLaurentTextCardSaid := FnLaurentText.card
end Go.Proofs.YtkjnhmjfdfiklaaDoor
