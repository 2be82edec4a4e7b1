/- The law's function returns true whatever its arguments are, and leaves them as they were. No conditions. -/
import Derived.Test.YtillpdbmnjkjiaaDoorRows
import Derived.Test.YtillpdbmnjkjiaaDoorCards
import Derived.Test.YtillpdbmnjkjiaaDoorTie
import Derived.Test.YtillpdbmnjkjiaaDoorFwc
import Derived.Test.YtillpdbmnjkjiaaDoorTiFnExactFormatLaurenta
import Derived.Test.YtillpdbmnjkjiaaDoorFza
import Derived.MakeChecks
import Derived.LaidLaws
import Derived.HandedShaped
import Derived.Handed
import Derived.Lay
import Derived.SevenTiedAt
namespace Go.Proofs.YtillpdbmnjkjiaaDoor.FnExactFormatLaurent
open Go.Fw
set_option linter.unusedVariables false
theorem own : ownKnob Tryd.prog.godebug = none := by kernel_rfl
set_option maxRecDepth 100000 in
theorem lifted (os : Os) (started : os.Started) (H : Type) (enc : TypeId × Value → H) :
    ReturnsInHanded {} Tryd.checked os 3 .any (fun w args => (Rows.fnExactFormatLaurentSpec.pre enc Tryd.prog Tryd.f3 [] false w args ∧ laidMetH Tryd.prog Rows.fnExactFormatLaurentRow.laid w) ∧ sizedMet enc Tryd.prog Tryd.f3 (OpenSpec.ofChange Rows.fnExactFormatLaurentSpec) false w args)
      (Rows.fnExactFormatLaurentSpec.post enc Tryd.prog Tryd.f3 false true false false) := by
  refine Go.Fw.returnsInHanded_and_shaped (C := Tryd.checked) (X := fun w _ => laidMetH Tryd.prog Rows.fnExactFormatLaurentRow.laid w) (fun _ _ _ hh h => h.of_heap hh) own started (by kernel_rfl) Tryd.func3
    (ChangeSpec.witness_shaped (enc := enc) (C := Tryd.checked) (os := os) (X := fun w _ => laidMetH Tryd.prog Rows.fnExactFormatLaurentRow.laid w) false (World.laidAll Tryd.prog os Rows.fnExactFormatLaurentRow.laid) #[.agg #[.int .i64 0, .slice none 0 0]] 8 (World.laidAll_os _ _ _)
      (World.shaped_of_ZipB (by kernel_rfl) (by kernel_rfl)) (by kernel_rfl) (by kernel_rfl) (by kernel_rfl)
      (by rw [MakeChecks.laidMetH_plain _ _ _ (by kernel_rfl)]; exact laidMet_laidAll _ (by kernel_rfl) (by kernel_rfl))) ?_
  intro W base args ds gs before hval hW hL hsh
  rw [MakeChecks.laidMetH_plain _ _ _ (by kernel_rfl)] at hL
  exact row_true e3ok Tryd.func3 (by kernel_rfl) (by kernel_rfl) (by kernel_rfl) (fun X => rfl) (fun X _ => rfl) (by kernel_rfl) (by kernel_rfl) (by kernel_rfl) (bt := 4) (by kernel_rfl) Tryd.underlying4 rfl
    (fun H ds h => match ds, h with | [d0], _ => rfl) W base args ds gs before hval hW ⟨fun p hp => by
    have hp : p ∈ tabl := hp
    unfold tabl at hp
    simp only [List.mem_cons, List.mem_nil_iff, or_false] at hp
    subst hp
    exact tab_of_reads (name := "internal/strconv.uint64pow10") (k := .u64) (zs := Lib.pow10Tab) (g := 1) (t := 98) (e := 92) (n := 20) hL (List.mem_of_getElem? (i := 2) (by kernel_rfl)) (by kernel_rfl) (by kernel_rfl) Tryd.underlying98 Tryd.underlying92 (by kernel_rfl) (by kernel_rfl),
    fun p hp => absurd (show p ∈ ([] : List _) from hp) List.not_mem_nil⟩
theorem over : Rows.fnExactFormatLaurentRow.holds Tryd.pinned (OpenSpec.ofChange Rows.fnExactFormatLaurentSpec) :=
  OpenClaim.holds_of_wide 3 Tryd.f3 rfl rfl rfl rfl rfl rfl rfl ⟨rfl, rfl, rfl, rfl, rfl⟩ rfl rfl rfl rfl rfl (by kernel_rfl) Tryd.func3 (by kernel_rfl)
    (of_decide_eq_true (by kernel_rfl)) (by unfold Func.isWrapper; first | (rw [if_pos (by decide +kernel)]; kernel_rfl) | (rw [if_neg (by decide +kernel)]; exact ⟨rfl, rfl⟩))
    (fun os started H enc _ => lifted os started H enc)
theorem card : Claim7.holds Tryd.pinned (.plain (OpenSpec.ofChange Rows.fnExactFormatLaurentSpec)) Rows.fnExactFormatLaurentCard :=
  Claim7.holds_tied_plain_at .later [] [.data, .data, .data] true (true, "564df21ae27ff84c83b7c9f5da3eec5d0cd32f710a33ca7c0830b9a59c01f9c5") false
    over (fun _ h => by cases h) (by kernel_rfl) (fun _ h => by cases h) fnExactFormatLaurent_row_tie rfl ⟨rfl, rfl⟩ (by kernel_rfl) rfl
    (fun f fn hf hfn => by
      obtain rfl : f = 3 := Option.some.inj ((show Tryd.prog.funcNamed "loop.example/g03115/laws.FnExactFormatLaurent" = some 3 by kernel_rfl).symm.trans hf) |>.symm
      obtain rfl : fn = Tryd.f3 := (Option.some.inj (Tryd.func3.symm.trans hfn)).symm
      exact ⟨by kernel_rfl, fun j t ht => by
        rw [Tryd.params3] at ht
        have hm : t ∈ [24] := by simpa using Array.mem_of_getElem? ht
        have hall : ([24].all fun u => !Tryd.prog.wantsStandIn u) = true := by kernel_rfl
        exact (show Tryd.prog.wantsStandIn t = false by simpa using List.all_eq_true.1 hall t hm)⟩)
    (by kernel_rfl)
end Go.Proofs.YtillpdbmnjkjiaaDoor.FnExactFormatLaurent
namespace Go.Proofs.YtillpdbmnjkjiaaDoor
theorem fnExactFormatLaurent_holds : Rows.FnExactFormatLaurentCardSaid := FnExactFormatLaurent.card
end Go.Proofs.YtillpdbmnjkjiaaDoor
