/- The law's function returns true whatever its arguments are, and leaves them as they were. No conditions. -/
import Derived.Test.YtakkbbpdfmkbnaaDoorRows
import Derived.Test.YtakkbbpdfmkbnaaDoorCards
import Derived.Test.YtakkbbpdfmkbnaaDoorTie
import Derived.Test.YtakkbbpdfmkbnaaDoorFwc
import Derived.Test.YtakkbbpdfmkbnaaDoorTiFnExactFormatIntsa
import Derived.Test.YtakkbbpdfmkbnaaDoorFza
import Derived.MakeChecks
import Derived.LaidLaws
import Derived.HandedShaped
import Derived.Handed
import Derived.Lay
import Derived.SevenTiedAt
namespace Go.Proofs.YtakkbbpdfmkbnaaDoor.FnExactFormatInts
open Go.Fw
set_option linter.unusedVariables false
theorem own : ownKnob Tryd.prog.godebug = none := by kernel_rfl
set_option maxRecDepth 100000 in
theorem lifted (os : Os) (started : os.Started) (H : Type) (enc : TypeId × Value → H) :
    ReturnsInHanded {} Tryd.checked os 4 .any (fun w args => (Rows.fnExactFormatIntsSpec.pre enc Tryd.prog Tryd.f4 [] false w args ∧ laidMetH Tryd.prog Rows.fnExactFormatIntsRow.laid w) ∧ sizedMet enc Tryd.prog Tryd.f4 (OpenSpec.ofChange Rows.fnExactFormatIntsSpec) false w args)
      (Rows.fnExactFormatIntsSpec.post enc Tryd.prog Tryd.f4 false true false false) := by
  refine returnsInHanded_of_change_and (C := Tryd.checked) (X := fun w _ => laidMetH Tryd.prog Rows.fnExactFormatIntsRow.laid w) (fun _ _ _ hh h => h.of_heap hh) own started (by kernel_rfl) Tryd.func4
    (ChangeSpec.witness_shaped (enc := enc) (C := Tryd.checked) (os := os) (X := fun w _ => laidMetH Tryd.prog Rows.fnExactFormatIntsRow.laid w) false (World.laidAll Tryd.prog os Rows.fnExactFormatIntsRow.laid) #[.slice none 0 0] 8 (World.laidAll_os _ _ _)
      (World.shaped_of_ZipB (by kernel_rfl) (by kernel_rfl)) (by kernel_rfl) (by kernel_rfl) (by kernel_rfl)
      (by rw [MakeChecks.laidMetH_plain _ _ _ (by kernel_rfl)]; exact laidMet_laidAll _ (by kernel_rfl) (by kernel_rfl))) ?_
  intro W base args ds gs before hval hW hcnd hsz hL _
  rw [MakeChecks.laidMetH_plain _ _ _ (by kernel_rfl)] at hL
  exact row_true e4ok Tryd.func4 (by kernel_rfl) (by kernel_rfl) (by kernel_rfl) (fun X => rfl) (fun X h => laws_FnExactFormatInts.preok X.1 (show (X.1.all fun n => (Lit.int .i64 n).wf) = true from (Bool.and_eq_true_iff.1 h).1)) (by kernel_rfl) (by kernel_rfl) (by kernel_rfl) (bt := 4) (by kernel_rfl) Tryd.underlying4 rfl
    (fun H ds h => match ds, h with | [d0], _ => rfl) W base args ds gs before hval hW (fun p hp => by
    have hp : p ∈ tabl := hp
    unfold tabl at hp
    simp only [List.mem_cons, List.mem_nil_iff, or_false] at hp
    subst hp
    exact tab_of_reads (name := "internal/strconv.uint64pow10") (k := .u64) (zs := Lib.pow10Tab) (g := 3) (t := 76) (e := 63) (n := 20) hL (List.mem_of_getElem? (i := 2) (by kernel_rfl)) (by kernel_rfl) (by kernel_rfl) Tryd.underlying76 Tryd.underlying63 (by kernel_rfl) (by kernel_rfl))
theorem over : Rows.fnExactFormatIntsRow.holds Tryd.pinned (OpenSpec.ofChange Rows.fnExactFormatIntsSpec) :=
  OpenClaim.holds_of_wide 4 Tryd.f4 rfl rfl rfl rfl rfl rfl rfl ⟨rfl, rfl, rfl, rfl, rfl⟩ rfl rfl rfl rfl rfl (by kernel_rfl) Tryd.func4 (by kernel_rfl)
    (of_decide_eq_true (by kernel_rfl)) (by unfold Func.isWrapper; first | (rw [if_pos (by decide +kernel)]; kernel_rfl) | (rw [if_neg (by decide +kernel)]; exact ⟨rfl, rfl⟩))
    (fun os started H enc _ => lifted os started H enc)
theorem card : Claim7.holds Tryd.pinned (.plain (OpenSpec.ofChange Rows.fnExactFormatIntsSpec)) Rows.fnExactFormatIntsCard :=
  Claim7.holds_tied_plain_at .later [] [.data, .data, .data] true (true, "4566ba379260d09ad8d69bfcfe6b6336444af159a483dabceadaa977f1d97bfa") false
    over (fun _ h => by cases h) (by kernel_rfl) (fun _ h => by cases h) fnExactFormatInts_row_tie rfl ⟨rfl, rfl⟩ (by kernel_rfl) rfl
    (fun f fn hf hfn => by
      obtain rfl : f = 4 := Option.some.inj ((show Tryd.prog.funcNamed "loop.example/g03115/laws.FnExactFormatInts" = some 4 by kernel_rfl).symm.trans hf) |>.symm
      obtain rfl : fn = Tryd.f4 := (Option.some.inj (Tryd.func4.symm.trans hfn)).symm
      exact ⟨by kernel_rfl, fun j t ht => by
        rw [Tryd.params4] at ht
        have hm : t ∈ [25] := by simpa using Array.mem_of_getElem? ht
        have hall : ([25].all fun u => !Tryd.prog.wantsStandIn u) = true := by kernel_rfl
        exact (show Tryd.prog.wantsStandIn t = false by simpa using List.all_eq_true.1 hall t hm)⟩)
    (by kernel_rfl)
end Go.Proofs.YtakkbbpdfmkbnaaDoor.FnExactFormatInts
namespace Go.Proofs.YtakkbbpdfmkbnaaDoor
theorem fnExactFormatInts_holds : Rows.FnExactFormatIntsCardSaid := FnExactFormatInts.card
end Go.Proofs.YtakkbbpdfmkbnaaDoor
