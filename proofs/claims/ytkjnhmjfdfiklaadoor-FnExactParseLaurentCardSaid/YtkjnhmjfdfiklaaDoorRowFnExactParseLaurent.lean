/- The law's function returns true whatever its arguments are, and leaves them as they were. No conditions. -/
import Derived.Test.YtkjnhmjfdfiklaaDoorRows
import Derived.Test.YtkjnhmjfdfiklaaDoorCards
import Derived.Test.YtkjnhmjfdfiklaaDoorTie
import Derived.Test.YtkjnhmjfdfiklaaDoorFwc
import Derived.Test.YtkjnhmjfdfiklaaDoorTiFnExactParseLaurenta
import Derived.Test.YtkjnhmjfdfiklaaDoorFza
import Derived.MakeChecks
import Derived.LaidLaws
import Derived.HandedShaped
import Derived.Handed
import Derived.Lay
import Derived.SevenTiedAt
namespace Go.Proofs.YtkjnhmjfdfiklaaDoor.FnExactParseLaurent
open Go.Fw
set_option linter.unusedVariables false
theorem own : ownKnob Tryd.prog.godebug = none := by kernel_rfl
set_option maxRecDepth 100000 in
theorem lifted (os : Os) (started : os.Started) (H : Type) (enc : TypeId × Value → H) :
    ReturnsInHanded {} Tryd.checked os 5 .any (fun w args => (Rows.fnExactParseLaurentSpec.pre enc Tryd.prog Tryd.f5 [] false w args ∧ laidMetH Tryd.prog Rows.fnExactParseLaurentRow.laid w) ∧ sizedMet enc Tryd.prog Tryd.f5 (OpenSpec.ofChange Rows.fnExactParseLaurentSpec) false w args)
      (Rows.fnExactParseLaurentSpec.post enc Tryd.prog Tryd.f5 false true false false) := by
  refine Go.Fw.returnsInHanded_and_shaped (C := Tryd.checked) (X := fun w _ => laidMetH Tryd.prog Rows.fnExactParseLaurentRow.laid w) (fun _ _ _ hh h => h.of_heap hh) own started (by kernel_rfl) Tryd.func5
    (ChangeSpec.witness_shaped (enc := enc) (C := Tryd.checked) (os := os) (X := fun w _ => laidMetH Tryd.prog Rows.fnExactParseLaurentRow.laid w) false (World.laidAll Tryd.prog os Rows.fnExactParseLaurentRow.laid) #[.string ByteArray.empty] 8 (World.laidAll_os _ _ _)
      (World.shaped_of_ZipB (by kernel_rfl) (by kernel_rfl)) (by kernel_rfl) (by kernel_rfl) (by kernel_rfl)
      (by rw [MakeChecks.laidMetH_plain _ _ _ (by kernel_rfl)]; exact laidMet_laidAll _ (by kernel_rfl) (by kernel_rfl))) ?_
  intro W base args ds gs before hval hW hL hsh
  rw [MakeChecks.laidMetH_plain _ _ _ (by kernel_rfl)] at hL
  exact row_true e5ok Tryd.func5 (by kernel_rfl) (by kernel_rfl) (by kernel_rfl) (fun X => rfl) (fun X _ => rfl) (by kernel_rfl) (by kernel_rfl) (by kernel_rfl) (bt := 4) (by kernel_rfl) Tryd.underlying4 rfl
    (fun H ds h => match ds, h with | [d0], _ => rfl) W base args ds gs before hval hW ⟨fun p hp => by
    have hp : p ∈ tabl := hp
    unfold tabl at hp
    simp only [List.mem_cons, List.mem_nil_iff, or_false] at hp
    subst hp
    exact tab_of_reads (name := "internal/strconv.uint64pow10") (k := .u64) (zs := Lib.pow10Tab) (g := 5) (t := 150) (e := 118) (n := 20) hL (List.mem_of_getElem? (i := 2) (by kernel_rfl)) (by kernel_rfl) (by kernel_rfl) Tryd.underlying150 Tryd.underlying118 (by kernel_rfl) (by kernel_rfl),
    fun p hp => by
    have hp : p ∈ intl := hp
    unfold intl at hp
    simp only [List.mem_cons, List.mem_nil_iff, or_false] at hp
    subst hp
    exact ⟨2, by kernel_rfl, Go.Proofs.cell_of_shapedOpen_int (zero := #[.int .i64 0]) (t := 3) hsh (of_decide_eq_true (by kernel_rfl)) (by kernel_rfl) rfl (by kernel_rfl) (by kernel_rfl) Tryd.underlying3⟩,
    fun p hp => by
    have hp : p ∈ errl := hp
    unfold errl at hp
    simp only [List.mem_cons, List.mem_nil_iff, or_false] at hp
    rcases hp with rfl | rfl
    · exact err_of_datum hL (D := Rows.laid_strconv_ErrSyntax) (List.mem_of_getElem? (i := 5) (by kernel_rfl)) ⟨_, _, rfl⟩ (g := 0) (t := 53) (by kernel_rfl) (by kernel_rfl) Tryd.underlying53
    · exact err_of_datum hL (D := Rows.laid_strconv_ErrRange) (List.mem_of_getElem? (i := 4) (by kernel_rfl)) ⟨_, _, rfl⟩ (g := 1) (t := 53) (by kernel_rfl) (by kernel_rfl) Tryd.underlying53⟩
theorem over : Rows.fnExactParseLaurentRow.holds Tryd.pinned (OpenSpec.ofChange Rows.fnExactParseLaurentSpec) :=
  OpenClaim.holds_of_wide 5 Tryd.f5 rfl rfl rfl rfl rfl rfl rfl ⟨rfl, rfl, rfl, rfl, rfl⟩ rfl rfl rfl rfl rfl (by kernel_rfl) Tryd.func5 (by kernel_rfl)
    (of_decide_eq_true (by kernel_rfl)) (by unfold Func.isWrapper; first | (rw [if_pos (by decide +kernel)]; kernel_rfl) | (rw [if_neg (by decide +kernel)]; exact ⟨rfl, rfl⟩))
    (fun os started H enc _ => lifted os started H enc)
theorem card : Claim7.holds Tryd.pinned (.plain (OpenSpec.ofChange Rows.fnExactParseLaurentSpec)) Rows.fnExactParseLaurentCard :=
  Claim7.holds_tied_plain_at .later [] [.data, .data, .data, .data, .sentinel, .sentinel, .pinned] true (true, "6dd9026b1d8cc5fd4798a9ba67dfee7f825ed68ed5f11e1a65eceadaf0a9eeed") true
    over (fun _ h => by cases h) (by kernel_rfl) (fun _ h => by cases h) fnExactParseLaurent_row_tie rfl ⟨rfl, rfl⟩ (by kernel_rfl) rfl
    (fun f fn hf hfn => by
      obtain rfl : f = 5 := Option.some.inj ((show Tryd.prog.funcNamed "loop.example/g03115/laws.FnExactParseLaurent" = some 5 by kernel_rfl).symm.trans hf) |>.symm
      obtain rfl : fn = Tryd.f5 := (Option.some.inj (Tryd.func5.symm.trans hfn)).symm
      exact ⟨by kernel_rfl, fun j t ht => by
        rw [Tryd.params5] at ht
        have hm : t ∈ [9] := by simpa using Array.mem_of_getElem? ht
        have hall : ([9].all fun u => !Tryd.prog.wantsStandIn u) = true := by kernel_rfl
        exact (show Tryd.prog.wantsStandIn t = false by simpa using List.all_eq_true.1 hall t hm)⟩)
    (by kernel_rfl)
end Go.Proofs.YtkjnhmjfdfiklaaDoor.FnExactParseLaurent
namespace Go.Proofs.YtkjnhmjfdfiklaaDoor
theorem fnExactParseLaurent_holds : Rows.FnExactParseLaurentCardSaid := FnExactParseLaurent.card
end Go.Proofs.YtkjnhmjfdfiklaaDoor
