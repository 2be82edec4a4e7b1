/- The framework: functions of the library that are met by their contracts. Nothing is assumed. -/
import Derived.Test.YtojjkghallginaaDoorFwc
import Derived.Shelf.Strconv.Itoa3
import Derived.Lib.LaidTab
import Derived.Lib.LaidU8
import Derived.Lay
set_option linter.unusedVariables false
set_option linter.unusedSimpArgs false
namespace Go.Fw
open Go.RowKit Go.Proofs Go.Shelf Go.Sort
theorem var_congr {P : Program} {w w' : World} {name : String} {g : Nat} (hg : P.globalNamed name = some g) (h : w'.heap[g]? = w.heap[g]?) : w'.var? P name = w.var? P name := by
  unfold World.var?
  rw [hg]
  simp only [Option.bind_some, h]
theorem var_some {P : Program} {w : World} {name : String} {cs : Array Value} (h : w.var? P name = some cs) : ∃ g, P.globalNamed name = some g ∧ g < w.heap.size := by
  unfold World.var? at h
  obtain ⟨g, h1, h2⟩ := Option.bind_eq_some_iff.1 h
  refine ⟨g, h1, ?_⟩
  split at h2
  · rename_i hg
    exact (Array.getElem?_eq_some_iff.1 hg).1
  · cases h2
@[reducible] def Inv.tabs (P : Program) (l : List (String × IntKind × List Int)) : Inv P where
  I w := ∀ p ∈ l, Lib.TabIs P w p.1 p.2.1 p.2.2
  B k := ∃ p ∈ l, P.globalNamed p.1 = some k
  keep w w' h hI p hp := by
    have := hI p hp
    obtain ⟨g, h1, h2⟩ := var_some this
    show w'.var? P p.1 = _
    rw [var_congr h1 (h g ⟨p, hp, h1⟩)]
    exact this
  lt w k hI hk := by
    obtain ⟨p, hp, hk⟩ := hk
    obtain ⟨g, h1, h2⟩ := var_some (hI p hp)
    rw [hk] at h1
    injection h1 with h1
    omega
theorem Inv.tab_mem {P : Program} {l : List (String × IntKind × List Int)} (p : String × IntKind × List Int) (hp : p ∈ l) (w : World) (h : (Inv.tabs P l).I w) : Lib.TabIs P w p.1 p.2.1 p.2.2 := h p hp
theorem tab_of_reads {P : Program} {w : World} {name : String} {k : IntKind} {zs : List Int} {g : Nat} {t e : TypeId} {n : Nat} {l : List (String × DataW Unit)} (h : laidMet P l w) (hm : (name, Lib.tabData k zs) ∈ l)
    (hg : P.globalNamed name = some g) (hty : (P.globals[g]?).map (·.type) = some t) (ht : P.underlying t = some (.array n e)) (he : P.underlying e = some (.int k)) (hce : P.cellsOf e = 1) (hct : P.cellsOf t = n) : Lib.TabIs P w name k zs := by
  obtain ⟨g', t', cs, fuel, p, h1, h2, h3, h4⟩ := Lib.laidMet.reads h hm
  obtain rfl := Option.some.inj (hg.symm.trans h1)
  obtain rfl := Option.some.inj (hty.symm.trans h2)
  unfold Lib.TabIs
  rw [h3, ← Lib.cells_of_tab ht he hce hct h4]
section
variable {P : Program} {ρ : Ren} [Inv P]
theorem itoa_ok (hI : ∀ w, Inv.I P w → Lib.TabIs P w "internal/strconv.uint64pow10" .u64 Lib.pow10Tab) (L : LaysM.n171 P ρ) : EntryOk P (ρ.f 171) ⟨⟨[⟨.int .i64, false, false⟩], [⟨.str, false, false⟩]⟩, some fun X => i64P X.1, fun X => ((), (⟨(Lib.itoa X.1).toArray⟩, ()))⟩ := by
  intro w args LL X y Y ha hno hnd hlt hG hIw hB
  obtain ⟨args⟩ := args
  obtain ⟨n, u⟩ := X
  have hL : LL = [] := hno rfl
  subst hL
  have hG' : cond (i64P n) (some ((), ((⟨(Lib.itoa n).toArray⟩ : ByteArray), ()))) none = some (y, Y) := hG
  cases hp : i64P n
  · rw [hp] at hG'; cases hG'
  rw [hp] at hG'
  simp only [cond_true, Option.some.injEq, Prod.mk.injEq] at hG'
  obtain ⟨rfl, rfl⟩ := hG'
  simp only [i64P, Bool.and_eq_true, decide_eq_true_eq] at hp
  match args, ha with
  | [], ha => exact ha.elim
  | _ :: _ :: _, ha => exact ha.2.elim
  | [v], ha =>
    obtain ⟨⟨cs, h1, h2⟩, _⟩ := ha
    have h1 : cs = [v] := h1
    subst h1
    have h2 : [v] = [Value.int .i64 n] := h2
    simp only [List.cons.injEq, and_true] at h2
    subst h2
    refine .inl ⟨by simp [callFunc, L.f171, Body.n171], (Any.strconv_Itoa L n hp.1 hp.2 w (hI w hIw)).mono ?_⟩
    rintro e w' ⟨rfl, k, os, rfl⟩
    refine ⟨_, [.string ⟨(Lib.itoa n).toArray⟩], [], [], rfl, rfl, ⟨_, [], [], rfl, rfl, ⟨rfl, rfl⟩, trivial, rfl⟩, rfl, List.nodup_nil, (fun k hk => by cases hk), (fun k hk => by cases hk), rfl, rfl, rfl, ?_, fun k' hk _ => ?_⟩
    · rw [size_grow]
      exact Nat.le_add_right _ _
    · show (w.heap ++ os)[k']? = _
      rw [Array.getElem?_append_left hk]
end
end Go.Fw
