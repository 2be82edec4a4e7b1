/- The framework: what a symbolic run of the model's code tells, proved sound. Nothing is assumed. -/
import Derived.Test.YtillpdbmnjkjiaaFwb
import Derived.WalkKit
import Derived.ProofKit
import Derived.OpenShut
import Derived.ShutString
import Derived.ChangeOld
import Derived.Below
import Derived.Carry
import Derived.SizedLaws
import Derived.ChangeCalls
set_option linter.unusedVariables false
namespace Go.Fw
open Go.RowKit
abbrev KT (ρ : Type) : Type := Ex → St → Option ρ
theorem via {α : Type} {a b c d : α} (h : b = c) (e1 : a = b) (e2 : c = d) : a = d := e1.trans (h.trans e2)
theorem via2 {α β : Type} (f : β → α) {X Y Z W : α} {k k' : β} (h1 : Y = Z) (h2 : k = k') (e1 : X = Y) (e2 : Z = f k) (e3 : f k' = W) : X = W := by
  subst h2
  exact e1.trans (h1.trans (e2.trans e3))
theorem viaC {α : Type} {X W A A' B B' : α} {b : Bool} (h1 : A = A') (h2 : B = B') (e1 : X = cond b A B) (e2 : cond b A' B' = W) : X = W := by
  subst h1 h2
  exact e1.trans e2
section
variable {ρ : Type} {Γ : Nat → Option Entry} {T : Tab} {B : Nat → Option Clean} {N : Nat} {c a b : Code} {p pa pb : Plan} {σ : St} {K : KT ρ}
theorem viaSeq {β : Type} (f : β → Option ρ) {lm : Clean} {Z W : Option ρ} {k k' : β} (hc : c = .seq a b) (hp : p = .mk (some lm) none pa pb)
    (h1 : iCode Γ T B N a pa σ (joinK (some lm) (seqK (fun σ' => iCode Γ T B N b pb σ' K) K)) = Z) (h2 : k = k') (e2 : Z = f k) (e3 : f k' = W) : iCode Γ T B N c p σ K = W := by
  subst hc hp h2
  exact (show iCode Γ T B N (.seq a b) (.mk (some lm) none pa pb) σ K = _ from rfl).trans (h1.trans (e2.trans e3))
theorem viaCond {x : Operand} {t : Bool} {A A' W : Option ρ} (hc : c = .cond x a b) (hp : p = .mk none none pa pb) (hx : ev σ x = .c (.bool t))
    (h1 : iCode Γ T B N a pa σ K = A) (h2 : iCode Γ T B N b pb σ K = A') (e : cond t A A' = W) : iCode Γ T B N c p σ K = W := by
  subst hc hp h1 h2
  rw [← e]
  show (match ev σ x with | .c (.bool t) => cond t (iCode Γ T B N a pa σ K) (iCode Γ T B N b pb σ K) | _ => none) = _
  rw [hx]
theorem viaBlock {id : Nat} {lm : Clean} {Z W : Option ρ} (hc : c = .block id a) (hp : p = .mk (some lm) none pa .n)
    (h1 : iCode Γ T B N a pa σ (joinK (some lm) (blockK id K)) = Z) (e : Z = W) : iCode Γ T B N c p σ K = W := by
  subst hc hp e
  exact h1
theorem viaLoop {cl : Clean} {σ' : St} {Z W : Option ρ} (hc : c = .loop a) (hp : p = .mk none (some cl) pa .n) (hs : clean cl σ = some σ')
    (h1 : loopC (fun σ K => iCode Γ T B N a pa σ K) cl N σ' K = Z) (e : Z = W) : iCode Γ T B N c p σ K = W := by
  subst hc hp e
  show ((clean cl σ).bind fun σ0 => loopC (fun σ K => iCode Γ T B N a pa σ K) cl N σ0 K) = _
  rw [hs]
  exact h1
theorem viaSeqS {β : Type} (f : β → Option ρ) {lm : Clean} {Z W : Option ρ} {k k' : β} (hc : (c, p) = (Code.seq a b, Plan.mk (some lm) none pa pb))
    (h1 : iCode Γ T B N a pa σ (joinK (some lm) (seqK (fun σ' => iCode Γ T B N b pb σ' K) K)) = Z) (h2 : k = k') (e : (Z, f k') = (f k, W)) : iCode Γ T B N c p σ K = W :=
  viaSeq f (congrArg Prod.fst hc) (congrArg Prod.snd hc) h1 h2 (congrArg Prod.fst e) (congrArg Prod.snd e)
theorem viaCondS {x : Operand} {t : Bool} {A A' W : Option ρ} (hc : (c, p, ev σ x) = (Code.cond x a b, Plan.mk none none pa pb, SV.c (.bool t)))
    (h1 : iCode Γ T B N a pa σ K = A) (h2 : iCode Γ T B N b pb σ K = A') (e : cond t A A' = W) : iCode Γ T B N c p σ K = W :=
  viaCond (congrArg Prod.fst hc) (congrArg (fun q => q.2.1) hc) (congrArg (fun q => q.2.2) hc) h1 h2 e
theorem viaBlockS {id : Nat} {lm : Clean} {Z W : Option ρ} (hc : (c, p) = (Code.block id a, Plan.mk (some lm) none pa .n))
    (h1 : iCode Γ T B N a pa σ (joinK (some lm) (blockK id K)) = Z) (e : Z = W) : iCode Γ T B N c p σ K = W :=
  viaBlock (congrArg Prod.fst hc) (congrArg Prod.snd hc) h1 e
theorem viaLoopS {cl : Clean} {σ' : St} {Z W : Option ρ} (hc : (c, p, clean cl σ) = (Code.loop a, Plan.mk none (some cl) pa .n, some σ'))
    (h1 : loopC (fun σ K => iCode Γ T B N a pa σ K) cl N σ' K = Z) (e : Z = W) : iCode Γ T B N c p σ K = W :=
  viaLoop (congrArg Prod.fst hc) (congrArg (fun q => q.2.1) hc) (congrArg (fun q => q.2.2) hc) h1 e
theorem viaRound {β : Type} (f : β → Option ρ) {F : St → KT ρ → Option ρ} {cl : Clean} {M : Nat} {Z W : Option ρ} {k k' : β}
    (h1 : F σ (joinK (some cl) (seqK (fun σ'' => loopC F cl M σ'' K) K)) = Z) (h2 : k = k') (e2 : Z = f k) (e3 : f k' = W) : loopC F cl (M + 1) σ K = W := by
  subst h2
  exact (show loopC F cl (M + 1) σ K = _ from rfl).trans (h1.trans (e2.trans e3))
theorem viaRoundS {β : Type} (f : β → Option ρ) {F : St → KT ρ → Option ρ} {cl : Clean} {M : Nat} {Z W : Option ρ} {k k' : β}
    (h1 : F σ (joinK (some cl) (seqK (fun σ'' => loopC F cl M σ'' K) K)) = Z) (h2 : k = k') (e : (Z, f k') = (f k, W)) : loopC F cl (M + 1) σ K = W :=
  viaRound f h1 h2 (congrArg Prod.fst e) (congrArg Prod.snd e)
end
abbrev I2 (α : Type) : Type := Int → Int → α
abbrev I3 (α : Type) : Type := Int → Int → Int → α
abbrev I4 (α : Type) : Type := Int → Int → Int → Int → α
abbrev I5 (α : Type) : Type := Int → Int → Int → Int → Int → α
abbrev I6 (α : Type) : Type := Int → Int → Int → Int → Int → Int → α
abbrev I7 (α : Type) : Type := Int → Int → Int → Int → Int → Int → Int → α
abbrev I8 (α : Type) : Type := Int → Int → Int → Int → Int → Int → Int → Int → α
def codeN : Nat → Code → Nat → Code
  | 0, c, _ => c
  | F + 1, c, n => cond (Nat.ble n 1) c (match c with
    | .seq a b => cond (Nat.beq (n % 2) 0) (codeN F a (n / 2)) (codeN F b (n / 2))
    | .cond _ a b => cond (Nat.beq (n % 2) 0) (codeN F a (n / 2)) (codeN F b (n / 2))
    | .block _ c => codeN F c (n / 2)
    | .loop c => codeN F c (n / 2)
    | c => c)
abbrev yi (n : Int) : Cell := .int .i64 n
abbrev xi (n : Int) : SV := .c (.int .i64 n)
abbrev xo (n : Nat) : SV := .c (.own n)
abbrev xb (n : Nat) : SV := .c (.box n 0)
abbrev xB (b : Bool) : SV := .c (.bool b)
abbrev tI : Ty := .int .i64
abbrev tM (e : Nat) : Ty := .pair tI (.pair tI (.sl e tI))
abbrev LI : Type := List Int
abbrev LL : Type := List (List Int)
abbrev MT : Type := Int × Int × List Int
abbrev LM : Type := List MT
theorem fx2 {α0 α1 β : Type} {f g : α0 → α1 → β} (h : ∀ x0 x1, f x0 x1 = g x0 x1) : f = g := funext fun x0 => funext fun x1 => h x0 x1
theorem fx3 {α0 α1 α2 β : Type} {f g : α0 → α1 → α2 → β} (h : ∀ x0 x1 x2, f x0 x1 x2 = g x0 x1 x2) : f = g := funext fun x0 => funext fun x1 => funext fun x2 => h x0 x1 x2
theorem fx4 {α0 α1 α2 α3 β : Type} {f g : α0 → α1 → α2 → α3 → β} (h : ∀ x0 x1 x2 x3, f x0 x1 x2 x3 = g x0 x1 x2 x3) : f = g := funext fun x0 => funext fun x1 => funext fun x2 => funext fun x3 => h x0 x1 x2 x3
theorem fx5 {α0 α1 α2 α3 α4 β : Type} {f g : α0 → α1 → α2 → α3 → α4 → β} (h : ∀ x0 x1 x2 x3 x4, f x0 x1 x2 x3 x4 = g x0 x1 x2 x3 x4) : f = g := funext fun x0 => funext fun x1 => funext fun x2 => funext fun x3 => funext fun x4 => h x0 x1 x2 x3 x4
theorem fx6 {α0 α1 α2 α3 α4 α5 β : Type} {f g : α0 → α1 → α2 → α3 → α4 → α5 → β} (h : ∀ x0 x1 x2 x3 x4 x5, f x0 x1 x2 x3 x4 x5 = g x0 x1 x2 x3 x4 x5) : f = g := funext fun x0 => funext fun x1 => funext fun x2 => funext fun x3 => funext fun x4 => funext fun x5 => h x0 x1 x2 x3 x4 x5
theorem fx7 {α0 α1 α2 α3 α4 α5 α6 β : Type} {f g : α0 → α1 → α2 → α3 → α4 → α5 → α6 → β} (h : ∀ x0 x1 x2 x3 x4 x5 x6, f x0 x1 x2 x3 x4 x5 x6 = g x0 x1 x2 x3 x4 x5 x6) : f = g := funext fun x0 => funext fun x1 => funext fun x2 => funext fun x3 => funext fun x4 => funext fun x5 => funext fun x6 => h x0 x1 x2 x3 x4 x5 x6
theorem fx8 {α0 α1 α2 α3 α4 α5 α6 α7 β : Type} {f g : α0 → α1 → α2 → α3 → α4 → α5 → α6 → α7 → β} (h : ∀ x0 x1 x2 x3 x4 x5 x6 x7, f x0 x1 x2 x3 x4 x5 x6 x7 = g x0 x1 x2 x3 x4 x5 x6 x7) : f = g := funext fun x0 => funext fun x1 => funext fun x2 => funext fun x3 => funext fun x4 => funext fun x5 => funext fun x6 => funext fun x7 => h x0 x1 x2 x3 x4 x5 x6 x7
theorem fx9 {α0 α1 α2 α3 α4 α5 α6 α7 α8 β : Type} {f g : α0 → α1 → α2 → α3 → α4 → α5 → α6 → α7 → α8 → β} (h : ∀ x0 x1 x2 x3 x4 x5 x6 x7 x8, f x0 x1 x2 x3 x4 x5 x6 x7 x8 = g x0 x1 x2 x3 x4 x5 x6 x7 x8) : f = g := funext fun x0 => funext fun x1 => funext fun x2 => funext fun x3 => funext fun x4 => funext fun x5 => funext fun x6 => funext fun x7 => funext fun x8 => h x0 x1 x2 x3 x4 x5 x6 x7 x8
theorem fx10 {α0 α1 α2 α3 α4 α5 α6 α7 α8 α9 β : Type} {f g : α0 → α1 → α2 → α3 → α4 → α5 → α6 → α7 → α8 → α9 → β} (h : ∀ x0 x1 x2 x3 x4 x5 x6 x7 x8 x9, f x0 x1 x2 x3 x4 x5 x6 x7 x8 x9 = g x0 x1 x2 x3 x4 x5 x6 x7 x8 x9) : f = g := funext fun x0 => funext fun x1 => funext fun x2 => funext fun x3 => funext fun x4 => funext fun x5 => funext fun x6 => funext fun x7 => funext fun x8 => funext fun x9 => h x0 x1 x2 x3 x4 x5 x6 x7 x8 x9
theorem fx11 {α0 α1 α2 α3 α4 α5 α6 α7 α8 α9 α10 β : Type} {f g : α0 → α1 → α2 → α3 → α4 → α5 → α6 → α7 → α8 → α9 → α10 → β} (h : ∀ x0 x1 x2 x3 x4 x5 x6 x7 x8 x9 x10, f x0 x1 x2 x3 x4 x5 x6 x7 x8 x9 x10 = g x0 x1 x2 x3 x4 x5 x6 x7 x8 x9 x10) : f = g := funext fun x0 => funext fun x1 => funext fun x2 => funext fun x3 => funext fun x4 => funext fun x5 => funext fun x6 => funext fun x7 => funext fun x8 => funext fun x9 => funext fun x10 => h x0 x1 x2 x3 x4 x5 x6 x7 x8 x9 x10
theorem fx12 {α0 α1 α2 α3 α4 α5 α6 α7 α8 α9 α10 α11 β : Type} {f g : α0 → α1 → α2 → α3 → α4 → α5 → α6 → α7 → α8 → α9 → α10 → α11 → β} (h : ∀ x0 x1 x2 x3 x4 x5 x6 x7 x8 x9 x10 x11, f x0 x1 x2 x3 x4 x5 x6 x7 x8 x9 x10 x11 = g x0 x1 x2 x3 x4 x5 x6 x7 x8 x9 x10 x11) : f = g := funext fun x0 => funext fun x1 => funext fun x2 => funext fun x3 => funext fun x4 => funext fun x5 => funext fun x6 => funext fun x7 => funext fun x8 => funext fun x9 => funext fun x10 => funext fun x11 => h x0 x1 x2 x3 x4 x5 x6 x7 x8 x9 x10 x11
theorem fx13 {α0 α1 α2 α3 α4 α5 α6 α7 α8 α9 α10 α11 α12 β : Type} {f g : α0 → α1 → α2 → α3 → α4 → α5 → α6 → α7 → α8 → α9 → α10 → α11 → α12 → β} (h : ∀ x0 x1 x2 x3 x4 x5 x6 x7 x8 x9 x10 x11 x12, f x0 x1 x2 x3 x4 x5 x6 x7 x8 x9 x10 x11 x12 = g x0 x1 x2 x3 x4 x5 x6 x7 x8 x9 x10 x11 x12) : f = g := funext fun x0 => funext fun x1 => funext fun x2 => funext fun x3 => funext fun x4 => funext fun x5 => funext fun x6 => funext fun x7 => funext fun x8 => funext fun x9 => funext fun x10 => funext fun x11 => funext fun x12 => h x0 x1 x2 x3 x4 x5 x6 x7 x8 x9 x10 x11 x12
theorem fx14 {α0 α1 α2 α3 α4 α5 α6 α7 α8 α9 α10 α11 α12 α13 β : Type} {f g : α0 → α1 → α2 → α3 → α4 → α5 → α6 → α7 → α8 → α9 → α10 → α11 → α12 → α13 → β} (h : ∀ x0 x1 x2 x3 x4 x5 x6 x7 x8 x9 x10 x11 x12 x13, f x0 x1 x2 x3 x4 x5 x6 x7 x8 x9 x10 x11 x12 x13 = g x0 x1 x2 x3 x4 x5 x6 x7 x8 x9 x10 x11 x12 x13) : f = g := funext fun x0 => funext fun x1 => funext fun x2 => funext fun x3 => funext fun x4 => funext fun x5 => funext fun x6 => funext fun x7 => funext fun x8 => funext fun x9 => funext fun x10 => funext fun x11 => funext fun x12 => funext fun x13 => h x0 x1 x2 x3 x4 x5 x6 x7 x8 x9 x10 x11 x12 x13
theorem fx15 {α0 α1 α2 α3 α4 α5 α6 α7 α8 α9 α10 α11 α12 α13 α14 β : Type} {f g : α0 → α1 → α2 → α3 → α4 → α5 → α6 → α7 → α8 → α9 → α10 → α11 → α12 → α13 → α14 → β} (h : ∀ x0 x1 x2 x3 x4 x5 x6 x7 x8 x9 x10 x11 x12 x13 x14, f x0 x1 x2 x3 x4 x5 x6 x7 x8 x9 x10 x11 x12 x13 x14 = g x0 x1 x2 x3 x4 x5 x6 x7 x8 x9 x10 x11 x12 x13 x14) : f = g := funext fun x0 => funext fun x1 => funext fun x2 => funext fun x3 => funext fun x4 => funext fun x5 => funext fun x6 => funext fun x7 => funext fun x8 => funext fun x9 => funext fun x10 => funext fun x11 => funext fun x12 => funext fun x13 => funext fun x14 => h x0 x1 x2 x3 x4 x5 x6 x7 x8 x9 x10 x11 x12 x13 x14
theorem fx16 {α0 α1 α2 α3 α4 α5 α6 α7 α8 α9 α10 α11 α12 α13 α14 α15 β : Type} {f g : α0 → α1 → α2 → α3 → α4 → α5 → α6 → α7 → α8 → α9 → α10 → α11 → α12 → α13 → α14 → α15 → β} (h : ∀ x0 x1 x2 x3 x4 x5 x6 x7 x8 x9 x10 x11 x12 x13 x14 x15, f x0 x1 x2 x3 x4 x5 x6 x7 x8 x9 x10 x11 x12 x13 x14 x15 = g x0 x1 x2 x3 x4 x5 x6 x7 x8 x9 x10 x11 x12 x13 x14 x15) : f = g := funext fun x0 => funext fun x1 => funext fun x2 => funext fun x3 => funext fun x4 => funext fun x5 => funext fun x6 => funext fun x7 => funext fun x8 => funext fun x9 => funext fun x10 => funext fun x11 => funext fun x12 => funext fun x13 => funext fun x14 => funext fun x15 => h x0 x1 x2 x3 x4 x5 x6 x7 x8 x9 x10 x11 x12 x13 x14 x15
theorem fx17 {α0 α1 α2 α3 α4 α5 α6 α7 α8 α9 α10 α11 α12 α13 α14 α15 α16 β : Type} {f g : α0 → α1 → α2 → α3 → α4 → α5 → α6 → α7 → α8 → α9 → α10 → α11 → α12 → α13 → α14 → α15 → α16 → β} (h : ∀ x0 x1 x2 x3 x4 x5 x6 x7 x8 x9 x10 x11 x12 x13 x14 x15 x16, f x0 x1 x2 x3 x4 x5 x6 x7 x8 x9 x10 x11 x12 x13 x14 x15 x16 = g x0 x1 x2 x3 x4 x5 x6 x7 x8 x9 x10 x11 x12 x13 x14 x15 x16) : f = g := funext fun x0 => funext fun x1 => funext fun x2 => funext fun x3 => funext fun x4 => funext fun x5 => funext fun x6 => funext fun x7 => funext fun x8 => funext fun x9 => funext fun x10 => funext fun x11 => funext fun x12 => funext fun x13 => funext fun x14 => funext fun x15 => funext fun x16 => h x0 x1 x2 x3 x4 x5 x6 x7 x8 x9 x10 x11 x12 x13 x14 x15 x16
theorem fx18 {α0 α1 α2 α3 α4 α5 α6 α7 α8 α9 α10 α11 α12 α13 α14 α15 α16 α17 β : Type} {f g : α0 → α1 → α2 → α3 → α4 → α5 → α6 → α7 → α8 → α9 → α10 → α11 → α12 → α13 → α14 → α15 → α16 → α17 → β} (h : ∀ x0 x1 x2 x3 x4 x5 x6 x7 x8 x9 x10 x11 x12 x13 x14 x15 x16 x17, f x0 x1 x2 x3 x4 x5 x6 x7 x8 x9 x10 x11 x12 x13 x14 x15 x16 x17 = g x0 x1 x2 x3 x4 x5 x6 x7 x8 x9 x10 x11 x12 x13 x14 x15 x16 x17) : f = g := funext fun x0 => funext fun x1 => funext fun x2 => funext fun x3 => funext fun x4 => funext fun x5 => funext fun x6 => funext fun x7 => funext fun x8 => funext fun x9 => funext fun x10 => funext fun x11 => funext fun x12 => funext fun x13 => funext fun x14 => funext fun x15 => funext fun x16 => funext fun x17 => h x0 x1 x2 x3 x4 x5 x6 x7 x8 x9 x10 x11 x12 x13 x14 x15 x16 x17
theorem fx19 {α0 α1 α2 α3 α4 α5 α6 α7 α8 α9 α10 α11 α12 α13 α14 α15 α16 α17 α18 β : Type} {f g : α0 → α1 → α2 → α3 → α4 → α5 → α6 → α7 → α8 → α9 → α10 → α11 → α12 → α13 → α14 → α15 → α16 → α17 → α18 → β} (h : ∀ x0 x1 x2 x3 x4 x5 x6 x7 x8 x9 x10 x11 x12 x13 x14 x15 x16 x17 x18, f x0 x1 x2 x3 x4 x5 x6 x7 x8 x9 x10 x11 x12 x13 x14 x15 x16 x17 x18 = g x0 x1 x2 x3 x4 x5 x6 x7 x8 x9 x10 x11 x12 x13 x14 x15 x16 x17 x18) : f = g := funext fun x0 => funext fun x1 => funext fun x2 => funext fun x3 => funext fun x4 => funext fun x5 => funext fun x6 => funext fun x7 => funext fun x8 => funext fun x9 => funext fun x10 => funext fun x11 => funext fun x12 => funext fun x13 => funext fun x14 => funext fun x15 => funext fun x16 => funext fun x17 => funext fun x18 => h x0 x1 x2 x3 x4 x5 x6 x7 x8 x9 x10 x11 x12 x13 x14 x15 x16 x17 x18
theorem fx20 {α0 α1 α2 α3 α4 α5 α6 α7 α8 α9 α10 α11 α12 α13 α14 α15 α16 α17 α18 α19 β : Type} {f g : α0 → α1 → α2 → α3 → α4 → α5 → α6 → α7 → α8 → α9 → α10 → α11 → α12 → α13 → α14 → α15 → α16 → α17 → α18 → α19 → β} (h : ∀ x0 x1 x2 x3 x4 x5 x6 x7 x8 x9 x10 x11 x12 x13 x14 x15 x16 x17 x18 x19, f x0 x1 x2 x3 x4 x5 x6 x7 x8 x9 x10 x11 x12 x13 x14 x15 x16 x17 x18 x19 = g x0 x1 x2 x3 x4 x5 x6 x7 x8 x9 x10 x11 x12 x13 x14 x15 x16 x17 x18 x19) : f = g := funext fun x0 => funext fun x1 => funext fun x2 => funext fun x3 => funext fun x4 => funext fun x5 => funext fun x6 => funext fun x7 => funext fun x8 => funext fun x9 => funext fun x10 => funext fun x11 => funext fun x12 => funext fun x13 => funext fun x14 => funext fun x15 => funext fun x16 => funext fun x17 => funext fun x18 => funext fun x19 => h x0 x1 x2 x3 x4 x5 x6 x7 x8 x9 x10 x11 x12 x13 x14 x15 x16 x17 x18 x19
theorem fx21 {α0 α1 α2 α3 α4 α5 α6 α7 α8 α9 α10 α11 α12 α13 α14 α15 α16 α17 α18 α19 α20 β : Type} {f g : α0 → α1 → α2 → α3 → α4 → α5 → α6 → α7 → α8 → α9 → α10 → α11 → α12 → α13 → α14 → α15 → α16 → α17 → α18 → α19 → α20 → β} (h : ∀ x0 x1 x2 x3 x4 x5 x6 x7 x8 x9 x10 x11 x12 x13 x14 x15 x16 x17 x18 x19 x20, f x0 x1 x2 x3 x4 x5 x6 x7 x8 x9 x10 x11 x12 x13 x14 x15 x16 x17 x18 x19 x20 = g x0 x1 x2 x3 x4 x5 x6 x7 x8 x9 x10 x11 x12 x13 x14 x15 x16 x17 x18 x19 x20) : f = g := funext fun x0 => funext fun x1 => funext fun x2 => funext fun x3 => funext fun x4 => funext fun x5 => funext fun x6 => funext fun x7 => funext fun x8 => funext fun x9 => funext fun x10 => funext fun x11 => funext fun x12 => funext fun x13 => funext fun x14 => funext fun x15 => funext fun x16 => funext fun x17 => funext fun x18 => funext fun x19 => funext fun x20 => h x0 x1 x2 x3 x4 x5 x6 x7 x8 x9 x10 x11 x12 x13 x14 x15 x16 x17 x18 x19 x20
theorem fx22 {α0 α1 α2 α3 α4 α5 α6 α7 α8 α9 α10 α11 α12 α13 α14 α15 α16 α17 α18 α19 α20 α21 β : Type} {f g : α0 → α1 → α2 → α3 → α4 → α5 → α6 → α7 → α8 → α9 → α10 → α11 → α12 → α13 → α14 → α15 → α16 → α17 → α18 → α19 → α20 → α21 → β} (h : ∀ x0 x1 x2 x3 x4 x5 x6 x7 x8 x9 x10 x11 x12 x13 x14 x15 x16 x17 x18 x19 x20 x21, f x0 x1 x2 x3 x4 x5 x6 x7 x8 x9 x10 x11 x12 x13 x14 x15 x16 x17 x18 x19 x20 x21 = g x0 x1 x2 x3 x4 x5 x6 x7 x8 x9 x10 x11 x12 x13 x14 x15 x16 x17 x18 x19 x20 x21) : f = g := funext fun x0 => funext fun x1 => funext fun x2 => funext fun x3 => funext fun x4 => funext fun x5 => funext fun x6 => funext fun x7 => funext fun x8 => funext fun x9 => funext fun x10 => funext fun x11 => funext fun x12 => funext fun x13 => funext fun x14 => funext fun x15 => funext fun x16 => funext fun x17 => funext fun x18 => funext fun x19 => funext fun x20 => funext fun x21 => h x0 x1 x2 x3 x4 x5 x6 x7 x8 x9 x10 x11 x12 x13 x14 x15 x16 x17 x18 x19 x20 x21
theorem fx23 {α0 α1 α2 α3 α4 α5 α6 α7 α8 α9 α10 α11 α12 α13 α14 α15 α16 α17 α18 α19 α20 α21 α22 β : Type} {f g : α0 → α1 → α2 → α3 → α4 → α5 → α6 → α7 → α8 → α9 → α10 → α11 → α12 → α13 → α14 → α15 → α16 → α17 → α18 → α19 → α20 → α21 → α22 → β} (h : ∀ x0 x1 x2 x3 x4 x5 x6 x7 x8 x9 x10 x11 x12 x13 x14 x15 x16 x17 x18 x19 x20 x21 x22, f x0 x1 x2 x3 x4 x5 x6 x7 x8 x9 x10 x11 x12 x13 x14 x15 x16 x17 x18 x19 x20 x21 x22 = g x0 x1 x2 x3 x4 x5 x6 x7 x8 x9 x10 x11 x12 x13 x14 x15 x16 x17 x18 x19 x20 x21 x22) : f = g := funext fun x0 => funext fun x1 => funext fun x2 => funext fun x3 => funext fun x4 => funext fun x5 => funext fun x6 => funext fun x7 => funext fun x8 => funext fun x9 => funext fun x10 => funext fun x11 => funext fun x12 => funext fun x13 => funext fun x14 => funext fun x15 => funext fun x16 => funext fun x17 => funext fun x18 => funext fun x19 => funext fun x20 => funext fun x21 => funext fun x22 => h x0 x1 x2 x3 x4 x5 x6 x7 x8 x9 x10 x11 x12 x13 x14 x15 x16 x17 x18 x19 x20 x21 x22
theorem fx24 {α0 α1 α2 α3 α4 α5 α6 α7 α8 α9 α10 α11 α12 α13 α14 α15 α16 α17 α18 α19 α20 α21 α22 α23 β : Type} {f g : α0 → α1 → α2 → α3 → α4 → α5 → α6 → α7 → α8 → α9 → α10 → α11 → α12 → α13 → α14 → α15 → α16 → α17 → α18 → α19 → α20 → α21 → α22 → α23 → β} (h : ∀ x0 x1 x2 x3 x4 x5 x6 x7 x8 x9 x10 x11 x12 x13 x14 x15 x16 x17 x18 x19 x20 x21 x22 x23, f x0 x1 x2 x3 x4 x5 x6 x7 x8 x9 x10 x11 x12 x13 x14 x15 x16 x17 x18 x19 x20 x21 x22 x23 = g x0 x1 x2 x3 x4 x5 x6 x7 x8 x9 x10 x11 x12 x13 x14 x15 x16 x17 x18 x19 x20 x21 x22 x23) : f = g := funext fun x0 => funext fun x1 => funext fun x2 => funext fun x3 => funext fun x4 => funext fun x5 => funext fun x6 => funext fun x7 => funext fun x8 => funext fun x9 => funext fun x10 => funext fun x11 => funext fun x12 => funext fun x13 => funext fun x14 => funext fun x15 => funext fun x16 => funext fun x17 => funext fun x18 => funext fun x19 => funext fun x20 => funext fun x21 => funext fun x22 => funext fun x23 => h x0 x1 x2 x3 x4 x5 x6 x7 x8 x9 x10 x11 x12 x13 x14 x15 x16 x17 x18 x19 x20 x21 x22 x23
theorem fx25 {α0 α1 α2 α3 α4 α5 α6 α7 α8 α9 α10 α11 α12 α13 α14 α15 α16 α17 α18 α19 α20 α21 α22 α23 α24 β : Type} {f g : α0 → α1 → α2 → α3 → α4 → α5 → α6 → α7 → α8 → α9 → α10 → α11 → α12 → α13 → α14 → α15 → α16 → α17 → α18 → α19 → α20 → α21 → α22 → α23 → α24 → β} (h : ∀ x0 x1 x2 x3 x4 x5 x6 x7 x8 x9 x10 x11 x12 x13 x14 x15 x16 x17 x18 x19 x20 x21 x22 x23 x24, f x0 x1 x2 x3 x4 x5 x6 x7 x8 x9 x10 x11 x12 x13 x14 x15 x16 x17 x18 x19 x20 x21 x22 x23 x24 = g x0 x1 x2 x3 x4 x5 x6 x7 x8 x9 x10 x11 x12 x13 x14 x15 x16 x17 x18 x19 x20 x21 x22 x23 x24) : f = g := funext fun x0 => funext fun x1 => funext fun x2 => funext fun x3 => funext fun x4 => funext fun x5 => funext fun x6 => funext fun x7 => funext fun x8 => funext fun x9 => funext fun x10 => funext fun x11 => funext fun x12 => funext fun x13 => funext fun x14 => funext fun x15 => funext fun x16 => funext fun x17 => funext fun x18 => funext fun x19 => funext fun x20 => funext fun x21 => funext fun x22 => funext fun x23 => funext fun x24 => h x0 x1 x2 x3 x4 x5 x6 x7 x8 x9 x10 x11 x12 x13 x14 x15 x16 x17 x18 x19 x20 x21 x22 x23 x24
theorem fx26 {α0 α1 α2 α3 α4 α5 α6 α7 α8 α9 α10 α11 α12 α13 α14 α15 α16 α17 α18 α19 α20 α21 α22 α23 α24 α25 β : Type} {f g : α0 → α1 → α2 → α3 → α4 → α5 → α6 → α7 → α8 → α9 → α10 → α11 → α12 → α13 → α14 → α15 → α16 → α17 → α18 → α19 → α20 → α21 → α22 → α23 → α24 → α25 → β} (h : ∀ x0 x1 x2 x3 x4 x5 x6 x7 x8 x9 x10 x11 x12 x13 x14 x15 x16 x17 x18 x19 x20 x21 x22 x23 x24 x25, f x0 x1 x2 x3 x4 x5 x6 x7 x8 x9 x10 x11 x12 x13 x14 x15 x16 x17 x18 x19 x20 x21 x22 x23 x24 x25 = g x0 x1 x2 x3 x4 x5 x6 x7 x8 x9 x10 x11 x12 x13 x14 x15 x16 x17 x18 x19 x20 x21 x22 x23 x24 x25) : f = g := funext fun x0 => funext fun x1 => funext fun x2 => funext fun x3 => funext fun x4 => funext fun x5 => funext fun x6 => funext fun x7 => funext fun x8 => funext fun x9 => funext fun x10 => funext fun x11 => funext fun x12 => funext fun x13 => funext fun x14 => funext fun x15 => funext fun x16 => funext fun x17 => funext fun x18 => funext fun x19 => funext fun x20 => funext fun x21 => funext fun x22 => funext fun x23 => funext fun x24 => funext fun x25 => h x0 x1 x2 x3 x4 x5 x6 x7 x8 x9 x10 x11 x12 x13 x14 x15 x16 x17 x18 x19 x20 x21 x22 x23 x24 x25
theorem fx27 {α0 α1 α2 α3 α4 α5 α6 α7 α8 α9 α10 α11 α12 α13 α14 α15 α16 α17 α18 α19 α20 α21 α22 α23 α24 α25 α26 β : Type} {f g : α0 → α1 → α2 → α3 → α4 → α5 → α6 → α7 → α8 → α9 → α10 → α11 → α12 → α13 → α14 → α15 → α16 → α17 → α18 → α19 → α20 → α21 → α22 → α23 → α24 → α25 → α26 → β} (h : ∀ x0 x1 x2 x3 x4 x5 x6 x7 x8 x9 x10 x11 x12 x13 x14 x15 x16 x17 x18 x19 x20 x21 x22 x23 x24 x25 x26, f x0 x1 x2 x3 x4 x5 x6 x7 x8 x9 x10 x11 x12 x13 x14 x15 x16 x17 x18 x19 x20 x21 x22 x23 x24 x25 x26 = g x0 x1 x2 x3 x4 x5 x6 x7 x8 x9 x10 x11 x12 x13 x14 x15 x16 x17 x18 x19 x20 x21 x22 x23 x24 x25 x26) : f = g := funext fun x0 => funext fun x1 => funext fun x2 => funext fun x3 => funext fun x4 => funext fun x5 => funext fun x6 => funext fun x7 => funext fun x8 => funext fun x9 => funext fun x10 => funext fun x11 => funext fun x12 => funext fun x13 => funext fun x14 => funext fun x15 => funext fun x16 => funext fun x17 => funext fun x18 => funext fun x19 => funext fun x20 => funext fun x21 => funext fun x22 => funext fun x23 => funext fun x24 => funext fun x25 => funext fun x26 => h x0 x1 x2 x3 x4 x5 x6 x7 x8 x9 x10 x11 x12 x13 x14 x15 x16 x17 x18 x19 x20 x21 x22 x23 x24 x25 x26
theorem fx28 {α0 α1 α2 α3 α4 α5 α6 α7 α8 α9 α10 α11 α12 α13 α14 α15 α16 α17 α18 α19 α20 α21 α22 α23 α24 α25 α26 α27 β : Type} {f g : α0 → α1 → α2 → α3 → α4 → α5 → α6 → α7 → α8 → α9 → α10 → α11 → α12 → α13 → α14 → α15 → α16 → α17 → α18 → α19 → α20 → α21 → α22 → α23 → α24 → α25 → α26 → α27 → β} (h : ∀ x0 x1 x2 x3 x4 x5 x6 x7 x8 x9 x10 x11 x12 x13 x14 x15 x16 x17 x18 x19 x20 x21 x22 x23 x24 x25 x26 x27, f x0 x1 x2 x3 x4 x5 x6 x7 x8 x9 x10 x11 x12 x13 x14 x15 x16 x17 x18 x19 x20 x21 x22 x23 x24 x25 x26 x27 = g x0 x1 x2 x3 x4 x5 x6 x7 x8 x9 x10 x11 x12 x13 x14 x15 x16 x17 x18 x19 x20 x21 x22 x23 x24 x25 x26 x27) : f = g := funext fun x0 => funext fun x1 => funext fun x2 => funext fun x3 => funext fun x4 => funext fun x5 => funext fun x6 => funext fun x7 => funext fun x8 => funext fun x9 => funext fun x10 => funext fun x11 => funext fun x12 => funext fun x13 => funext fun x14 => funext fun x15 => funext fun x16 => funext fun x17 => funext fun x18 => funext fun x19 => funext fun x20 => funext fun x21 => funext fun x22 => funext fun x23 => funext fun x24 => funext fun x25 => funext fun x26 => funext fun x27 => h x0 x1 x2 x3 x4 x5 x6 x7 x8 x9 x10 x11 x12 x13 x14 x15 x16 x17 x18 x19 x20 x21 x22 x23 x24 x25 x26 x27
theorem fx29 {α0 α1 α2 α3 α4 α5 α6 α7 α8 α9 α10 α11 α12 α13 α14 α15 α16 α17 α18 α19 α20 α21 α22 α23 α24 α25 α26 α27 α28 β : Type} {f g : α0 → α1 → α2 → α3 → α4 → α5 → α6 → α7 → α8 → α9 → α10 → α11 → α12 → α13 → α14 → α15 → α16 → α17 → α18 → α19 → α20 → α21 → α22 → α23 → α24 → α25 → α26 → α27 → α28 → β} (h : ∀ x0 x1 x2 x3 x4 x5 x6 x7 x8 x9 x10 x11 x12 x13 x14 x15 x16 x17 x18 x19 x20 x21 x22 x23 x24 x25 x26 x27 x28, f x0 x1 x2 x3 x4 x5 x6 x7 x8 x9 x10 x11 x12 x13 x14 x15 x16 x17 x18 x19 x20 x21 x22 x23 x24 x25 x26 x27 x28 = g x0 x1 x2 x3 x4 x5 x6 x7 x8 x9 x10 x11 x12 x13 x14 x15 x16 x17 x18 x19 x20 x21 x22 x23 x24 x25 x26 x27 x28) : f = g := funext fun x0 => funext fun x1 => funext fun x2 => funext fun x3 => funext fun x4 => funext fun x5 => funext fun x6 => funext fun x7 => funext fun x8 => funext fun x9 => funext fun x10 => funext fun x11 => funext fun x12 => funext fun x13 => funext fun x14 => funext fun x15 => funext fun x16 => funext fun x17 => funext fun x18 => funext fun x19 => funext fun x20 => funext fun x21 => funext fun x22 => funext fun x23 => funext fun x24 => funext fun x25 => funext fun x26 => funext fun x27 => funext fun x28 => h x0 x1 x2 x3 x4 x5 x6 x7 x8 x9 x10 x11 x12 x13 x14 x15 x16 x17 x18 x19 x20 x21 x22 x23 x24 x25 x26 x27 x28
theorem fx30 {α0 α1 α2 α3 α4 α5 α6 α7 α8 α9 α10 α11 α12 α13 α14 α15 α16 α17 α18 α19 α20 α21 α22 α23 α24 α25 α26 α27 α28 α29 β : Type} {f g : α0 → α1 → α2 → α3 → α4 → α5 → α6 → α7 → α8 → α9 → α10 → α11 → α12 → α13 → α14 → α15 → α16 → α17 → α18 → α19 → α20 → α21 → α22 → α23 → α24 → α25 → α26 → α27 → α28 → α29 → β} (h : ∀ x0 x1 x2 x3 x4 x5 x6 x7 x8 x9 x10 x11 x12 x13 x14 x15 x16 x17 x18 x19 x20 x21 x22 x23 x24 x25 x26 x27 x28 x29, f x0 x1 x2 x3 x4 x5 x6 x7 x8 x9 x10 x11 x12 x13 x14 x15 x16 x17 x18 x19 x20 x21 x22 x23 x24 x25 x26 x27 x28 x29 = g x0 x1 x2 x3 x4 x5 x6 x7 x8 x9 x10 x11 x12 x13 x14 x15 x16 x17 x18 x19 x20 x21 x22 x23 x24 x25 x26 x27 x28 x29) : f = g := funext fun x0 => funext fun x1 => funext fun x2 => funext fun x3 => funext fun x4 => funext fun x5 => funext fun x6 => funext fun x7 => funext fun x8 => funext fun x9 => funext fun x10 => funext fun x11 => funext fun x12 => funext fun x13 => funext fun x14 => funext fun x15 => funext fun x16 => funext fun x17 => funext fun x18 => funext fun x19 => funext fun x20 => funext fun x21 => funext fun x22 => funext fun x23 => funext fun x24 => funext fun x25 => funext fun x26 => funext fun x27 => funext fun x28 => funext fun x29 => h x0 x1 x2 x3 x4 x5 x6 x7 x8 x9 x10 x11 x12 x13 x14 x15 x16 x17 x18 x19 x20 x21 x22 x23 x24 x25 x26 x27 x28 x29
theorem fx31 {α0 α1 α2 α3 α4 α5 α6 α7 α8 α9 α10 α11 α12 α13 α14 α15 α16 α17 α18 α19 α20 α21 α22 α23 α24 α25 α26 α27 α28 α29 α30 β : Type} {f g : α0 → α1 → α2 → α3 → α4 → α5 → α6 → α7 → α8 → α9 → α10 → α11 → α12 → α13 → α14 → α15 → α16 → α17 → α18 → α19 → α20 → α21 → α22 → α23 → α24 → α25 → α26 → α27 → α28 → α29 → α30 → β} (h : ∀ x0 x1 x2 x3 x4 x5 x6 x7 x8 x9 x10 x11 x12 x13 x14 x15 x16 x17 x18 x19 x20 x21 x22 x23 x24 x25 x26 x27 x28 x29 x30, f x0 x1 x2 x3 x4 x5 x6 x7 x8 x9 x10 x11 x12 x13 x14 x15 x16 x17 x18 x19 x20 x21 x22 x23 x24 x25 x26 x27 x28 x29 x30 = g x0 x1 x2 x3 x4 x5 x6 x7 x8 x9 x10 x11 x12 x13 x14 x15 x16 x17 x18 x19 x20 x21 x22 x23 x24 x25 x26 x27 x28 x29 x30) : f = g := funext fun x0 => funext fun x1 => funext fun x2 => funext fun x3 => funext fun x4 => funext fun x5 => funext fun x6 => funext fun x7 => funext fun x8 => funext fun x9 => funext fun x10 => funext fun x11 => funext fun x12 => funext fun x13 => funext fun x14 => funext fun x15 => funext fun x16 => funext fun x17 => funext fun x18 => funext fun x19 => funext fun x20 => funext fun x21 => funext fun x22 => funext fun x23 => funext fun x24 => funext fun x25 => funext fun x26 => funext fun x27 => funext fun x28 => funext fun x29 => funext fun x30 => h x0 x1 x2 x3 x4 x5 x6 x7 x8 x9 x10 x11 x12 x13 x14 x15 x16 x17 x18 x19 x20 x21 x22 x23 x24 x25 x26 x27 x28 x29 x30
theorem fx32 {α0 α1 α2 α3 α4 α5 α6 α7 α8 α9 α10 α11 α12 α13 α14 α15 α16 α17 α18 α19 α20 α21 α22 α23 α24 α25 α26 α27 α28 α29 α30 α31 β : Type} {f g : α0 → α1 → α2 → α3 → α4 → α5 → α6 → α7 → α8 → α9 → α10 → α11 → α12 → α13 → α14 → α15 → α16 → α17 → α18 → α19 → α20 → α21 → α22 → α23 → α24 → α25 → α26 → α27 → α28 → α29 → α30 → α31 → β} (h : ∀ x0 x1 x2 x3 x4 x5 x6 x7 x8 x9 x10 x11 x12 x13 x14 x15 x16 x17 x18 x19 x20 x21 x22 x23 x24 x25 x26 x27 x28 x29 x30 x31, f x0 x1 x2 x3 x4 x5 x6 x7 x8 x9 x10 x11 x12 x13 x14 x15 x16 x17 x18 x19 x20 x21 x22 x23 x24 x25 x26 x27 x28 x29 x30 x31 = g x0 x1 x2 x3 x4 x5 x6 x7 x8 x9 x10 x11 x12 x13 x14 x15 x16 x17 x18 x19 x20 x21 x22 x23 x24 x25 x26 x27 x28 x29 x30 x31) : f = g := funext fun x0 => funext fun x1 => funext fun x2 => funext fun x3 => funext fun x4 => funext fun x5 => funext fun x6 => funext fun x7 => funext fun x8 => funext fun x9 => funext fun x10 => funext fun x11 => funext fun x12 => funext fun x13 => funext fun x14 => funext fun x15 => funext fun x16 => funext fun x17 => funext fun x18 => funext fun x19 => funext fun x20 => funext fun x21 => funext fun x22 => funext fun x23 => funext fun x24 => funext fun x25 => funext fun x26 => funext fun x27 => funext fun x28 => funext fun x29 => funext fun x30 => funext fun x31 => h x0 x1 x2 x3 x4 x5 x6 x7 x8 x9 x10 x11 x12 x13 x14 x15 x16 x17 x18 x19 x20 x21 x22 x23 x24 x25 x26 x27 x28 x29 x30 x31
theorem fx33 {α0 α1 α2 α3 α4 α5 α6 α7 α8 α9 α10 α11 α12 α13 α14 α15 α16 α17 α18 α19 α20 α21 α22 α23 α24 α25 α26 α27 α28 α29 α30 α31 α32 β : Type} {f g : α0 → α1 → α2 → α3 → α4 → α5 → α6 → α7 → α8 → α9 → α10 → α11 → α12 → α13 → α14 → α15 → α16 → α17 → α18 → α19 → α20 → α21 → α22 → α23 → α24 → α25 → α26 → α27 → α28 → α29 → α30 → α31 → α32 → β} (h : ∀ x0 x1 x2 x3 x4 x5 x6 x7 x8 x9 x10 x11 x12 x13 x14 x15 x16 x17 x18 x19 x20 x21 x22 x23 x24 x25 x26 x27 x28 x29 x30 x31 x32, f x0 x1 x2 x3 x4 x5 x6 x7 x8 x9 x10 x11 x12 x13 x14 x15 x16 x17 x18 x19 x20 x21 x22 x23 x24 x25 x26 x27 x28 x29 x30 x31 x32 = g x0 x1 x2 x3 x4 x5 x6 x7 x8 x9 x10 x11 x12 x13 x14 x15 x16 x17 x18 x19 x20 x21 x22 x23 x24 x25 x26 x27 x28 x29 x30 x31 x32) : f = g := funext fun x0 => funext fun x1 => funext fun x2 => funext fun x3 => funext fun x4 => funext fun x5 => funext fun x6 => funext fun x7 => funext fun x8 => funext fun x9 => funext fun x10 => funext fun x11 => funext fun x12 => funext fun x13 => funext fun x14 => funext fun x15 => funext fun x16 => funext fun x17 => funext fun x18 => funext fun x19 => funext fun x20 => funext fun x21 => funext fun x22 => funext fun x23 => funext fun x24 => funext fun x25 => funext fun x26 => funext fun x27 => funext fun x28 => funext fun x29 => funext fun x30 => funext fun x31 => funext fun x32 => h x0 x1 x2 x3 x4 x5 x6 x7 x8 x9 x10 x11 x12 x13 x14 x15 x16 x17 x18 x19 x20 x21 x22 x23 x24 x25 x26 x27 x28 x29 x30 x31 x32
theorem fx34 {α0 α1 α2 α3 α4 α5 α6 α7 α8 α9 α10 α11 α12 α13 α14 α15 α16 α17 α18 α19 α20 α21 α22 α23 α24 α25 α26 α27 α28 α29 α30 α31 α32 α33 β : Type} {f g : α0 → α1 → α2 → α3 → α4 → α5 → α6 → α7 → α8 → α9 → α10 → α11 → α12 → α13 → α14 → α15 → α16 → α17 → α18 → α19 → α20 → α21 → α22 → α23 → α24 → α25 → α26 → α27 → α28 → α29 → α30 → α31 → α32 → α33 → β} (h : ∀ x0 x1 x2 x3 x4 x5 x6 x7 x8 x9 x10 x11 x12 x13 x14 x15 x16 x17 x18 x19 x20 x21 x22 x23 x24 x25 x26 x27 x28 x29 x30 x31 x32 x33, f x0 x1 x2 x3 x4 x5 x6 x7 x8 x9 x10 x11 x12 x13 x14 x15 x16 x17 x18 x19 x20 x21 x22 x23 x24 x25 x26 x27 x28 x29 x30 x31 x32 x33 = g x0 x1 x2 x3 x4 x5 x6 x7 x8 x9 x10 x11 x12 x13 x14 x15 x16 x17 x18 x19 x20 x21 x22 x23 x24 x25 x26 x27 x28 x29 x30 x31 x32 x33) : f = g := funext fun x0 => funext fun x1 => funext fun x2 => funext fun x3 => funext fun x4 => funext fun x5 => funext fun x6 => funext fun x7 => funext fun x8 => funext fun x9 => funext fun x10 => funext fun x11 => funext fun x12 => funext fun x13 => funext fun x14 => funext fun x15 => funext fun x16 => funext fun x17 => funext fun x18 => funext fun x19 => funext fun x20 => funext fun x21 => funext fun x22 => funext fun x23 => funext fun x24 => funext fun x25 => funext fun x26 => funext fun x27 => funext fun x28 => funext fun x29 => funext fun x30 => funext fun x31 => funext fun x32 => funext fun x33 => h x0 x1 x2 x3 x4 x5 x6 x7 x8 x9 x10 x11 x12 x13 x14 x15 x16 x17 x18 x19 x20 x21 x22 x23 x24 x25 x26 x27 x28 x29 x30 x31 x32 x33
theorem fx35 {α0 α1 α2 α3 α4 α5 α6 α7 α8 α9 α10 α11 α12 α13 α14 α15 α16 α17 α18 α19 α20 α21 α22 α23 α24 α25 α26 α27 α28 α29 α30 α31 α32 α33 α34 β : Type} {f g : α0 → α1 → α2 → α3 → α4 → α5 → α6 → α7 → α8 → α9 → α10 → α11 → α12 → α13 → α14 → α15 → α16 → α17 → α18 → α19 → α20 → α21 → α22 → α23 → α24 → α25 → α26 → α27 → α28 → α29 → α30 → α31 → α32 → α33 → α34 → β} (h : ∀ x0 x1 x2 x3 x4 x5 x6 x7 x8 x9 x10 x11 x12 x13 x14 x15 x16 x17 x18 x19 x20 x21 x22 x23 x24 x25 x26 x27 x28 x29 x30 x31 x32 x33 x34, f x0 x1 x2 x3 x4 x5 x6 x7 x8 x9 x10 x11 x12 x13 x14 x15 x16 x17 x18 x19 x20 x21 x22 x23 x24 x25 x26 x27 x28 x29 x30 x31 x32 x33 x34 = g x0 x1 x2 x3 x4 x5 x6 x7 x8 x9 x10 x11 x12 x13 x14 x15 x16 x17 x18 x19 x20 x21 x22 x23 x24 x25 x26 x27 x28 x29 x30 x31 x32 x33 x34) : f = g := funext fun x0 => funext fun x1 => funext fun x2 => funext fun x3 => funext fun x4 => funext fun x5 => funext fun x6 => funext fun x7 => funext fun x8 => funext fun x9 => funext fun x10 => funext fun x11 => funext fun x12 => funext fun x13 => funext fun x14 => funext fun x15 => funext fun x16 => funext fun x17 => funext fun x18 => funext fun x19 => funext fun x20 => funext fun x21 => funext fun x22 => funext fun x23 => funext fun x24 => funext fun x25 => funext fun x26 => funext fun x27 => funext fun x28 => funext fun x29 => funext fun x30 => funext fun x31 => funext fun x32 => funext fun x33 => funext fun x34 => h x0 x1 x2 x3 x4 x5 x6 x7 x8 x9 x10 x11 x12 x13 x14 x15 x16 x17 x18 x19 x20 x21 x22 x23 x24 x25 x26 x27 x28 x29 x30 x31 x32 x33 x34
theorem fx36 {α0 α1 α2 α3 α4 α5 α6 α7 α8 α9 α10 α11 α12 α13 α14 α15 α16 α17 α18 α19 α20 α21 α22 α23 α24 α25 α26 α27 α28 α29 α30 α31 α32 α33 α34 α35 β : Type} {f g : α0 → α1 → α2 → α3 → α4 → α5 → α6 → α7 → α8 → α9 → α10 → α11 → α12 → α13 → α14 → α15 → α16 → α17 → α18 → α19 → α20 → α21 → α22 → α23 → α24 → α25 → α26 → α27 → α28 → α29 → α30 → α31 → α32 → α33 → α34 → α35 → β} (h : ∀ x0 x1 x2 x3 x4 x5 x6 x7 x8 x9 x10 x11 x12 x13 x14 x15 x16 x17 x18 x19 x20 x21 x22 x23 x24 x25 x26 x27 x28 x29 x30 x31 x32 x33 x34 x35, f x0 x1 x2 x3 x4 x5 x6 x7 x8 x9 x10 x11 x12 x13 x14 x15 x16 x17 x18 x19 x20 x21 x22 x23 x24 x25 x26 x27 x28 x29 x30 x31 x32 x33 x34 x35 = g x0 x1 x2 x3 x4 x5 x6 x7 x8 x9 x10 x11 x12 x13 x14 x15 x16 x17 x18 x19 x20 x21 x22 x23 x24 x25 x26 x27 x28 x29 x30 x31 x32 x33 x34 x35) : f = g := funext fun x0 => funext fun x1 => funext fun x2 => funext fun x3 => funext fun x4 => funext fun x5 => funext fun x6 => funext fun x7 => funext fun x8 => funext fun x9 => funext fun x10 => funext fun x11 => funext fun x12 => funext fun x13 => funext fun x14 => funext fun x15 => funext fun x16 => funext fun x17 => funext fun x18 => funext fun x19 => funext fun x20 => funext fun x21 => funext fun x22 => funext fun x23 => funext fun x24 => funext fun x25 => funext fun x26 => funext fun x27 => funext fun x28 => funext fun x29 => funext fun x30 => funext fun x31 => funext fun x32 => funext fun x33 => funext fun x34 => funext fun x35 => h x0 x1 x2 x3 x4 x5 x6 x7 x8 x9 x10 x11 x12 x13 x14 x15 x16 x17 x18 x19 x20 x21 x22 x23 x24 x25 x26 x27 x28 x29 x30 x31 x32 x33 x34 x35
theorem fx37 {α0 α1 α2 α3 α4 α5 α6 α7 α8 α9 α10 α11 α12 α13 α14 α15 α16 α17 α18 α19 α20 α21 α22 α23 α24 α25 α26 α27 α28 α29 α30 α31 α32 α33 α34 α35 α36 β : Type} {f g : α0 → α1 → α2 → α3 → α4 → α5 → α6 → α7 → α8 → α9 → α10 → α11 → α12 → α13 → α14 → α15 → α16 → α17 → α18 → α19 → α20 → α21 → α22 → α23 → α24 → α25 → α26 → α27 → α28 → α29 → α30 → α31 → α32 → α33 → α34 → α35 → α36 → β} (h : ∀ x0 x1 x2 x3 x4 x5 x6 x7 x8 x9 x10 x11 x12 x13 x14 x15 x16 x17 x18 x19 x20 x21 x22 x23 x24 x25 x26 x27 x28 x29 x30 x31 x32 x33 x34 x35 x36, f x0 x1 x2 x3 x4 x5 x6 x7 x8 x9 x10 x11 x12 x13 x14 x15 x16 x17 x18 x19 x20 x21 x22 x23 x24 x25 x26 x27 x28 x29 x30 x31 x32 x33 x34 x35 x36 = g x0 x1 x2 x3 x4 x5 x6 x7 x8 x9 x10 x11 x12 x13 x14 x15 x16 x17 x18 x19 x20 x21 x22 x23 x24 x25 x26 x27 x28 x29 x30 x31 x32 x33 x34 x35 x36) : f = g := funext fun x0 => funext fun x1 => funext fun x2 => funext fun x3 => funext fun x4 => funext fun x5 => funext fun x6 => funext fun x7 => funext fun x8 => funext fun x9 => funext fun x10 => funext fun x11 => funext fun x12 => funext fun x13 => funext fun x14 => funext fun x15 => funext fun x16 => funext fun x17 => funext fun x18 => funext fun x19 => funext fun x20 => funext fun x21 => funext fun x22 => funext fun x23 => funext fun x24 => funext fun x25 => funext fun x26 => funext fun x27 => funext fun x28 => funext fun x29 => funext fun x30 => funext fun x31 => funext fun x32 => funext fun x33 => funext fun x34 => funext fun x35 => funext fun x36 => h x0 x1 x2 x3 x4 x5 x6 x7 x8 x9 x10 x11 x12 x13 x14 x15 x16 x17 x18 x19 x20 x21 x22 x23 x24 x25 x26 x27 x28 x29 x30 x31 x32 x33 x34 x35 x36
theorem fx38 {α0 α1 α2 α3 α4 α5 α6 α7 α8 α9 α10 α11 α12 α13 α14 α15 α16 α17 α18 α19 α20 α21 α22 α23 α24 α25 α26 α27 α28 α29 α30 α31 α32 α33 α34 α35 α36 α37 β : Type} {f g : α0 → α1 → α2 → α3 → α4 → α5 → α6 → α7 → α8 → α9 → α10 → α11 → α12 → α13 → α14 → α15 → α16 → α17 → α18 → α19 → α20 → α21 → α22 → α23 → α24 → α25 → α26 → α27 → α28 → α29 → α30 → α31 → α32 → α33 → α34 → α35 → α36 → α37 → β} (h : ∀ x0 x1 x2 x3 x4 x5 x6 x7 x8 x9 x10 x11 x12 x13 x14 x15 x16 x17 x18 x19 x20 x21 x22 x23 x24 x25 x26 x27 x28 x29 x30 x31 x32 x33 x34 x35 x36 x37, f x0 x1 x2 x3 x4 x5 x6 x7 x8 x9 x10 x11 x12 x13 x14 x15 x16 x17 x18 x19 x20 x21 x22 x23 x24 x25 x26 x27 x28 x29 x30 x31 x32 x33 x34 x35 x36 x37 = g x0 x1 x2 x3 x4 x5 x6 x7 x8 x9 x10 x11 x12 x13 x14 x15 x16 x17 x18 x19 x20 x21 x22 x23 x24 x25 x26 x27 x28 x29 x30 x31 x32 x33 x34 x35 x36 x37) : f = g := funext fun x0 => funext fun x1 => funext fun x2 => funext fun x3 => funext fun x4 => funext fun x5 => funext fun x6 => funext fun x7 => funext fun x8 => funext fun x9 => funext fun x10 => funext fun x11 => funext fun x12 => funext fun x13 => funext fun x14 => funext fun x15 => funext fun x16 => funext fun x17 => funext fun x18 => funext fun x19 => funext fun x20 => funext fun x21 => funext fun x22 => funext fun x23 => funext fun x24 => funext fun x25 => funext fun x26 => funext fun x27 => funext fun x28 => funext fun x29 => funext fun x30 => funext fun x31 => funext fun x32 => funext fun x33 => funext fun x34 => funext fun x35 => funext fun x36 => funext fun x37 => h x0 x1 x2 x3 x4 x5 x6 x7 x8 x9 x10 x11 x12 x13 x14 x15 x16 x17 x18 x19 x20 x21 x22 x23 x24 x25 x26 x27 x28 x29 x30 x31 x32 x33 x34 x35 x36 x37
theorem fx39 {α0 α1 α2 α3 α4 α5 α6 α7 α8 α9 α10 α11 α12 α13 α14 α15 α16 α17 α18 α19 α20 α21 α22 α23 α24 α25 α26 α27 α28 α29 α30 α31 α32 α33 α34 α35 α36 α37 α38 β : Type} {f g : α0 → α1 → α2 → α3 → α4 → α5 → α6 → α7 → α8 → α9 → α10 → α11 → α12 → α13 → α14 → α15 → α16 → α17 → α18 → α19 → α20 → α21 → α22 → α23 → α24 → α25 → α26 → α27 → α28 → α29 → α30 → α31 → α32 → α33 → α34 → α35 → α36 → α37 → α38 → β} (h : ∀ x0 x1 x2 x3 x4 x5 x6 x7 x8 x9 x10 x11 x12 x13 x14 x15 x16 x17 x18 x19 x20 x21 x22 x23 x24 x25 x26 x27 x28 x29 x30 x31 x32 x33 x34 x35 x36 x37 x38, f x0 x1 x2 x3 x4 x5 x6 x7 x8 x9 x10 x11 x12 x13 x14 x15 x16 x17 x18 x19 x20 x21 x22 x23 x24 x25 x26 x27 x28 x29 x30 x31 x32 x33 x34 x35 x36 x37 x38 = g x0 x1 x2 x3 x4 x5 x6 x7 x8 x9 x10 x11 x12 x13 x14 x15 x16 x17 x18 x19 x20 x21 x22 x23 x24 x25 x26 x27 x28 x29 x30 x31 x32 x33 x34 x35 x36 x37 x38) : f = g := funext fun x0 => funext fun x1 => funext fun x2 => funext fun x3 => funext fun x4 => funext fun x5 => funext fun x6 => funext fun x7 => funext fun x8 => funext fun x9 => funext fun x10 => funext fun x11 => funext fun x12 => funext fun x13 => funext fun x14 => funext fun x15 => funext fun x16 => funext fun x17 => funext fun x18 => funext fun x19 => funext fun x20 => funext fun x21 => funext fun x22 => funext fun x23 => funext fun x24 => funext fun x25 => funext fun x26 => funext fun x27 => funext fun x28 => funext fun x29 => funext fun x30 => funext fun x31 => funext fun x32 => funext fun x33 => funext fun x34 => funext fun x35 => funext fun x36 => funext fun x37 => funext fun x38 => h x0 x1 x2 x3 x4 x5 x6 x7 x8 x9 x10 x11 x12 x13 x14 x15 x16 x17 x18 x19 x20 x21 x22 x23 x24 x25 x26 x27 x28 x29 x30 x31 x32 x33 x34 x35 x36 x37 x38
theorem fx40 {α0 α1 α2 α3 α4 α5 α6 α7 α8 α9 α10 α11 α12 α13 α14 α15 α16 α17 α18 α19 α20 α21 α22 α23 α24 α25 α26 α27 α28 α29 α30 α31 α32 α33 α34 α35 α36 α37 α38 α39 β : Type} {f g : α0 → α1 → α2 → α3 → α4 → α5 → α6 → α7 → α8 → α9 → α10 → α11 → α12 → α13 → α14 → α15 → α16 → α17 → α18 → α19 → α20 → α21 → α22 → α23 → α24 → α25 → α26 → α27 → α28 → α29 → α30 → α31 → α32 → α33 → α34 → α35 → α36 → α37 → α38 → α39 → β} (h : ∀ x0 x1 x2 x3 x4 x5 x6 x7 x8 x9 x10 x11 x12 x13 x14 x15 x16 x17 x18 x19 x20 x21 x22 x23 x24 x25 x26 x27 x28 x29 x30 x31 x32 x33 x34 x35 x36 x37 x38 x39, f x0 x1 x2 x3 x4 x5 x6 x7 x8 x9 x10 x11 x12 x13 x14 x15 x16 x17 x18 x19 x20 x21 x22 x23 x24 x25 x26 x27 x28 x29 x30 x31 x32 x33 x34 x35 x36 x37 x38 x39 = g x0 x1 x2 x3 x4 x5 x6 x7 x8 x9 x10 x11 x12 x13 x14 x15 x16 x17 x18 x19 x20 x21 x22 x23 x24 x25 x26 x27 x28 x29 x30 x31 x32 x33 x34 x35 x36 x37 x38 x39) : f = g := funext fun x0 => funext fun x1 => funext fun x2 => funext fun x3 => funext fun x4 => funext fun x5 => funext fun x6 => funext fun x7 => funext fun x8 => funext fun x9 => funext fun x10 => funext fun x11 => funext fun x12 => funext fun x13 => funext fun x14 => funext fun x15 => funext fun x16 => funext fun x17 => funext fun x18 => funext fun x19 => funext fun x20 => funext fun x21 => funext fun x22 => funext fun x23 => funext fun x24 => funext fun x25 => funext fun x26 => funext fun x27 => funext fun x28 => funext fun x29 => funext fun x30 => funext fun x31 => funext fun x32 => funext fun x33 => funext fun x34 => funext fun x35 => funext fun x36 => funext fun x37 => funext fun x38 => funext fun x39 => h x0 x1 x2 x3 x4 x5 x6 x7 x8 x9 x10 x11 x12 x13 x14 x15 x16 x17 x18 x19 x20 x21 x22 x23 x24 x25 x26 x27 x28 x29 x30 x31 x32 x33 x34 x35 x36 x37 x38 x39
def below {α : Type} (μ : α → Nat) (pre : α → Bool) (m : Nat) (X : α) : Bool := Nat.blt (μ X) m && pre X
theorem EntryOk.rec {P : Program} {f : Nat} {sig : Sig} {pre : Dat sig.ps → Bool} {val : Dat sig.ps → IoT sig.ps × Dat sig.rs} (μ : Dat sig.ps → Nat)
    (step : ∀ m, EntryOk P f ⟨sig, some (below μ pre m), val⟩ → EntryOk P f ⟨sig, some (below μ pre (m + 1)), val⟩) : EntryOk P f ⟨sig, some pre, val⟩ := by
  have all : ∀ m, EntryOk P f ⟨sig, some (below μ pre m), val⟩ := by
    intro m
    induction m with
    | zero =>
      intro w args L X y Y _ _ _ _ hG
      have : below μ pre 0 X = false := by simp [below]
      simp [Entry.G, preOk, this] at hG
    | succ m ih => exact step m ih
  intro w args L X y Y h1 h2 h3 h4 hG
  refine all (μ X + 1) w args L X y Y h1 h2 h3 h4 ?_
  have hp : pre X = true := by
    cases hp : pre X
    · simp [Entry.G, preOk, hp] at hG
    · rfl
  have hb : below μ pre (μ X + 1) X = true := by simp [below, hp]
  simp only [Entry.G, preOk, hp, hb] at hG ⊢
  exact hG
end Go.Fw
namespace Go.Fw
section
variable {ρ : Type} {N : Nat} {b : Bool} {x y : ρ}
theorem ct (h : b = true) : cond (lk N b) x y = x := by rw [lk_eq, h]; rfl
theorem cf (h : b = false) : cond (lk N b) x y = y := by rw [lk_eq, h]; rfl
theorem ct' (h : b = true) : cond b x y = x := by rw [h]; rfl
theorem cf' (h : b = false) : cond b x y = y := by rw [h]; rfl
end
theorem dt {p : Prop} [Decidable p] (h : p) : decide p = true := decide_eq_true h
theorem df {p : Prop} [Decidable p] (h : ¬ p) : decide p = false := decide_eq_false h
theorem nt {p : Prop} [Decidable p] (h : ¬ p) : (!(decide p)) = true := by simp [h]
theorem nf {p : Prop} [Decidable p] (h : p) : (!(decide p)) = false := by simp [h]
theorem maxLen_val : maxLen = 9223372036854775807 := rfl
theorem inB_nat {j m : Nat} (h : j < m) : inB (j : Int) m = true := by
  have : (j : Int) < m := by omega
  simp [inB, this]
theorem inB_int {i : Int} {m : Nat} (h0 : 0 ≤ i) (h1 : i < m) : inB i m = true := by simp [inB, h0, h1]
theorem w64_id {n : Int} (h0 : -9223372036854775808 ≤ n) (h1 : n < 9223372036854775808) : w64 n = n := by
  show (if (true && decide (n % 18446744073709551616 ≥ 9223372036854775808)) = true then n % 18446744073709551616 - 18446744073709551616 else n % 18446744073709551616) = n
  by_cases h : n % 18446744073709551616 ≥ 9223372036854775808
  · rw [if_pos (by simp [h])]; omega
  · rw [if_neg (by simp [h])]; omega
theorem w64_succ {j : Nat} (h : j < maxLen) : w64 ((j : Int) + 1) = ((j + 1 : Nat) : Int) := by
  rw [w64_id (by omega) (by rw [maxLen_val] at h; omega)]
  omega
theorem mx_eq (a b : Int) : mx a b = max a b := by unfold mx; omega
theorem mn_eq (a b : Int) : mn a b = min a b := by unfold mn; omega
theorem leB_t {a b : Int} (h : a ≤ b) : leB a b = true := by simp [leB, h]
end Go.Fw
namespace Go.Fw
theorem drop_getD {α : Type} {l : List α} {j : Nat} (d : α) (h : j < l.length) : l.drop j = l.getD j d :: l.drop (j + 1) := by
  rw [List.drop_eq_getElem_cons h, List.getD_eq_getElem?_getD, List.getElem?_eq_getElem h, Option.getD_some]
theorem take_getD {α : Type} {l : List α} {j : Nat} (d : α) (h : j < l.length) : l.take j ++ [l.getD j d] = l.take (j + 1) := by
  rw [List.take_add_one, List.getD_eq_getElem?_getD, List.getElem?_eq_getElem h]
  rfl
theorem getD_mem {α : Type} {l : List α} {j : Nat} (d : α) (h : j < l.length) : l.getD j d ∈ l := by
  rw [List.getD_eq_getElem?_getD, List.getElem?_eq_getElem h]
  exact List.getElem_mem h
theorem getD_set_self {α : Type} {l : List α} {j : Nat} {d x : α} (h : j < l.length) : (l.set j x).getD j d = x := by
  rw [List.getD_eq_getElem?_getD, List.getElem?_set_self h]
  rfl
theorem take_set_s {α : Type} {l : List α} {j : Nat} {x : α} (h : j < l.length) : (l.set j x).take (j + 1) = l.take j ++ [x] := by
  rw [List.take_add_one, List.getElem?_set_self h, List.take_set_of_le (Nat.le_refl _)]
  rfl
end Go.Fw
set_option linter.unusedSimpArgs false
namespace Go.Fw
open Go.RowKit
def fieldsTy (ok : Nat → Ty → Bool) (P : Program) : List Field → Ty → Nat → Bool
  | [f], ty, off => Nat.beq f.offset off && (Nat.beq (P.cellsOf f.type) ty.nc && ok f.type ty)
  | f :: g :: fs, .pair a b, off => (Nat.beq f.offset off && (Nat.beq (P.cellsOf f.type) a.nc && ok f.type a)) && fieldsTy ok P (g :: fs) b (off + a.nc)
  | _, _, _ => false
def tyOk (P : Program) : Nat → Nat → Ty → Bool
  | 0, _, _ => false
  | n + 1, t, ty => match P.underlying t, ty with
    | some .bool, .bool => true
    | some (.int k), .int k' => ikEq k k'
    | some .string, .str => true
    | some (.slice e), .sl e' ty' => Nat.beq e' e && (Nat.beq (P.cellsOf e) ty'.nc && tyOk P n e ty')
    | some (.struct fs), ty => Nat.beq (P.cellsOf t) ty.nc && fieldsTy (tyOk P n) P fs.toList ty 0
    | _, _ => false
def Ty.wfb : (t : Ty) → t.den → Bool
  | .int k, n => (Lit.int k n).wf
  | .bool, _ => true
  | .str, s => decide (s.size ≤ maxLen)
  | .fnc _, _ => false
  | .sl _ t, xs => xs.all t.wfb
  | .pair a b, x => a.wfb x.1 && b.wfb x.2
theorem flat_idx {α : Type} {m : Nat} (hm : 0 < m) : ∀ {css : List (List α)} {k : Nat} {u : α}, (∀ c ∈ css, c.length = m) → css.flatten[k]? = some u → ∃ i j c, i < css.length ∧ k = i * m + j ∧ css[i]? = some c ∧ c[j]? = some u
  | [], k, u, _, h => by simp at h
  | c :: css, k, u, hc, h => by
    have hl := hc c List.mem_cons_self
    rw [List.flatten_cons] at h
    by_cases hk : k < m
    · rw [List.getElem?_append_left (by omega)] at h
      exact ⟨0, k, c, by simp, by omega, rfl, h⟩
    · rw [List.getElem?_append_right (by omega), hl] at h
      obtain ⟨i, j, c', h1, h2, h3, h4⟩ := flat_idx hm (fun c h => hc c (List.mem_cons_of_mem _ h)) h
      refine ⟨i + 1, j, c', by simpa using h1, ?_, h3, h4⟩
      rw [Nat.add_mul]
      omega
section
variable {H : Type} {enc : TypeId × Value → H} {P : Program} {w : World}
theorem build_all {α : Type} {Q : Nat → List Value → α → Prop} : ∀ (n : Nat), (∀ i, i < n → ∃ c x, Q i c x) → ∃ (css : List (List Value)) (xs : List α), css.length = n ∧ xs.length = n ∧ ∀ i c x, css[i]? = some c → xs[i]? = some x → Q i c x := by
  intro n
  induction n with
  | zero => intro _; exact ⟨[], [], rfl, rfl, fun i c x h => by simp at h⟩
  | succ n ih =>
    intro h
    obtain ⟨css, xs, h1, h2, h3⟩ := ih fun i hi => h i (by omega)
    obtain ⟨c, x, hq⟩ := h n (by omega)
    refine ⟨css ++ [c], xs ++ [x], by simp [h1], by simp [h2], fun i c' x' hc hx => ?_⟩
    by_cases hi : i < n
    · rw [List.getElem?_append_left (by omega)] at hc hx
      exact h3 i c' x' hc hx
    · have hlt := (List.getElem?_eq_some_iff.1 hc).1
      have : i = n := by simp [h1] at hlt; omega
      subst this
      rw [List.getElem?_append_right (by omega), h1] at hc
      rw [List.getElem?_append_right (by omega), h2] at hx
      simp at hc hx
      subst hc hx
      exact hq
theorem all2_of {α β : Type} {R : α → β → Prop} : ∀ {as : List α} {bs : List β}, as.length = bs.length → (∀ (i : Nat) a b, as[i]? = some a → bs[i]? = some b → R a b) → All2 R as bs
  | [], [], _, _ => trivial
  | a :: as, b :: bs, hl, h => ⟨h 0 a b rfl rfl, all2_of (by simpa using hl) fun i a b ha hb => h (i + 1) a b (by simpa using ha) (by simpa using hb)⟩
  | [], _ :: _, hl, _ => by simp at hl
  | _ :: _, [], hl, _ => by simp at hl
theorem trod_rd : ∀ (n : Nat) {fuel t : Nat} {ty : Ty} {cs : List Value} {d : DataW H} {ps : List MemPlace}, tyOk P n t ty = true → DataW.trod enc P w 0 (fun _ => true) true fuel t cs = some (d, ps) →
    ∃ x : ty.den, Rd w (fun _ => True) ty cs x ∧ ty.wfb x = true := by
  intro n
  induction n with
  | zero => intro _ _ _ _ _ _ h; cases h
  | succ n ih =>
    have fields : ∀ {fuel : Nat} {cs : List Value} (fs : List Field) {ty : Ty} {off : Nat} (xs : List (DataW H × List MemPlace)), fieldsTy (tyOk P n) P fs ty off = true → cs.length = off + ty.nc →
        (∀ (i : Nat) (f : Field), fs[i]? = some f → DataW.trod enc P w 0 (fun _ => true) true fuel f.type ((cs.drop f.offset).take (P.cellsOf f.type)) = xs[i]?) → xs.length = fs.length →
        ∃ x : ty.den, Rd w (fun _ => True) ty (cs.drop off) x ∧ ty.wfb x = true := by
      intro fuel cs fs
      induction fs with
      | nil => intro ty off xs h; cases ty <;> cases h
      | cons f fs ihf =>
        intro ty off xs h hlen hx hxl
        cases fs with
        | nil =>
          simp only [fieldsTy, Bool.and_eq_true] at h
          obtain ⟨e1, e2, e3⟩ := h
          have e1 := Nat.eq_of_beq_eq_true e1
          have e2 := Nat.eq_of_beq_eq_true e2
          have h0 := hx 0 f rfl
          rw [e1, e2, List.take_of_length_le (by rw [List.length_drop]; omega)] at h0
          obtain ⟨⟨d, ps⟩, hd⟩ : ∃ y, xs[0]? = some y := ⟨xs[0]'(by rw [hxl]; simp), List.getElem?_eq_getElem _⟩
          rw [hd] at h0
          exact ih e3 h0
        | cons g fs =>
          cases ty with
          | pair a b =>
            simp only [fieldsTy, Bool.and_eq_true] at h
            obtain ⟨⟨e1, e2, e3⟩, e4⟩ := h
            have e1 := Nat.eq_of_beq_eq_true e1
            have e2 := Nat.eq_of_beq_eq_true e2
            have hlen : cs.length = off + (a.nc + b.nc) := hlen
            have h0 := hx 0 f rfl
            rw [e1, e2] at h0
            obtain ⟨⟨d, ps⟩, hd⟩ : ∃ y, xs[0]? = some y := ⟨xs[0]'(by rw [hxl]; simp), List.getElem?_eq_getElem _⟩
            rw [hd] at h0
            obtain ⟨x1, r1, w1⟩ := ih e3 h0
            cases xs with
            | nil => simp at hxl
            | cons x0 xs =>
              obtain ⟨x2, r2, w2⟩ := ihf (ty := b) (off := off + a.nc) xs e4 (by omega) (fun i f hf => by simpa using hx (i + 1) f (by simpa using hf)) (by simpa using hxl)
              refine ⟨(x1, x2), ⟨(cs.drop off).take a.nc, cs.drop (off + a.nc), ?_, r1, r2⟩, by simp [Ty.wfb, w1, w2]⟩
              rw [← List.drop_drop, List.take_append_drop]
          | _ => cases h
    intro fuel t ty cs d ps hok htr
    unfold tyOk at hok
    split at hok
    · rename_i hu
      obtain ⟨b, rfl, _⟩ := DataW.trod_bool hu htr
      exact ⟨b, rfl, rfl⟩
    · rename_i k k' hu
      obtain rfl := ikEq_eq hok
      obtain ⟨m, rfl, _, hw⟩ := DataW.trod_int hu htr
      exact ⟨m, rfl, hw⟩
    · rename_i hu
      obtain ⟨s, rfl, _, hs⟩ := DataW.trod_string hu htr
      exact ⟨s, rfl, by simp [Ty.wfb, hs]⟩
    · rename_i e e' ty' hu
      simp only [Bool.and_eq_true] at hok
      obtain ⟨e1, e2, e3⟩ := hok
      obtain rfl := Nat.eq_of_beq_eq_true e1
      have e2 := Nat.eq_of_beq_eq_true e2
      rcases DataW.trod_slice hu htr with ⟨rfl, _⟩ | ⟨a, len, cap, elems, rest, m, _, rfl, _, _, h1, h2, h3, h4, _⟩
      · exact ⟨[], ⟨none, 0, 0, rfl, rfl, Nat.le_refl _, Nat.zero_le _, .inl rfl⟩, rfl⟩
      · obtain ⟨css, xs, k1, k2, k3⟩ := build_all (Q := fun i c (x : ty'.den) => w.cells? 0 (a.add (i * ty'.nc)) ty'.nc = some c ∧ Rd w (fun _ => True) ty' c x ∧ ty'.wfb x = true) len (fun i hi => by
          have := h4 i hi
          rw [e2] at this
          obtain ⟨⟨d, ps⟩, hd⟩ : ∃ y, elems[i]? = some y := ⟨elems[i]'(by omega), List.getElem?_eq_getElem _⟩
          rw [hd] at this
          obtain ⟨c, hc, hc2⟩ := Option.bind_eq_some_iff.1 this
          obtain ⟨x, hx1, hx2⟩ := ih e3 hc2
          exact ⟨c, x, hc, hx1, hx2⟩)
        have hall : All2 (fun c (x : ty'.den) => Rd w (fun _ => True) ty' c x) css xs := all2_of (by omega) fun i c x hc hx => (k3 i c x hc hx).2.1
        refine ⟨xs, ⟨some a, len, cap, rfl, k2, h1, h2, .inr ⟨a, css, rfl, trivial, hall, fun k u hk => ?_⟩⟩, ?_⟩
        · obtain ⟨i, j, c, i1, rfl, i3, i4⟩ := flat_idx ty'.nc_pos (hall.fst (len := List.length) fun c x h => h.len) hk
          obtain ⟨x, hx⟩ : ∃ x, xs[i]? = some x := ⟨xs[i]'(by omega), List.getElem?_eq_getElem _⟩
          obtain ⟨q1, q2, _⟩ := k3 i c x i3 hx
          obtain ⟨_, q3, q4⟩ := World.cells?_some q1
          have hj : j < ty'.nc := by rw [← q3]; exact (List.getElem?_eq_some_iff.1 i4).1
          rw [← add_add, q4 j hj]
          exact i4
        · simp only [Ty.wfb, List.all_eq_true]
          intro x hx
          obtain ⟨i, hi, rfl⟩ := List.getElem_of_mem hx
          exact (k3 i (css[i]'(by omega)) xs[i] (List.getElem?_eq_getElem _) (List.getElem?_eq_getElem _)).2.2
    · rename_i ty fs hu
      simp only [Bool.and_eq_true] at hok
      obtain ⟨e1, e2⟩ := hok
      have e1 := Nat.eq_of_beq_eq_true e1
      obtain ⟨xs, m, _, _, h1, h2, h3⟩ := DataW.trod_struct hu htr
      have := fields (fuel := m) fs.toList xs e2 (by omega) (fun i f hf => h3 i f (by simpa using hf)) (by simpa using h2)
      simpa using this
    · cases hok
def structB (P : Program) (t : Nat) : Bool := match P.underlying t with
  | some (.struct _) => true
  | _ => false
def parOk (P : Program) : List Nat → List PT → Bool
  | [], [] => true
  | t :: ts, p :: ps => (!p.io && (tyOk P 20 t p.t && structB P t == p.agg)) && parOk P ts ps
  | _, _ => false
def datW : (ps : List PT) → Dat ps → Bool
  | [], _ => true
  | p :: ps, X => p.t.wfb X.1 && datW ps X.2
open Go.WideShapes in
theorem args_rd {base : Nat} : ∀ {ts : List Nat} {ps : List PT} {vs : List Value} {ds : List (DataW H)} {pl : List MemPlace}, parOk P ts ps = true → (∀ (j : Nat) t v, ts[j]? = some t → vs[j]? = some v → Value.okWide P w .any base t v) →
    DataW.TrodAll enc P w 0 (fun _ => true) true ts vs ds pl → ∃ X : Dat ps, ArgsOk w [] ps vs X ∧ datW ps X = true
  | [], [], [], _, _, _, _, _ => ⟨(), trivial, rfl⟩
  | t :: ts, p :: ps, v :: vs, [], _, _, _, hd => hd.elim
  | t :: ts, p :: ps, v :: vs, d :: ds, pl, hp, hv, hd => by
    obtain ⟨p1, p2, ⟨fuel, h1⟩, h2, _⟩ := hd
    simp only [parOk, Bool.and_eq_true, Bool.not_eq_true'] at hp
    obtain ⟨⟨hio, hty, hag⟩, hps⟩ := hp
    obtain ⟨X, x1, x2⟩ := args_rd hps (fun j t v ht hv' => hv (j + 1) t v (by simpa using ht) (by simpa using hv')) h2
    obtain ⟨x, r1, r2⟩ := trod_rd 20 hty h1
    have hw := hv 0 t v rfl rfl
    have hag : structB P t = p.agg := by simpa using hag
    refine ⟨(x, X), ⟨⟨v.cells.toList, ?_, ?_⟩, x1⟩, by simp [datW, r2, x2]⟩
    · rw [← hag]
      unfold structB
      have hty' := hty
      unfold tyOk at hty'
      split at hty'
      · rename_i hu _
        obtain ⟨b, rfl⟩ := okWide_bool hu hw
        rw [hu]; rfl
      · rename_i hu _
        obtain ⟨b, rfl⟩ := okWide_int hu hw
        rw [hu]; rfl
      · rename_i hu _
        obtain ⟨b, rfl⟩ := okWide_string hu hw
        rw [hu]; rfl
      · rename_i hu _
        obtain ⟨a, l, c, rfl⟩ := okWide_slice hu hw
        rw [hu]; rfl
      · rename_i hu
        obtain ⟨cs, rfl, _⟩ := okWide_struct hu hw
        rw [hu]; exact ⟨cs, rfl, rfl⟩
      · cases hty'
    · rw [hio]
      exact r1.mono fun k _ hk => by cases hk
  | [], _ :: _, _, _, _, h, _, _ => by cases h
  | _ :: _, [], _, _, _, h, _, _ => by cases h
  | [], [], _ :: _, [], _, _, _, h => h.elim
  | [], [], _ :: _, _ :: _, _, _, _, h => h.elim
  | _ :: _, _ :: _, [], [], _, _, _, h => h.elim
  | _ :: _, _ :: _, [], _ :: _, _, _, _, h => h.elim
theorem trodAll_below (hl : laidOutB P = true) {w' : World} (hb : Below w.heap.size w w') : ∀ {ts : List Nat} {vs : List Value} {ds : List (DataW H)} {pl : List MemPlace}, (ts.all fun t => P.readableRec t && decide (t < P.types.size)) = true →
    DataW.TrodAll enc P w 0 (fun _ => true) true ts vs ds pl → (∀ p ∈ pl, p.block < w.heap.size) → DataW.TrodAll enc P w' 0 (fun b => decide (b < w.heap.size)) true ts vs ds pl
  | [], [], [], _, _, h, _ => h
  | t :: ts, v :: vs, d :: ds, pl, hr, h, hlt => by
    obtain ⟨p, q, h1, h2, rfl⟩ := h
    simp only [List.all_cons, Bool.and_eq_true, decide_eq_true_eq] at hr
    exact ⟨p, q, Below.trod hl hr.1.1 hr.1.2 h1 hb fun x hx => hlt x (List.mem_append_left _ hx), trodAll_below hl hb hr.2 h2 fun x hx => hlt x (List.mem_append_right _ hx), rfl⟩
  | [], [], _ :: _, _, _, h, _ => h.elim
  | [], _ :: _, [], _, _, h, _ => h.elim
  | [], _ :: _, _ :: _, _, _, h, _ => h.elim
  | _ :: _, [], [], _, _, h, _ => h.elim
  | _ :: _, [], _ :: _, _, _, h, _ => h.elim
  | _ :: _, _ :: _, [], _, _, h, _ => h.elim
theorem trodAll_len {ts : List Nat} : ∀ {vs : List Value} {ds : List (DataW H)} {pl : List MemPlace} {base : Nat} {sp : Nat → Bool} {held : Bool}, DataW.TrodAll enc P w base sp held ts vs ds pl → ds.length = ts.length := by
  intro vs ds pl base sp held h
  exact (trodAll_length h).2
theorem calls_true {f : Nat} {fn : Func} {ps : List PT} {pre : Option (Dat ps → Bool)} {val : Dat ps → IoT ps × Dat [⟨.bool, false, false⟩]} (hE : EntryOk P f ⟨⟨ps, [⟨.bool, false, false⟩]⟩, pre, val⟩) (hf : P.funcs[f]? = some fn) (hb : fn.body.isSome = true) (hname : (fn.name == "runtime.NumGoroutine") = false)
    (hno : noIo ps = true) (hval : ∀ X, (val X).2 = (true, ())) {args : Array Value} {X : Dat ps} (hX : ArgsOk w [] ps args.toList X) (hp : preOk pre X = true) :
    Calls P f args w fun e w' => e = .returned (.bool true) ∧ Below w.heap.size w w' := by
  have hG : (Entry.G ⟨⟨ps, [⟨.bool, false, false⟩]⟩, pre, val⟩ X) = some (val X) := by
    show cond (preOk pre X) (some (val X)) none = _
    rw [hp]; rfl
  rcases hE w args [] X (val X).1 (val X).2 hX (fun _ => rfl) List.nodup_nil (fun k hk => by cases hk) hG with ⟨_, h⟩ | ⟨v, w', h, _⟩
  · refine h.mono ?_
    rintro e w' ⟨v, vs, L', Lr, rfl, A⟩
    have hr := A.res
    rw [hval X] at hr
    have hret := A.ret
    cases vs with
    | nil => exact hr.elim
    | cons u us => cases us with
      | cons _ _ =>
        obtain ⟨_, _, _, _, _, _, _, h⟩ := hr
        exact h.elim
      | nil =>
        obtain ⟨cs, L1, L2, _, hc, ho, _, _⟩ := hr
        obtain rfl : cs = [u] := hc
        obtain ⟨e1, _⟩ := ho
        injection e1 with e1
        subst e1
        obtain rfl : v = .bool true := hret
        exact ⟨rfl, A.os, A.tape, A.output, A.size, fun k hk => A.old k hk (by simp)⟩
  · exfalso
    have h1 : ¬ fn.name = "runtime.NumGoroutine" := by simpa using hname
    have h2 : ¬ fn.body = none := fun e => by rw [e] at hb; cases hb
    simp [callFunc, hf, h1, h2] at h
theorem row_true {f : Nat} {fn : Func} {ps : List PT} {pre : Option (Dat ps → Bool)} {val : Dat ps → IoT ps × Dat [⟨.bool, false, false⟩]} (hE : EntryOk P f ⟨⟨ps, [⟨.bool, false, false⟩]⟩, pre, val⟩) (hf : P.funcs[f]? = some fn) (hb : fn.body.isSome = true) (hname : (fn.name == "runtime.NumGoroutine") = false)
    (hno : noIo ps = true) (hval : ∀ X, (val X).2 = (true, ())) (hpre : ∀ X, datW ps X = true → preOk pre X = true) (hpar : parOk P fn.params.toList ps = true) (hl : laidOutB P = true) (hrd : (fn.params.toList.all fun t => P.readableRec t && decide (t < P.types.size)) = true)
    {bt : Nat} (hres : fn.resultTypes = #[bt]) (hbt : P.underlying bt = some .bool) {s : ChangeSpec} (hsv : s.vars = []) (hsf : ∀ (H : Type) (ds : List (DataW H)), ds.length = fn.params.toList.length → s.fn H ds = { results := [.lit (.bool true)], args := ds })
    (W : World) (base : Nat) (args : Array Value) (ds gs : List (DataW H)) (before : List MemPlace) (hval0 : ∀ (j : Nat) t v, fn.params[j]? = some t → args[j]? = some v → Value.okWide P W .any base t v)
    (hW : DataW.Whole enc P fn.params.toList s.vars false W args.toList ds gs before) :
    Calls P f args W fun e W' => ∃ v, e = .returned v ∧ s.post enc P fn false true false false W args v W' := by
  obtain ⟨p, q, hA, hV, hbf, hfz, hnd⟩ := id hW
  have hgs : gs = [] ∧ q = [] := by
    rw [hsv] at hV
    cases gs with
    | nil => exact ⟨rfl, hV⟩
    | cons _ _ => exact hV.elim
  obtain ⟨rfl, rfl⟩ := hgs
  obtain ⟨X, hX, hXw⟩ := args_rd hpar (fun j t v ht hv => hval0 j t v (by simpa using ht) (by simpa using hv)) hA
  refine (calls_true hE hf hb hname hno hval hX (hpre X hXw)).mono ?_
  rintro e W' ⟨rfl, bel⟩
  have hfn := hsf H (ds ++ []) (by rw [List.append_nil]; exact trodAll_len hA)
  refine ⟨_, rfl, ds, [], before, [], p, [], hW, ?_, ?_, ?_, bel.frame _, fun h => by cases h⟩
  · rw [hfn, hres]
    exact ChangeShapes.trodAll_mk1 (shut_bool hbt _)
  · rw [hfn]
    simp only [List.append_nil]
    exact trodAll_below hl bel hrd hA hA.lt
  · rw [hfn, hsv]
    rfl
end
end Go.Fw
