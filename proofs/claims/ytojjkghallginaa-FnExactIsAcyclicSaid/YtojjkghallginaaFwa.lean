/- The framework: what a symbolic run of the model's code tells, proved sound. Nothing is assumed. -/
import Derived.Below
import Derived.Maps.AppendAt
import Derived.Orders
import Derived.WalkKit
import Derived.Laws.MakeOwn
import Derived.Deep.OwnRows
import Derived.MapKept
set_option linter.unusedVariables false
namespace Go.Fw
open Go.RowKit
def All2 {α β : Type} (R : α → β → Prop) : List α → List β → Prop
 | [], [] => True
 | a :: as, b :: bs => R a b ∧ All2 R as bs
 | _, _ => False
def All3 {α β γ : Type} (R : α → β → γ → Prop) : List α → List β → List γ → Prop
 | [], [], [] => True
 | a :: as, b :: bs, c :: cs => R a b c ∧ All3 R as bs cs
 | _, _, _ => False
section
variable {α β γ : Type} {R R' : α → β → Prop} {Q Q' : α → β → γ → Prop}
theorem All2.len : ∀ {as : List α} {bs : List β}, All2 R as bs → as.length = bs.length
 | [], [], _ => rfl
 | _ :: _, _ :: _, h => congrArg (· + 1) h.2.len
theorem All2.imp (f : ∀ a b, R a b → R' a b) : ∀ {as : List α} {bs : List β}, All2 R as bs → All2 R' as bs
 | [], [], _ => trivial
 | _ :: _, _ :: _, h => ⟨f _ _ h.1, h.2.imp f⟩
theorem All2.app : ∀ {as as' : List α} {bs bs' : List β}, All2 R as bs → All2 R as' bs' → All2 R (as ++ as') (bs ++ bs')
 | [], _, [], _, _, h' => h'
 | _ :: _, _, _ :: _, _, h, h' => ⟨h.1, h.2.app h'⟩
theorem All2.get : ∀ {as : List α} {bs : List β}, All2 R as bs → ∀ {j : Nat} {b : β}, bs[j]? = some b → ∃ a, as[j]? = some a ∧ R a b
 | [], [], _, j, b, hb => by simp at hb
 | a :: _, _ :: _, h, 0, b, hb => ⟨a, rfl, by simp at hb; subst hb; exact h.1⟩
 | _ :: _, _ :: _, h, j + 1, b, hb => by simpa using h.2.get (by simpa using hb)
theorem All2.set : ∀ {as : List α} {bs : List β}, All2 R as bs → ∀ {j : Nat} {a : α} {b : β}, R a b → All2 R (as.set j a) (bs.set j b)
 | [], [], _, _, _, _, _ => trivial
 | _ :: _, _ :: _, h, 0, _, _, hr => ⟨hr, h.2⟩
 | _ :: _, _ :: _, h, j + 1, _, _, hr => ⟨h.1, h.2.set hr⟩
theorem All2.take : ∀ {as : List α} {bs : List β}, All2 R as bs → ∀ n, All2 R (as.take n) (bs.take n)
 | _, _, _, 0 => by simp only [List.take_zero]; trivial
 | [], [], _, _ + 1 => trivial
 | _ :: _, _ :: _, h, n + 1 => ⟨h.1, h.2.take n⟩
theorem All2.drop : ∀ {as : List α} {bs : List β}, All2 R as bs → ∀ n, All2 R (as.drop n) (bs.drop n)
 | _, _, h, 0 => h
 | [], [], _, _ + 1 => trivial
 | _ :: _, _ :: _, h, n + 1 => h.2.drop n
theorem All2.rep {a : α} {b : β} (h : R a b) : ∀ n, All2 R (List.replicate n a) (List.replicate n b)
 | 0 => trivial
 | n + 1 => ⟨h, All2.rep h n⟩
theorem All3.len1 : ∀ {as : List α} {bs : List β} {cs : List γ}, All3 Q as bs cs → as.length = cs.length
 | [], [], [], _ => rfl
 | _ :: _, _ :: _, _ :: _, h => congrArg (· + 1) h.2.len1
theorem All3.len2 : ∀ {as : List α} {bs : List β} {cs : List γ}, All3 Q as bs cs → bs.length = cs.length
 | [], [], [], _ => rfl
 | _ :: _, _ :: _, _ :: _, h => congrArg (· + 1) h.2.len2
theorem All3.imp (f : ∀ a b c, Q a b c → Q' a b c) : ∀ {as : List α} {bs : List β} {cs : List γ}, All3 Q as bs cs → All3 Q' as bs cs
 | [], [], [], _ => trivial
 | _ :: _, _ :: _, _ :: _, h => ⟨f _ _ _ h.1, h.2.imp f⟩
theorem All3.app : ∀ {as as' : List α} {bs bs' : List β} {cs cs' : List γ}, All3 Q as bs cs → All3 Q as' bs' cs' → All3 Q (as ++ as') (bs ++ bs') (cs ++ cs')
 | [], _, [], _, [], _, _, h' => h'
 | _ :: _, _, _ :: _, _, _ :: _, _, h, h' => ⟨h.1, h.2.app h'⟩
theorem All3.get : ∀ {as : List α} {bs : List β} {cs : List γ}, All3 Q as bs cs → ∀ {j : Nat} {c : γ}, cs[j]? = some c → ∃ a b, as[j]? = some a ∧ bs[j]? = some b ∧ Q a b c
 | [], [], [], _, j, c, hc => by simp at hc
 | a :: _, b :: _, _ :: _, h, 0, c, hc => ⟨a, b, rfl, rfl, by simp at hc; subst hc; exact h.1⟩
 | _ :: _, _ :: _, _ :: _, h, j + 1, c, hc => by simpa using h.2.get (by simpa using hc)
theorem All3.imp_mem : ∀ {as : List α} {bs : List β} {cs : List γ}, All3 Q as bs cs → (∀ a b c, a ∈ as → Q a b c → Q' a b c) → All3 Q' as bs cs
 | [], [], [], _, _ => trivial
 | _ :: _, _ :: _, _ :: _, h, f => ⟨f _ _ _ (by simp) h.1, h.2.imp_mem fun a b c ha => f a b c (by simp [ha])⟩
theorem all3_first {P : α → Prop} : ∀ {as : List α} {bs : List β} {cs : List γ}, All3 (fun a _ _ => P a) as bs cs → ∀ a ∈ as, P a
 | [], [], [], _, _, h => by simp at h
 | _ :: _, _ :: _, _ :: _, h, a, ha => by
  rcases List.mem_cons.1 ha with rfl | ha
  ·exact h.1
  ·exact all3_first h.2 a ha
theorem All3.two {R : β → γ → Prop} (f : ∀ a b c, Q a b c → R b c) : ∀ {as : List α} {bs : List β} {cs : List γ}, All3 Q as bs cs → All2 R bs cs
 | [], [], [], _ => trivial
 | _ :: _, _ :: _, _ :: _, h => ⟨f _ _ _ h.1, All3.two f h.2⟩
end
inductive Ty where
 | int (k : IntKind) | bool | str | err | fnc (g : Nat)
 | sl (e : Nat) (t : Ty)
 | pair (a b : Ty)
 deriving DecidableEq
abbrev Ty.den : Ty → Type
 | .int _ => Int
 | .bool => Bool
 | .fnc _ => Unit
 | .str => ByteArray
 | .err => Bool
 | .sl _ t => List t.den
 | .pair a b => a.den × b.den
def Ty.nc : Ty → Nat
 | .pair a b => a.nc + b.nc
 | _ => 1
theorem Ty.nc_pos : ∀ t : Ty, 0 < t.nc
 | .int _ => Nat.one_pos
 | .bool => Nat.one_pos
 | .fnc _ => Nat.one_pos
 | .str => Nat.one_pos
 | .err => Nat.one_pos
 | .sl _ _ => Nat.one_pos
 | .pair a b => Nat.lt_of_lt_of_le (Ty.nc_pos a) (Nat.le_add_right _ _)
def ErrV (v : Value) (b : Bool) : Prop := (v = .nilIface ∧ b = false) ∨ ∃ t p, v = .iface t p ∧ b = true
theorem ErrV.one {v : Value} {b : Bool} (h : ErrV v b) : v.oneCell' = true := by
 rcases h with ⟨rfl, _⟩ | ⟨t, p, rfl, _⟩ <;> rfl
def Rd (w : World) (S : Nat → Prop) : (t : Ty) → List Value → t.den → Prop
 | .int k, cs, x => cs = [.int k x]
 | .bool, cs, x => cs = [.bool x]
 | .fnc g, cs, _ => cs = [.func (.func g) #[] #[]]
 | .str, cs, x => cs = [.string x]
 | .err, cs, b => ∃ v, cs = [v] ∧ ErrV v b
 | .pair a b, cs, x => ∃ c1 c2 : List Value, cs = c1 ++ c2 ∧ Rd w S a c1 x.1 ∧ Rd w S b c2 x.2
 | .sl _ t, cs, x => ∃ (A : Option Addr) (n c : Nat), cs = [.slice A n c] ∧ x.length = n ∧ n ≤ c ∧ c ≤ maxLen ∧
   (n = 0 ∨ ∃ (ad : Addr) (css : List (List Value)), A = some ad ∧ S ad.block ∧ All2 (fun c y => Rd w S t c y) css x ∧
    ∀ (i : Nat) (u : Value), css.flatten[i]? = some u → w.cell? (ad.add i) = some u)
def Own (w : World) : (t : Ty) → List Nat → List Value → t.den → Prop
 | .int k, L, cs, x => cs = [.int k x] ∧ L = []
 | .bool, L, cs, x => cs = [.bool x] ∧ L = []
 | .fnc g, L, cs, _ => cs = [.func (.func g) #[] #[]] ∧ L = []
 | .str, L, cs, x => cs = [.string x] ∧ L = []
 | .err, L, cs, b => (∃ v, cs = [v] ∧ ErrV v b) ∧ L = []
 | .pair a b, L, cs, x => ∃ (c1 c2 : List Value) (L1 L2 : List Nat), cs = c1 ++ c2 ∧ L = L1 ++ L2 ∧ Own w a L1 c1 x.1 ∧ Own w b L2 c2 x.2
 | .sl e t, L, cs, x => ∃ (v : Value) (css : List (List Value)) (Ls : List (List Nat)), cs = [v] ∧ w.ownsRow 0 e t.nc v x.length css.flatten ∧
   L = v.ownBlock.toList ++ Ls.flatten ∧ All3 (fun l c y => Own w t l c y) Ls css x
theorem Rd.len {w : World} {S : Nat → Prop} : ∀ {t : Ty} {cs : List Value} {x : t.den}, Rd w S t cs x → cs.length = t.nc
 | .int _, _, _, h => by simp only [Rd] at h; subst h; rfl
 | .bool, _, _, h => by simp only [Rd] at h; subst h; rfl
 | .fnc _, _, _, h => by simp only [Rd] at h; subst h; rfl
 | .str, _, _, h => by simp only [Rd] at h; subst h; rfl
 | .err, _, _, h => by obtain ⟨v, rfl, _⟩ := h; rfl
 | .pair a b, _, _, h => by
  obtain ⟨c1, c2, rfl, h1, h2⟩ := h
  rw [List.length_append, h1.len, h2.len]; rfl
 | .sl _ _, _, _, h => by obtain ⟨A, n, c, rfl, _⟩ := h; rfl
theorem Own.len {w : World} : ∀ {t : Ty} {L : List Nat} {cs : List Value} {x : t.den}, Own w t L cs x → cs.length = t.nc
 | .int _, _, _, _, h => by simp only [Own] at h; obtain ⟨rfl, _⟩ := h; rfl
 | .bool, _, _, _, h => by simp only [Own] at h; obtain ⟨rfl, _⟩ := h; rfl
 | .fnc _, _, _, _, h => by simp only [Own] at h; obtain ⟨rfl, _⟩ := h; rfl
 | .str, _, _, _, h => by simp only [Own] at h; obtain ⟨rfl, _⟩ := h; rfl
 | .err, _, _, _, h => by obtain ⟨⟨v, rfl, _⟩, _⟩ := h; rfl
 | .pair a b, _, _, _, h => by
  obtain ⟨c1, c2, L1, L2, rfl, _, h1, h2⟩ := h
  rw [List.length_append, h1.len, h2.len]; rfl
 | .sl _ _, _, _, _, h => by obtain ⟨v, css, Ls, rfl, _⟩ := h; rfl
theorem Rd.one {w : World} {S : Nat → Prop} : ∀ {t : Ty} {cs : List Value} {x : t.den}, Rd w S t cs x → ∀ u ∈ cs, u.oneCell' = true
 | .int _, _, _, h, u, hu => by simp only [Rd] at h; subst h; simp at hu; subst hu; rfl
 | .bool, _, _, h, u, hu => by simp only [Rd] at h; subst h; simp at hu; subst hu; rfl
 | .fnc _, _, _, h, u, hu => by simp only [Rd] at h; subst h; simp at hu; subst hu; rfl
 | .str, _, _, h, u, hu => by simp only [Rd] at h; subst h; simp at hu; subst hu; rfl
 | .err, _, _, h, u, hu => by obtain ⟨v, rfl, h2⟩ := h; simp at hu; subst hu; exact h2.one
 | .pair a b, _, _, h, u, hu => by
  obtain ⟨c1, c2, rfl, h1, h2⟩ := h
  rcases List.mem_append.1 hu with hu | hu
  ·exact h1.one u hu
  ·exact h2.one u hu
 | .sl _ _, _, _, h, u, hu => by obtain ⟨A, n, c, rfl, _⟩ := h; simp at hu; subst hu; rfl
theorem ownsRow_slice {w : World} {base n : Nat} {e : TypeId} {size : Nat} {v : Value} {xs : List Value} (h : w.ownsRow base e size v n xs) : ∃ A c, v = .slice A n c ∧ n ≤ c ∧ c ≤ maxLen := by
 rcases h.2 with ⟨rfl, rfl⟩ | ⟨g, cap, cur, rfl, _, _, h1, h2, _⟩
 ·exact ⟨none, 0, rfl, Nat.le_refl _, Nat.zero_le _⟩
 ·exact ⟨_, cap, rfl, h1, h2⟩
theorem Own.one {w : World} : ∀ {t : Ty} {L : List Nat} {cs : List Value} {x : t.den}, Own w t L cs x → ∀ u ∈ cs, u.oneCell' = true
 | .int _, _, _, _, h, u, hu => by simp only [Own] at h; obtain ⟨rfl, _⟩ := h; simp at hu; subst hu; rfl
 | .bool, _, _, _, h, u, hu => by simp only [Own] at h; obtain ⟨rfl, _⟩ := h; simp at hu; subst hu; rfl
 | .fnc _, _, _, _, h, u, hu => by simp only [Own] at h; obtain ⟨rfl, _⟩ := h; simp at hu; subst hu; rfl
 | .str, _, _, _, h, u, hu => by simp only [Own] at h; obtain ⟨rfl, _⟩ := h; simp at hu; subst hu; rfl
 | .err, _, _, _, h, u, hu => by obtain ⟨⟨v, rfl, h2⟩, _⟩ := h; simp at hu; subst hu; exact h2.one
 | .pair a b, _, _, _, h, u, hu => by
  obtain ⟨c1, c2, L1, L2, rfl, _, h1, h2⟩ := h
  rcases List.mem_append.1 hu with hu | hu
  ·exact h1.one u hu
  ·exact h2.one u hu
 | .sl _ _, _, _, _, h, u, hu => by
  obtain ⟨v, css, Ls, rfl, ho, _⟩ := h
  obtain ⟨A, c, rfl, _⟩ := ownsRow_slice ho
  simp at hu; subst hu; rfl
theorem Rd.mono {w : World} {S S' : Nat → Prop} (hS : ∀ k, S k → S' k) : ∀ {t : Ty} {cs : List Value} {x : t.den}, Rd w S t cs x → Rd w S' t cs x
 | .int _, _, _, h => h
 | .bool, _, _, h => h
 | .fnc _, _, _, h => h
 | .str, _, _, h => h
 | .err, _, _, h => h
 | .pair a b, _, _, h => by
  obtain ⟨c1, c2, e, h1, h2⟩ := h
  exact ⟨c1, c2, e, h1.mono hS, h2.mono hS⟩
 | .sl _ _, _, _, h => by
  obtain ⟨A, n, c, e, h1, h2, h3, h4⟩ := h
  refine ⟨A, n, c, e, h1, h2, h3, h4.imp id ?_⟩
  rintro ⟨ad, css, e1, h5, h6, h7⟩
  exact ⟨ad, css, e1, hS _ h5, h6.imp fun _ _ h => h.mono hS, h7⟩
theorem Rd.frame {w w' : World} {S : Nat → Prop} (hS : ∀ k, S k → k < w.heap.size → w'.heap[k]? = w.heap[k]?) : ∀ {t : Ty} {cs : List Value} {x : t.den}, Rd w S t cs x → Rd w' S t cs x
 | .int _, _, _, h => h
 | .bool, _, _, h => h
 | .fnc _, _, _, h => h
 | .str, _, _, h => h
 | .err, _, _, h => h
 | .pair a b, _, _, h => by
  obtain ⟨c1, c2, e, h1, h2⟩ := h
  exact ⟨c1, c2, e, h1.frame hS, h2.frame hS⟩
 | .sl _ t, _, _, h => by
  obtain ⟨A, n, c, e, h1, h2, h3, h4⟩ := h
  refine ⟨A, n, c, e, h1, h2, h3, h4.imp id ?_⟩
  rintro ⟨ad, css, e1, h5, h6, h7⟩
  refine ⟨ad, css, e1, h5, h6.imp fun _ _ h => h.frame hS, fun i u hu => ?_⟩
  have hc := h7 i u hu
  have hb : (ad.add i).block = ad.block := by unfold Addr.add; split <;> rfl
  rw [World.cell?_of_block (w := w) (hS _ (by rw [hb]; exact h5) (World.block_lt_of_cell? w _ hc))]
  exact hc
theorem ownsRow_frame {w w' : World} {base n : Nat} {e : TypeId} {size : Nat} {v : Value} {xs : List Value} (hb : ∀ k, v.ownBlock = some k → w'.heap[k]? = w.heap[k]?) (h : w.ownsRow base e size v n xs) : w'.ownsRow base e size v n xs := by
 refine ⟨h.1, h.2.imp id ?_⟩
 rintro ⟨g, cap, cur, rfl, h1, h2, h3⟩
 exact ⟨g, cap, cur, rfl, h1, by rw [hb g rfl]; exact h2, h3⟩
theorem Own.frame {w w' : World} : ∀ {t : Ty} {L : List Nat} {cs : List Value} {x : t.den}, (∀ k ∈ L, w'.heap[k]? = w.heap[k]?) → Own w t L cs x → Own w' t L cs x
 | .int _, _, _, _, _, h => h
 | .bool, _, _, _, _, h => h
 | .fnc _, _, _, _, _, h => h
 | .str, _, _, _, _, h => h
 | .err, _, _, _, _, h => h
 | .pair a b, _, _, _, hS, h => by
  obtain ⟨c1, c2, L1, L2, e, rfl, h1, h2⟩ := h
  exact ⟨c1, c2, L1, L2, e, rfl, h1.frame fun k hk => hS k (List.mem_append.2 (.inl hk)), h2.frame fun k hk => hS k (List.mem_append.2 (.inr hk))⟩
 | .sl _ t, _, _, _, hS, h => by
  obtain ⟨v, css, Ls, e, h1, rfl, h2⟩ := h
  refine ⟨v, css, Ls, e, ownsRow_frame (fun k hk => hS k (List.mem_append.2 (.inl (by simp [hk])))) h1, rfl, ?_⟩
  exact h2.imp_mem fun l c y hl ho => ho.frame fun k hk => hS k (List.mem_append.2 (.inr (List.mem_flatten.2 ⟨l, hl, hk⟩)))
theorem Own.lt {w : World} : ∀ {t : Ty} {L : List Nat} {cs : List Value} {x : t.den}, Own w t L cs x → ∀ k ∈ L, k < w.heap.size
 | .int _, _, _, _, h, k, hk => by simp only [Own] at h; obtain ⟨_, rfl⟩ := h; simp at hk
 | .bool, _, _, _, h, k, hk => by simp only [Own] at h; obtain ⟨_, rfl⟩ := h; simp at hk
 | .fnc _, _, _, _, h, k, hk => by simp only [Own] at h; obtain ⟨_, rfl⟩ := h; simp at hk
 | .str, _, _, _, h, k, hk => by simp only [Own] at h; obtain ⟨_, rfl⟩ := h; simp at hk
 | .err, _, _, _, h, k, hk => by obtain ⟨_, rfl⟩ := h; simp at hk
 | .pair a b, _, _, _, h, k, hk => by
  obtain ⟨c1, c2, L1, L2, e, rfl, h1, h2⟩ := h
  rcases List.mem_append.1 hk with hk | hk
  ·exact h1.lt k hk
  ·exact h2.lt k hk
 | .sl _ t, _, _, x, h, k, hk => by
  obtain ⟨v, css, Ls, e, h1, rfl, h2⟩ := h
  rcases List.mem_append.1 hk with hk | hk
  ·exact (h1.lt k (by simpa using hk)).2
  ·obtain ⟨l, hl, hk⟩ := List.mem_flatten.1 hk
   have : All3 (fun (l : List Nat) (_ : List Value) (_ : t.den) => ∀ k ∈ l, k < w.heap.size) Ls css x := h2.imp fun _ _ _ ho => ho.lt
   exact all3_first this l hl k hk
theorem Own.rd {w : World} {S : Nat → Prop} : ∀ {t : Ty} {L : List Nat} {cs : List Value} {x : t.den}, Own w t L cs x → (∀ k ∈ L, S k) → Rd w S t cs x
 | .int _, _, _, _, h, _ => h.1
 | .bool, _, _, _, h, _ => h.1
 | .fnc _, _, _, _, h, _ => h.1
 | .str, _, _, _, h, _ => h.1
 | .err, _, _, _, h, _ => h.1
 | .pair a b, _, _, _, h, hS => by
  obtain ⟨c1, c2, L1, L2, e, rfl, h1, h2⟩ := h
  exact ⟨c1, c2, e, h1.rd fun k hk => hS k (List.mem_append.2 (.inl hk)), h2.rd fun k hk => hS k (List.mem_append.2 (.inr hk))⟩
 | .sl _ t, _, _, x, h, hS => by
  obtain ⟨v, css, Ls, rfl, h1, rfl, h2⟩ := h
  have h3 : All2 (fun c y => Rd w S t c y) css x := All3.two (R := fun c y => Rd w S t c y) (fun _ _ _ h => h) (h2.imp_mem (Q' := fun _ c y => Rd w S t c y) fun l c y hl ho => ho.rd fun k hk => hS k (List.mem_append.2 (.inr (List.mem_flatten.2 ⟨l, hl, hk⟩))))
  obtain ⟨A, c, rfl, hc1, hc2⟩ := ownsRow_slice h1
  refine ⟨A, _, c, rfl, rfl, hc1, hc2, ?_⟩
  rcases h1.2 with ⟨_, h0⟩ | ⟨g, cap, cur, e, _⟩
  ·exact .inl h0
  ·injection e with e1 e2 e3
   subst e1
   exact .inr ⟨⟨g, 0, none⟩, css, rfl, hS _ (List.mem_append.2 (.inl (by simp [Value.ownBlock]))), h3, h1.cells rfl⟩
end Go.Fw
namespace Go.Fw
open Go.RowKit
inductive Lab where
 | st | row (r : Nat) | inn (r : Nat) | box (b : Nat) | dead
 deriving DecidableEq
def labOf : Option Nat → Lab
 | none => .st
 | some r => .inn r
structure Row where
 e : Nat
 t : Ty
 xs : List t.den
 deep : Bool
 nilE : Bool
inductive Cell where
 | undef
 | int (k : IntKind) (n : Int)
 | bool (b : Bool)
 | str (s : ByteArray)
 | err (b : Bool)
 | nil
 | sn (e : Nat) (t : Ty) (xs : List t.den) (p : Option Nat)
 | full (e : Nat) (t : Ty) (xs : List t.den) (p : Option Nat)
 | own (r : Nat)
 | part (r : Nat) (lo n : Int)
 | box (b : Nat) (f : Nat)
 | elt (r : Nat) (i : Int) (f : Nat)
 | selt (t : Ty) (x : t.den) (p : Option Nat) (f : Nat)
 | fn (f : Nat) (caps : List (Nat × Nat))
 | bor (v : Value) (e : Nat) (t : Ty) (xs : List t.den)
 | mp (b : Nat)
 | mset (t : Ty) (xs : List t.den)
abbrev mapBase : Nat := 1000000000
def keyV : (t : Ty) → t.den → Value
 | .int k, x => .int k x
 | .str, s => .string s
 | .bool, b => .bool b
 | _, _ => undef
def keysV (l : List Value) : Value := .func (.func 0) l.toArray #[]
theorem keysV_inj {l l' : List Value} (h : keysV l = keysV l') : l = l' := by
 unfold keysV at h
 injection h with _ h _
 simpa using h
def BoxObj (te : Nat) (arr : Array Value) (o : Option Obj) : Prop :=
 (te < mapBase ∧ o = some (.cells arr te (0, 0))) ∨ (mapBase ≤ te ∧ ∃ es clock, o = some (.map es clock) ∧ arr.toList = [keysV (es.toList.map (·.key))] ∧ ∀ e ∈ es.toList, e.val = .bool true)
theorem BoxObj.cells {te : Nat} {arr : Array Value} {o : Option Obj} (h : BoxObj te arr o) (ht : te < mapBase) : o = some (.cells arr te (0, 0)) := by
 rcases h with h | h
 ·exact h.2
 ·omega
theorem BoxObj.map {te : Nat} {arr : Array Value} {o : Option Obj} (h : BoxObj te arr o) (ht : mapBase ≤ te) : ∃ es clock, o = some (.map es clock) ∧ arr.toList = [keysV (es.toList.map (·.key))] ∧ ∀ e ∈ es.toList, e.val = .bool true := by
 rcases h with h | h
 ·omega
 ·exact h.2
theorem BoxObj.lt {te k : Nat} {arr : Array Value} {w : World} (h : BoxObj te arr w.heap[k]?) : k < w.heap.size := by
 rcases h with ⟨_, h⟩ | ⟨_, es, clock, h, _⟩ <;> exact (Array.getElem?_eq_some_iff.1 h).1
inductive SV where
 | c (x : Cell)
 | agg (l : List Cell)
 | tup (l : List (Bool × List Cell))
structure St where
 slot : Nat → SV
 box : Nat → Option (Nat × List Cell)
 row : Nat → Option Row
structure Env where
 lab : Nat → Lab
 rv : Nat → Value
 bb : Nat → Nat
def upd {α : Type} (f : Nat → α) (k : Nat) (v : α) : Nat → α := fun j => cond (Nat.beq j k) v (f j)
theorem upd_same {α : Type} (f : Nat → α) (k : Nat) (v : α) : upd f k v k = v := by simp [upd]
theorem upd_ne {α : Type} (f : Nat → α) {k j : Nat} (v : α) (h : j ≠ k) : upd f k v j = f j := by
 unfold upd
 have : Nat.beq j k = false := by
  cases hb : Nat.beq j k
  ·rfl
  ·exact absurd (Nat.eq_of_beq_eq_true hb) h
 rw [this]; rfl
def CRel (σ : St) (E : Env) (w : World) : Cell → Value → Prop
 | .undef, _ => True
 | .int k n, v => v = .int k n
 | .bool b, v => v = .bool b
 | .str s, v => v = .string s
 | .err b, v => ErrV v b
 | .nil, v => v = .slice none 0 0
 | .sn e t xs p, v => Rd w (fun k => E.lab k = labOf p) (.sl e t) [v] xs
 | .full e t xs p, v => Rd w (fun k => E.lab k = labOf p) (.sl e t) [v] xs ∧ ∃ A, v = .slice A xs.length xs.length
 | .own r, v => v = E.rv r ∧ (σ.row r).isSome = true ∧ ∃ (A : Option Addr) (n c : Nat), v = .slice A n c
 | .part r lo n, v => ∃ row A c, σ.row r = some row ∧ 0 ≤ lo ∧ 0 ≤ n ∧ lo + n ≤ row.xs.length ∧ v = .slice A n.toNat c ∧ n.toNat ≤ c ∧ c ≤ maxLen ∧
   (0 < n → ∃ g m d, E.rv r = .slice (some ⟨g, 0, none⟩) m d ∧ A = some ⟨g, lo.toNat * row.t.nc, none⟩)
 | .box b f, v => v = .pointer (some ⟨E.bb b, f, none⟩) ∧ ∃ te cs, σ.box b = some (te, cs) ∧ f < cs.length
 | .elt r i f, v => ∃ row g n c, σ.row r = some row ∧ E.rv r = .slice (some ⟨g, 0, none⟩) n c ∧ 0 ≤ i ∧ i < row.xs.length ∧ f < row.t.nc ∧ v = .pointer (some ⟨g, i.toNat * row.t.nc + f, none⟩)
 | .selt t x p f, v => ∃ (ad : Addr) (cs : List Value), v = .pointer (some (ad.add f)) ∧ f < t.nc ∧ E.lab ad.block = labOf p ∧ Rd w (fun k => E.lab k = labOf p) t cs x ∧ ∀ (j : Nat) (u : Value), cs[j]? = some u → w.cell? (ad.add j) = some u
 | .fn f caps, v => v = .func (.func f) #[] (caps.map fun p => Value.pointer (some ⟨E.bb p.1, p.2, none⟩)).toArray ∧ ∀ p ∈ caps, ∃ te cs, σ.box p.1 = some (te, cs) ∧ p.2 < cs.length
 | .bor v0 e t xs, v => v = v0 ∧ Rd w (fun k => E.lab k = .st) (.sl e t) [v] xs
 | .mp b, v => v = .map (some (E.bb b)) ∧ ∃ te cs, σ.box b = some (te, cs)
 | .mset t xs, v => v = keysV (xs.map (keyV t))
def Cell.weak : Cell → Cell
 | .bor _ e t xs => .sn e t xs none
 | c => c
theorem CRel.weak {σ : St} {E : Env} {w : World} : ∀ {c : Cell} {v : Value}, CRel σ E w c v → CRel σ E w c.weak v
 | .bor _ _ _ _, _, h => h.2
 | .undef, _, h => h
 | .int _ _, _, h => h
 | .bool _, _, h => h
 | .str _, _, h => h
 | .err _, _, h => h
 | .nil, _, h => h
 | .sn _ _ _ _, _, h => h
 | .full _ _ _ _, _, h => h
 | .own _, _, h => h
 | .part _ _ _, _, h => h
 | .box _ _, _, h => h
 | .elt _ _ _, _, h => h
 | .selt _ _ _ _, _, h => h
 | .fn _ _, _, h => h
 | .mp _, _, h => h
 | .mset _ _, _, h => h
theorem All2.weak {σ : St} {E : Env} {w : World} : ∀ {cs : List Cell} {vs : List Value}, All2 (CRel σ E w) cs vs → All2 (CRel σ E w) (cs.map Cell.weak) vs
 | [], [], _ => trivial
 | _ :: _, _ :: _, h => ⟨h.1.weak, All2.weak h.2⟩
def SRel (σ : St) (E : Env) (w : World) : SV → Value → Prop
 | .c x, v => CRel σ E w x v
 | .agg l, v => ∃ arr : Array Value, v = .agg arr ∧ All2 (CRel σ E w) l arr.toList
 | .tup l, v => ∃ arr : Array Value, v = .tuple arr ∧ All2 (fun (p : Bool × List Cell) u => cond p.1 (∃ ar : Array Value, u = .agg ar ∧ All2 (CRel σ E w) p.2 ar.toList) (All2 (CRel σ E w) p.2 [u])) l arr.toList
def RowRel (w : World) (lab : Nat → Lab) (r : Nat) (row : Row) (v : Value) : Prop :=
 ∃ css : List (List Value), w.ownsRow 0 row.e row.t.nc v row.xs.length css.flatten ∧ (∀ k, v.ownBlock = some k → lab k = .row r) ∧
  cond row.deep (∃ Ls : List (List Nat), All3 (fun l c y => Own w row.t l c y) Ls css row.xs ∧ Ls.flatten.Nodup ∧ ∀ k ∈ Ls.flatten, lab k = .inn r)
   (All2 (fun c y => Rd w (fun k => lab k = .st) row.t c y) css row.xs) ∧
  (row.nilE = true → row.xs.length = 0 → v = .slice none 0 0)
def BoxRel (σ : St) (E : Env) (w : World) (b : Nat) (te : Nat) (cs : List Cell) : Prop :=
 ∃ arr : Array Value, BoxObj te arr w.heap[E.bb b]? ∧ E.lab (E.bb b) = .box b ∧ All2 (CRel σ E w) cs arr.toList ∧ ∀ u ∈ arr.toList, u.oneCell' = true
structure Same0 (w0 : World) (lab0 : Nat → Lab) (lab : Nat → Lab) (w : World) : Prop where
 os : w.os = w0.os
 tape : w.tape = w0.tape
 output : w.output = w0.output
 size : w0.heap.size ≤ w.heap.size
 old : ∀ k, k < w0.heap.size → lab0 k = .st → lab k = .st ∧ w.heap[k]? = w0.heap[k]?
def valAt (oo : Nat → Value) (a : Act) (t : Nat) : Value := if t < 100000 then a.tmps.getD t undef else oo t
structure R (w0 : World) (lab0 : Nat → Lab) (oo : Nat → Value) (n : Nat) (σ : St) (E : Env) (a : Act) (w : World) : Prop where
 bound : n ≤ 100000
 size : a.tmps.size = n
 defers : a.defers = []
 slots : ∀ t, SRel σ E w (σ.slot t) (valAt oo a t)
 boxes : ∀ b te cs, σ.box b = some (te, cs) → BoxRel σ E w b te cs
 rows : ∀ r row, σ.row r = some row → RowRel w E.lab r row (E.rv r)
 same : Same0 w0 lab0 E.lab w
section
variable {σ σ' : St} {E E' : Env} {w w' : World}
structure Moves (σ : St) (E : Env) (w : World) (σ' : St) (E' : Env) (w' : World) : Prop where
 row : ∀ r row, σ.row r = some row → ∃ row', σ'.row r = some row' ∧ E'.rv r = E.rv r ∧ row'.t.nc = row.t.nc ∧ row.xs.length ≤ row'.xs.length
 box : ∀ b te cs, σ.box b = some (te, cs) → ∃ te' cs', σ'.box b = some (te', cs') ∧ E'.bb b = E.bb b ∧ cs'.length = cs.length
 cell : ∀ (p : Option Nat) (ad : Addr) (u : Value), E.lab ad.block = labOf p → w.cell? ad = some u → E'.lab ad.block = labOf p ∧ w'.cell? ad = some u
 rd : ∀ (p : Option Nat) (t : Ty) (cs : List Value) (x : t.den), Rd w (fun k => E.lab k = labOf p) t cs x → Rd w' (fun k => E'.lab k = labOf p) t cs x
theorem CRel.move (m : Moves σ E w σ' E' w') : ∀ {c : Cell} {v : Value}, CRel σ E w c v → CRel σ' E' w' c v
 | .undef, _, _ => trivial
 | .int _ _, _, h => h
 | .bool _, _, h => h
 | .str _, _, h => h
 | .err _, _, h => h
 | .nil, _, h => h
 | .bor v0 e t xs, v, h => ⟨h.1, m.rd none _ _ _ h.2⟩
 | .sn e t xs p, v, h => m.rd p _ _ _ h
 | .full e t xs p, v, h => ⟨m.rd p _ _ _ h.1, h.2⟩
 | .own r, v, h => by
  obtain ⟨rfl, h, hv⟩ := h
  obtain ⟨row, hr⟩ := Option.isSome_iff_exists.1 h
  obtain ⟨row', h1, h2, _⟩ := m.row r row hr
  exact ⟨h2.symm, by rw [h1]; rfl, hv⟩
 | .part r lo n, v, h => by
  obtain ⟨row, A, c, h1, h2, h3, h4, h5, h6, h7, h8⟩ := h
  obtain ⟨row', g1, g2, g3, g4⟩ := m.row r row h1
  refine ⟨row', A, c, g1, h2, h3, by omega, h5, h6, h7, fun hn => ?_⟩
  rw [g2, g3]
  exact h8 hn
 | .box b f, v, h => by
  obtain ⟨rfl, te, cs, h1, h2⟩ := h
  obtain ⟨te', cs', g1, g2, g3⟩ := m.box b te cs h1
  exact ⟨by rw [g2], te', cs', g1, by omega⟩
 | .elt r i f, v, h => by
  obtain ⟨row, g, n, c, h1, h2, h3, h4, h5, h6⟩ := h
  obtain ⟨row', g1, g2, g3, g4⟩ := m.row r row h1
  exact ⟨row', g, n, c, g1, by rw [g2]; exact h2, h3, by omega, by rw [g3]; exact h5, by rw [g3]; exact h6⟩
 | .selt t x p f, v, h => by
  obtain ⟨ad, cs, h1, h2, h3, h4, h5⟩ := h
  have h0 : 0 < cs.length := by rw [h4.len]; exact t.nc_pos
  have hc := m.cell p (ad.add 0) _ (by simpa [Addr.add] using h3) (h5 0 cs[0] (by simp))
  refine ⟨ad, cs, h1, h2, by simpa [Addr.add] using hc.1, m.rd p _ _ _ h4, fun j u hu => ?_⟩
  have hb : (ad.add j).block = ad.block := by unfold Addr.add; split <;> rfl
  exact (m.cell p (ad.add j) u (by rw [hb]; exact h3) (h5 j u hu)).2
 | .fn f caps, v, h => by
  obtain ⟨rfl, h⟩ := h
  refine ⟨?_, fun p hp => ?_⟩
  ·congr 2
   refine List.map_congr_left fun p hp => ?_
   obtain ⟨te, cs, h1, _⟩ := h p hp
   obtain ⟨_, _, _, g2, _⟩ := m.box _ _ _ h1
   rw [g2]
  ·obtain ⟨te, cs, h1, h2⟩ := h p hp
   obtain ⟨te', cs', g1, _, g3⟩ := m.box _ _ _ h1
   exact ⟨te', cs', g1, by omega⟩
 | .mp b, v, h => by
  obtain ⟨rfl, te, cs, h1⟩ := h
  obtain ⟨te', cs', g1, g2, _⟩ := m.box b te cs h1
  exact ⟨by rw [g2], te', cs', g1⟩
 | .mset _ _, _, h => h
theorem SRel.move (m : Moves σ E w σ' E' w') : ∀ {s : SV} {v : Value}, SRel σ E w s v → SRel σ' E' w' s v
 | .c _, _, h => CRel.move m h
 | .agg l, _, h => by
  obtain ⟨arr, e, h⟩ := h
  exact ⟨arr, e, h.imp fun _ _ h => h.move m⟩
 | .tup l, _, h => by
  obtain ⟨arr, e, h⟩ := h
  refine ⟨arr, e, h.imp fun p u h => ?_⟩
  rcases p with ⟨b, l⟩
  cases b
  ·exact All2.imp (fun _ _ h => h.move m) (show All2 (CRel σ E w) l [u] from h)
  ·obtain ⟨ar, e, h⟩ : ∃ ar : Array Value, u = .agg ar ∧ All2 (CRel σ E w) l ar.toList := h
   exact (⟨ar, e, h.imp fun _ _ h => h.move m⟩ : ∃ ar : Array Value, u = .agg ar ∧ All2 (CRel σ' E' w') l ar.toList)
theorem Moves.same (hr : σ'.row = σ.row) (hb : σ'.box = σ.box) : Moves σ E w σ' E w :=
 ⟨fun r row h => ⟨row, by rw [hr]; exact h, rfl, rfl, Nat.le_refl _⟩, fun b te cs h => ⟨te, cs, by rw [hb]; exact h, rfl, rfl⟩, fun _ _ _ h1 h2 => ⟨h1, h2⟩, fun _ _ _ _ h => h⟩
end
def St.put (σ : St) (d : Nat) (s : SV) : St := { σ with slot := upd σ.slot d s }
section
variable {w0 : World} {lab0 : Nat → Lab} {oo : Nat → Value} {n : Nat} {σ : St} {E : Env} {a : Act} {w : World}
theorem getD_set (ts : Array Value) (d t : Nat) (v : Value) (h : d < ts.size) : (ts.setIfInBounds d v).getD t undef = if t = d then v else ts.getD t undef := by
 simp only [Array.getD_eq_getD_getElem?, Array.getElem?_setIfInBounds]
 by_cases e : d = t
 ·subst e; simp [h]
 ·rw [if_neg e, if_neg (Ne.symm e)]
theorem R.put (h : R w0 lab0 oo n σ E a w) {d : Nat} {s : SV} {v : Value} (hd : d < n) (hs : SRel σ E w s v) : R w0 lab0 oo n (σ.put d s) E (a.put (some d) v) w := by
 have m : Moves σ E w (σ.put d s) E w := Moves.same rfl rfl
 have hb := h.bound
 refine ⟨h.bound, by simpa [Act.put] using h.size, h.defers, fun t => ?_, fun b te cs hb => ?_, h.rows, h.same⟩
 ·have hv : valAt oo (a.put (some d) v) t = if t = d then v else valAt oo a t := by
   unfold valAt
   simp only [Act.put]
   rw [getD_set _ _ _ _ (by rw [h.size]; exact hd)]
   by_cases e : t = d
   ·subst e
    rw [if_pos rfl, if_pos rfl, if_pos (by omega)]
   ·rw [if_neg e, if_neg e]
  rw [hv]
  by_cases e : t = d
  ·subst e
   rw [if_pos rfl]
   show SRel _ _ _ (upd σ.slot t s t) v
   rw [upd_same]
   exact hs.move m
  ·rw [if_neg e]
   show SRel _ _ _ (upd σ.slot d s t) _
   rw [upd_ne _ _ e]
   exact (h.slots t).move m
 ·obtain ⟨arr, h1, h2, h3, h4⟩ := h.boxes b te cs hb
  exact ⟨arr, h1, h2, h3.imp fun _ _ h => h.move m, h4⟩
theorem R.put' (h : R w0 lab0 oo n σ E a w) : R w0 lab0 oo n σ E (a.put none undef) w := h
end
end Go.Fw
namespace Go.Fw
open Go.RowKit
structure TI where
 agg : Bool
 ty : Ty
 zero : List Cell
 fields : List (Nat × Nat × Bool)
 el : Option Nat
 bytes : Nat
abbrev Tab := Nat → Option TI
def zc : Cell → Value → Bool
 | .int k n, .int k' n' => (decide (k = k')) && decide (n = n')
 | .bool b, .bool b' => b == b'
 | .str s, .string s' => Nat.beq s.size 0 && Nat.beq s'.size 0
 | .nil, .slice none 0 0 => true
 | .err b, .nilIface => !b
 | .undef, _ => true
 | _, _ => false
def zcs : List Cell → List Value → Bool
 | [], [] => true
 | c :: cs, v :: vs => zc c v && (v.oneCell' && zcs cs vs)
 | _, _ => false
def isRowD : TypeDesc → Bool
 | .struct _ | .array _ _ => true
 | _ => false
def fieldsOk (P : Program) : List Field → List (Nat × Nat × Bool) → Bool
 | [], [] => true
 | f :: fs, g :: gs => Nat.beq f.offset g.1 && (Nat.blt 0 g.2.1 && (match P.info? f.type, P.underlying f.type with | some i, some d => Nat.beq i.size g.2.1 && (isRowD d == g.2.2) | _, _ => false)) && fieldsOk P fs gs
 | _, _ => false
def mapTy (P : Program) (k e : Nat) : Ty → Bool
 | .pair kt (.sl 0 .bool) => (match P.underlying k, kt with
  | some (.int q), .int q' => decide (q = q')
  | some .string, .str => true
  | _, _ => false) && (match P.info? e with
  | some i => (match i.zero with | some (.bool false) => true | _ => false)
  | none => false)
 | .pair _ .bool => true
 | _ => false
def descOk (P : Program) (i : TI) : TypeDesc → Bool
 | .struct fs => i.agg && (i.el.isNone && fieldsOk P fs.toList i.fields)
 | .slice e => !i.agg && (i.fields.isEmpty && (match i.el with | some e' => Nat.beq e e' | none => false))
 | .int k => !i.agg && (i.fields.isEmpty && (i.el.isNone && decide (i.ty = .int k)))
 | .bool => !i.agg && (i.fields.isEmpty && (i.el.isNone && decide (i.ty = .bool)))
 | .string => !i.agg && (i.fields.isEmpty && (i.el.isNone && decide (i.ty = .str)))
 | .interface _ => !i.agg && (i.fields.isEmpty && (i.el.isNone && decide (i.ty = .err)))
 | .array _ _ => false
 | .map k e => !i.agg && (i.fields.isEmpty && (i.el.isNone && mapTy P k e i.ty))
 | _ => !i.agg && (i.fields.isEmpty && (i.el.isNone && (match i.ty with | .pair _ .bool => true | _ => false)))
def chkTI (P : Program) (t : Nat) (i : TI) : Bool :=
 match P.info? t, P.underlying t with
 | some inf, some d =>
  Nat.beq inf.size i.zero.length && (Nat.beq inf.bytes i.bytes && ((match inf.zero with | some z => zcs i.zero z.cells.toList && ((match z with | .agg _ => true | _ => false) == i.agg) | none => false) && descOk P i d))
 | _, _ => false
def TOk (P : Program) (T : Tab) : Prop := ∀ t i, T t = some i → chkTI P t i = true
def lookTab : List (Nat × TI) → Tab
 | [], _ => none
 | (k, i) :: l, t => cond (Nat.beq t k) (some i) (lookTab l t)
theorem TOk.of {P : Program} {l : List (Nat × TI)} (h : (l.all fun p => chkTI P p.1 p.2) = true) : TOk P (lookTab l) := by
 intro t i hi
 induction l with
 | nil => cases hi
 | cons p l ih =>
  obtain ⟨k, j⟩ := p
  simp only [List.all_cons, Bool.and_eq_true] at h
  unfold lookTab at hi
  cases hb : Nat.beq t k
  ·rw [hb] at hi; exact ih h.2 hi
  ·rw [hb] at hi
   obtain rfl := Nat.eq_of_beq_eq_true hb
   injection hi with hi
   subst hi
   exact h.1
inductive Out : Type 1 where
 | fail
 | ok (σ : St)
 | chk (c : Bool) (o : Out)
 | br (b : Bool) (o1 o2 : Out)
 | call {β : Type} (x : Option β) (f : β → Out)
def Out.run : Out → Option St
 | .fail => none
 | .ok σ => some σ
 | .chk c o => cond c o.run none
 | .br b o1 o2 => cond b o1.run o2.run
 | .call x f => x.bind fun b => (f b).run
def Out.k {ρ : Type} : Out → (St → Option ρ) → Option ρ
 | .fail, _ => none
 | .ok σ, K => K σ
 | .chk c o, K => cond c (o.k K) none
 | .br b o1 o2, K => cond b (o1.k K) (o2.k K)
 | .call x f, K => x.bind fun b => (f b).k K
theorem Out.k_run {ρ : Type} {K : St → Option ρ} {r : ρ} : ∀ {o : Out}, o.k K = some r → ∃ σ', o.run = some σ' ∧ K σ' = some r
 | .fail, h => by cases h
 | .ok σ, h => ⟨σ, rfl, h⟩
 | .chk c o, h => by
  cases c
  ·cases h
  ·exact Out.k_run (o := o) h
 | .br b o1 o2, h => by
  cases b
  ·exact Out.k_run (o := o2) h
  ·exact Out.k_run (o := o1) h
 | .call x f, h => by
  obtain ⟨b, rfl, hb⟩ := Option.bind_eq_some_iff.1 h
  obtain ⟨σ', h1, h2⟩ := Out.k_run (o := f b) hb
  exact ⟨σ', h1, h2⟩
def Ty.dflt : (t : Ty) → t.den
 | .int _ => (0 : Int)
 | .bool => false
 | .fnc _ => ()
 | .str => ByteArray.empty
 | .err => false
 | .sl _ _ => []
 | .pair a b => (a.dflt, b.dflt)
def Ty.flat : Ty → Bool
 | .sl _ _ => false
 | .pair a b => a.flat && b.flat
 | _ => true
def bt (s : ByteArray) (i : Int) : Int := ((s.data.getD i.toNat 0).toNat : Int)
def strEq (a b : ByteArray) : Bool := a.toList == b.toList
def strLt (a b : ByteArray) : Bool := Op.bytesLess a.toList b.toList
def ikEq : IntKind → IntKind → Bool
 | .i8, .i8 | .i16, .i16 | .i32, .i32 | .i64, .i64 | .u8, .u8 | .u16, .u16 | .u32, .u32 | .u64, .u64 => true
 | _, _ => false
def bitOp (op : BinOp) (k : IntKind) (x y : Int) : Int :=
 match op with
 | .and => k.wrap (BitVec.ofInt k.bits x &&& BitVec.ofInt k.bits y).toNat
 | .or => k.wrap (BitVec.ofInt k.bits x ||| BitVec.ofInt k.bits y).toNat
 | .xor => k.wrap (BitVec.ofInt k.bits x ^^^ BitVec.ofInt k.bits y).toNat
 | _ => k.wrap (BitVec.ofInt k.bits x &&& ~~~BitVec.ofInt k.bits y).toNat
def mx (x y : Int) : Int := if y > x then y else x
def mn (x y : Int) : Int := if y < x then y else x
def castT (t t' : Ty) (x : t.den) : Option t'.den := if h : t = t' then some (h ▸ x) else none
def castL (t t' : Ty) (x : List t.den) : Option (List t'.den) := if h : t = t' then some (h ▸ x) else none
def unpack : (t : Ty) → t.den → Option Nat → List Cell
 | .int k, x, _ => [.int k x]
 | .bool, x, _ => [.bool x]
 | .fnc g, _, _ => [.fn g []]
 | .str, x, _ => [.str x]
 | .err, x, _ => [.err x]
 | .sl e t, x, p => [.sn e t x p]
 | .pair a b, x, p => unpack a x.1 p ++ unpack b x.2 p
def pairO {α β : Type} : Option α → Option β → Option (α × β)
 | some x, some y => some (x, y)
 | _, _ => none
def packI (k : IntKind) : List Cell → Option Int
 | [.int k' n] => cond (ikEq k k') (some n) none
 | _ => none
def packB : List Cell → Option Bool
 | [.bool b] => some b
 | _ => none
def packF (g : Nat) : List Cell → Option Unit
 | [.fn g' []] => cond (Nat.beq g' g) (some ()) none
 | _ => none
def packT : List Cell → Option ByteArray
 | [.str s] => some s
 | _ => none
def packE : List Cell → Option Bool
 | [.err b] => some b
 | _ => none
def packLD (look : Nat → Option Row) (e : Nat) (t : Ty) : List Cell → Option (List t.den)
 | [.nil] => some []
 | [.own r] => match look r with
  | some row => cond (Nat.beq row.e e && row.deep) (castL row.t t row.xs) none
  | none => none
 | _ => none
def packLS (e : Nat) (t : Ty) : List Cell → Option (List t.den)
 | [.nil] => some []
 | [.sn e' t' xs none] => cond (Nat.beq e' e) (castL t' t xs) none
 | _ => none
def packD (look : Nat → Option Row) : (t : Ty) → List Cell → Option t.den
 | .int k, cs => packI k cs
 | .bool, cs => packB cs
 | .fnc g, cs => packF g cs
 | .str, cs => packT cs
 | .err, cs => packE cs
 | .sl e t, cs => packLD look e t cs
 | .pair a b, cs => pairO (packD look a (cs.take a.nc)) (packD look b (cs.drop a.nc))
def packS : (t : Ty) → List Cell → Option t.den
 | .int k, cs => packI k cs
 | .bool, cs => packB cs
 | .fnc g, cs => packF g cs
 | .str, cs => packT cs
 | .err, cs => packE cs
 | .sl e t, cs => packLS e t cs
 | .pair a b, cs => pairO (packS a (cs.take a.nc)) (packS b (cs.drop a.nc))
def setf : (t : Ty) → t.den → Nat → Cell → Option t.den
 | .int k, _, f, c => cond (Nat.beq f 0) (packI k [c]) none
 | .bool, _, f, c => cond (Nat.beq f 0) (packB [c]) none
 | .fnc _, _, _, _ => none
 | .str, _, f, c => cond (Nat.beq f 0) (packT [c]) none
 | .err, _, _, _ => none
 | .sl _ _, _, _, _ => none
 | .pair a b, x, f, c => cond (Nat.blt f a.nc) (match setf a x.1 f c with | some y => some (y, x.2) | none => none) (match setf b x.2 (f - a.nc) c with | some y => some (x.1, y) | none => none)
def SV.map (f : Cell → Cell) : SV → SV
 | .c x => .c (f x)
 | .agg l => .agg (l.map f)
 | .tup l => .tup (l.map fun p => (p.1, p.2.map f))
def St.mapc (σ : St) (f : Cell → Cell) : St :=
 { slot := fun t => (σ.slot t).map f, box := fun b => match σ.box b with | some (te, cs) => some (te, cs.map f) | none => none, row := σ.row }
def killRow (r : Nat) : Cell → Cell
 | .own q => cond (Nat.beq q r) .undef (.own q)
 | .part q lo n => cond (Nat.beq q r) .undef (.part q lo n)
 | .elt q i f => cond (Nat.beq q r) .undef (.elt q i f)
 | c => c
def intoRow (r : Nat) (row : Row) (p : Option Nat) : Cell → Cell
 | .own q => cond (Nat.beq q r) (.sn row.e row.t row.xs p) (.own q)
 | .part q lo n => cond (Nat.beq q r) .undef (.part q lo n)
 | .elt q i f => cond (Nat.beq q r) .undef (.elt q i f)
 | .sn e t xs (some q) => .sn e t xs (cond (Nat.beq q r) p (some q))
 | .full e t xs (some q) => .full e t xs (cond (Nat.beq q r) p (some q))
 | .selt t x (some q) f => .selt t x (cond (Nat.beq q r) p (some q)) f
 | c => c
def constSV : Value → SV
 | .int k n => .c (.int k n)
 | .bool b => .c (.bool b)
 | .string s => .c (.str s)
 | .slice none 0 0 => .c .nil
 | .func (.func f) first captured => cond (Nat.beq first.size 0 && Nat.beq captured.size 0) (.c (.fn f [])) (.c .undef)
 | _ => .c .undef
def ev (σ : St) : Operand → SV
 | .tmp t => cond (Nat.blt t 100000) (σ.slot t) (.c .undef)
 | .const v => constSV v
 | .func f => .c (.fn f [])
 | .global _ => .c .undef
def SV.cells : SV → Option (List Cell)
 | .c .undef => none
 | .c x => some [x]
 | .agg l => some l
 | .tup _ => none
def rowName (d j : Nat) : Nat := d * 8 + j
def newBox (σ : St) (d te : Nat) (cs : List Cell) : Out :=
 match σ.box d with
 | none => cond (Nat.blt te mapBase) (.ok { slot := upd σ.slot d (.c (.box d 0)), box := upd σ.box d (some (te, cs)), row := σ.row }) .fail
 | some _ => .fail
def newRow (σ : St) (d : Nat) (row : Row) : Out :=
 match σ.row (rowName d 0) with
 | none => .ok { slot := upd σ.slot d (.c (.own (rowName d 0))), box := σ.box, row := upd σ.row (rowName d 0) (some row) }
 | some _ => .fail
def over : List Cell → Nat → List Cell → List Cell
 | cs, _, [] => cs
 | cs, f, x :: xs => over (cs.set f x) (f + 1) xs
def ownsIn : List Cell → List Nat
 | [] => []
 | .own r :: cs => r :: ownsIn cs
 | _ :: cs => ownsIn cs
def absorb (q : Nat) (p : Option Nat) (σ : St) : Option St := match σ.row q with
 | some row => cond (row.deep || p.isNone) (some { (σ.mapc (intoRow q row p)) with row := upd σ.row q none }) none
 | none => none
def absorbs (p : Option Nat) : List Nat → St → Option St
 | [], σ => some σ
 | q :: qs, σ => match absorb q p σ with
  | some σ' => absorbs p qs σ'
  | none => none
def aBinI (op : BinOp) (k : IntKind) (a b : Int) : Option (Bool × Cell) :=
 match op with
 | .add => some (true, .int k (k.wrap (a + b)))
 | .sub => some (true, .int k (k.wrap (a - b)))
 | .mul => some (true, .int k (k.wrap (a * b)))
 | .quo => some (!(decide (b = 0)), .int k (k.wrap (a.tdiv b)))
 | .rem => some (!(decide (b = 0)), .int k (a.tmod b))
 | .and => some (true, .int k (bitOp .and k a b))
 | .or => some (true, .int k (bitOp .or k a b))
 | .xor => some (true, .int k (bitOp .xor k a b))
 | .eql => some (true, .bool (decide (a = b)))
 | .neq => some (true, .bool (!(decide (a = b))))
 | .lss => some (true, .bool (decide (a < b)))
 | .leq => some (true, .bool (decide (a ≤ b)))
 | .gtr => some (true, .bool (decide (b < a)))
 | .geq => some (true, .bool (decide (b ≤ a)))
 | _ => none
def aBinS (op : BinOp) (a b : ByteArray) : Option (Bool × Cell) :=
 match op with
 | .add => some (Nat.blt (a.size + b.size) 4611686018427387904, .str (a ++ b))
 | .eql => some (true, .bool (strEq a b))
 | .neq => some (true, .bool (!(strEq a b)))
 | .lss => some (true, .bool (strLt a b))
 | .leq => some (true, .bool (strLt a b || strEq a b))
 | .gtr => some (true, .bool (!(strLt a b || strEq a b)))
 | .geq => some (true, .bool (!(strLt a b)))
 | _ => none
def aShift (op : BinOp) (k : IntKind) (a b : Int) : Option (Bool × Cell) :=
 match op with
 | .shl => some (decide (0 ≤ b), .int k (k.wrap (a * 2 ^ (min b.toNat k.bits))))
 | .shr => some (decide (0 ≤ b), .int k (a.fdiv (2 ^ (min b.toNat k.bits))))
 | _ => none
def isShift : BinOp → Bool
 | .shl | .shr => true
 | _ => false
def aBin (op : BinOp) (x y : Cell) : Option (Bool × Cell) :=
 match x, y with
 | .int k a, .int k' b => cond (isShift op) (aShift op k a b) (cond (ikEq k k') (aBinI op k a b) none)
 | .str a, .str b => aBinS op a b
 | _, _ => none
def aEq (σ : St) (ti : TI) (x y : Cell) : Option (Bool × Bool) :=
 match x, y with
 | .bool a, .bool b => cond (decide (ti.ty = .bool) && (!ti.agg && ti.el.isNone)) (some (true, a == b)) none
 | .nil, .nil => cond ti.el.isSome (some (true, true)) none
 | .sn _ _ xs _, .nil => cond ti.el.isSome (some (decide (0 < xs.length), false)) none
 | .own r, .nil => match σ.row r with
  | some row => cond ti.el.isSome (cond row.nilE (some (true, decide (row.xs.length = 0))) (some (decide (0 < row.xs.length), false))) none
  | none => none
 | _, _ => none
def aUn (op : UnOp) (x : Cell) : Option Cell :=
 match op, x with
 | .not, .bool b => some (.bool (!b))
 | .neg, .int k n => some (.int k (k.wrap (0 - n)))
 | _, _ => none
def aIndexAddr0 (σ : St) (e sz : Nat) (x i : Cell) : Option (Bool × Cell) :=
 match x, i with
 | .sn e' t xs p, .int _ n => cond (Nat.beq t.nc sz) (some (decide (0 ≤ n) && decide (n < (xs.length : Int)), .selt t (xs.getD n.toNat t.dflt) p 0)) none
 | .full e' t xs p, .int _ n => cond (Nat.beq t.nc sz) (some (decide (0 ≤ n) && decide (n < (xs.length : Int)), .selt t (xs.getD n.toNat t.dflt) p 0)) none
 | .own r, .int _ n => match σ.row r with
  | some row => cond (Nat.beq row.t.nc sz) (some (decide (0 ≤ n) && decide (n < (row.xs.length : Int)), .elt r n 0)) none
  | none => none
 | .part r lo m, .int _ n => match σ.row r with
  | some row => cond (Nat.beq row.t.nc sz) (some (decide (0 ≤ n) && decide (n < m), .elt r (lo + n) 0)) none
  | none => none
 | _, _ => none
def aIndexAddr (σ : St) (e sz : Nat) (x i : Cell) : Option (Bool × Cell) := aIndexAddr0 σ e sz x.weak i
def aField (σ : St) (c : Cell) (off : Nat) : Option Cell :=
 match c with
 | .box b f => match σ.box b with
  | some (_, cs) => cond (Nat.blt (f + off) cs.length) (some (.box b (f + off))) none
  | none => none
 | .elt r i f => match σ.row r with
  | some row => cond (Nat.blt (f + off) row.t.nc) (some (.elt r i (f + off))) none
  | none => none
 | .selt t x p f => cond (Nat.blt (f + off) t.nc) (some (.selt t x p (f + off))) none
 | _ => none
def aLoad (σ : St) (c : Cell) (n : Nat) : Option (List Cell) :=
 match c with
 | .box b f => match σ.box b with
  | some (te, cs) => cond (Nat.blt te mapBase && Nat.ble (f + n) cs.length) (some (((cs.drop f).take n).map Cell.weak)) none
  | none => none
 | .elt r i f => match σ.row r with
  | some row => cond (Nat.ble (f + n) row.t.nc) (some (((unpack row.t (row.xs.getD i.toNat row.t.dflt) (cond row.deep (some r) none)).drop f).take n)) none
  | none => none
 | .selt t x p f => cond (Nat.ble (f + n) t.nc) (some (((unpack t x p).drop f).take n)) none
 | _ => none
def aLoadV (σ : St) (c : Cell) (agg : Bool) (n : Nat) : Option SV :=
 match aLoad σ c n with
 | some cs => cond agg (some (.agg cs)) (match cs with | [x] => some (.c x) | _ => none)
 | none => none
def aStoreBox (σ : St) (b f : Nat) (vs : List Cell) : Option St :=
 match σ.box b with
 | some (te, cs) => cond (Nat.blt te mapBase && Nat.ble (f + vs.length) cs.length) (some { σ with box := upd σ.box b (some (te, cs.take f ++ vs ++ cs.drop (f + vs.length))) }) none
 | none => none
def overL {α : Type} (c : List α) (f : Nat) (us : List α) : List α := c.take f ++ us ++ c.drop (f + us.length)
def fillA (place : Nat → Option (Nat × Nat)) : List Cell → List (Nat × List Cell) → Option (List Cell)
 | cs, [] => some cs
 | cs, (i, vs) :: rest => match place i with
  | some (off, sz) => cond (Nat.beq vs.length sz && Nat.ble (off + vs.length) cs.length) (fillA place (overL cs off vs) rest) none
  | none => none
def partsOf (σ : St) : List (Nat × Operand) → Option (List (Nat × List Cell))
 | [] => some []
 | (i, x) :: rest => match (ev σ x).cells, partsOf σ rest with
  | some cs, some ps => some ((i, cs) :: ps)
  | _, _ => none
def chunks {α : Type} (m : Nat) : Nat → List α → List (List α)
 | 0, _ => []
 | n + 1, l => l.take m :: chunks m n (l.drop m)
def packDs (look : Nat → Option Row) (t : Ty) : List (List Cell) → Option (List t.den)
 | [] => some []
 | c :: cs => match packD look t c, packDs look t cs with
  | some y, some ys => some (y :: ys)
  | _, _ => none
def packSs (t : Ty) : List (List Cell) → Option (List t.den)
 | [] => some []
 | c :: cs => match packS t c, packSs t cs with
  | some y, some ys => some (y :: ys)
  | _, _ => none
def memB : Nat → List Nat → Bool
 | _, [] => false
 | x, y :: ys => Nat.beq x y || memB x ys
def nodupB : List Nat → Bool
 | [] => true
 | x :: xs => !(memB x xs) && nodupB xs
end Go.Fw
namespace Go.Fw
open Go.RowKit
theorem ikEq_eq : ∀ {k k' : IntKind}, ikEq k k' = true → k = k' := by
 intro k k' h
 cases k <;> cases k' <;> first | rfl | cases h
section
variable {P : Program} {σ : St} {E : Env} {w : World}
theorem aBinI_sound {op : BinOp} {k : IntKind} {a b : Int} {c : Bool} {z : Cell} (h : aBinI op k a b = some (c, z)) (hc : c = true) (t : TypeId) :
  ∃ v, (binOp op t (.int k a) (.int k b)).run P w = .ok v w ∧ CRel σ E w z v := by
 subst hc
 cases op <;> simp only [aBinI, Option.some.injEq, Prod.mk.injEq, reduceCtorEq, Bool.not_eq_true', decide_eq_false_iff_not, true_and] at h
 case quo => obtain ⟨hb, rfl⟩ := h; exact ⟨_, by simp [binOp, Op.intDiv, hb], rfl⟩
 case rem => obtain ⟨hb, rfl⟩ := h; exact ⟨_, by simp [binOp, Op.intDiv, hb], rfl⟩
 all_goals first
  | (subst h; refine ⟨_, (by simp [binOp, Op.intArith, Op.intCmp, Op.intBits]; rfl), ?_⟩; simp [CRel, bitOp] <;> rfl)
  | skip
theorem aShift_sound {op : BinOp} {k k' : IntKind} {a b : Int} {c : Bool} {z : Cell} (h : aShift op k a b = some (c, z)) (hc : c = true) (t : TypeId) :
  ∃ v, (binOp op t (.int k a) (.int k' b)).run P w = .ok v w ∧ CRel σ E w z v := by
 subst hc
 cases op <;> simp only [aShift, Option.some.injEq, Prod.mk.injEq, reduceCtorEq, decide_eq_true_eq] at h
 all_goals
  obtain ⟨hb, rfl⟩ := h
  have hb' : ¬ b < 0 := by omega
  exact ⟨_, by simp [binOp, Op.shift, hb'], rfl⟩
theorem aBinS_sound {op : BinOp} {a b : ByteArray} {c : Bool} {z : Cell} (h : aBinS op a b = some (c, z)) (hc : c = true) (t : TypeId) :
  ∃ v, (binOp op t (.string a) (.string b)).run P w = .ok v w ∧ CRel σ E w z v := by
 subst hc
 cases op <;> simp only [aBinS, Option.some.injEq, Prod.mk.injEq, reduceCtorEq, true_and] at h
 case add =>
  obtain ⟨hb, rfl⟩ := h
  have hb : a.size + b.size < 4611686018427387904 := by simpa using hb
  have hb' : ¬ (((a.size + b.size : Nat) : Int) > IntKind.i64.max) := by simp [IntKind.max, IntKind.bits, IntKind.signed]; omega
  refine ⟨_, ?_, rfl⟩
  simp only [binOp, Op.stringOp]
  rw [if_neg hb']
  rfl
 all_goals (subst h; exact ⟨_, by simp [binOp, Op.stringOp]; rfl, rfl⟩)
theorem aBin_sound {op : BinOp} {x y : Cell} {vx vy : Value} {c : Bool} {z : Cell} (h : aBin op x y = some (c, z)) (hc : c = true) (hx : CRel σ E w x vx) (hy : CRel σ E w y vy) (t : TypeId) :
  ∃ v, (binOp op t vx vy).run P w = .ok v w ∧ CRel σ E w z v := by
 unfold aBin at h
 split at h
 ·rename_i k a k' b
  obtain rfl : vx = _ := hx
  obtain rfl : vy = _ := hy
  cases hs : isShift op
  ·rw [hs] at h
   simp only [cond_false] at h
   cases hk : ikEq k k'
   ·rw [hk] at h; cases h
   ·rw [hk] at h
    obtain rfl := ikEq_eq hk
    exact aBinI_sound h hc t
  ·rw [hs] at h
   exact aShift_sound h hc t
 ·obtain rfl : vx = _ := hx
  obtain rfl : vy = _ := hy
  exact aBinS_sound h hc t
 ·cases h
theorem run_eqGuard {op : BinOp} {t : TypeId} {x y : Operand} {a b : Value} (h1 : ∀ u, a ≠ .agg u) (h2 : a ≠ .nilIface) : (eqGuard op t x y a b).run P w = .ok () w := by
 cases a
 case agg => exact absurd rfl (h1 _)
 case nilIface => exact absurd rfl h2
 all_goals (cases op <;> rfl)
theorem CRel.plain {c : Cell} {v : Value} (hc : c ≠ .undef) (hE : ∀ b, c ≠ .err b) (h : CRel σ E w c v) : (∀ u, v ≠ .agg u) ∧ v ≠ .nilIface := by
 cases c with
 | undef => exact absurd rfl hc
 | err b => exact absurd rfl (hE b)
 | sn e t xs p => obtain ⟨A, n, c, hv, _⟩ := h; injection hv with hv; subst hv; exact ⟨fun _ h => (by cases h), fun h => (by cases h)⟩
 | full e t xs p => obtain ⟨_, A, rfl⟩ := h; exact ⟨fun _ h => (by cases h), fun h => (by cases h)⟩
 | part r lo n => obtain ⟨row, A, c, _, _, _, _, rfl, _⟩ := h; exact ⟨fun _ h => (by cases h), fun h => (by cases h)⟩
 | box b f => obtain ⟨rfl, _⟩ := h; exact ⟨fun _ h => (by cases h), fun h => (by cases h)⟩
 | elt r i f => obtain ⟨row, g, n, c, _, _, _, _, _, rfl⟩ := h; exact ⟨fun _ h => (by cases h), fun h => (by cases h)⟩
 | selt t x p f => obtain ⟨ad, cs, rfl, _⟩ := h; exact ⟨fun _ h => (by cases h), fun h => (by cases h)⟩
 | fn f caps => obtain ⟨rfl, _⟩ := h; exact ⟨fun _ h => (by cases h), fun h => (by cases h)⟩
 | own r => obtain ⟨_, _, A, n, c, rfl⟩ := h; exact ⟨fun _ h => (by cases h), fun h => (by cases h)⟩
 | bor v0 e t xs => obtain ⟨_, A, n, c, hv, _⟩ := h; injection hv with hv; subst hv; exact ⟨fun _ h => (by cases h), fun h => (by cases h)⟩
 | mp b => obtain ⟨rfl, _⟩ := h; exact ⟨fun _ h => (by cases h), fun h => (by cases h)⟩
 | _ => obtain rfl : v = _ := h; exact ⟨fun _ h => (by cases h), fun h => (by cases h)⟩
theorem CRel.noagg {c : Cell} {v : Value} (hc : c ≠ .undef) (h : CRel σ E w c v) : ∀ u, v ≠ .agg u := by
 by_cases hE : ∃ b, c = .err b
 ·obtain ⟨b, rfl⟩ := hE
  rcases h with ⟨rfl, _⟩ | ⟨t, p, rfl, _⟩ <;> exact fun _ h => by cases h
 ·exact (CRel.plain hc (fun b e => hE ⟨b, e⟩) h).1
theorem aUn_sound {op : UnOp} {x z : Cell} {vx : Value} (h : aUn op x = some z) (hx : CRel σ E w x vx) : ∃ v, (Op.unary op vx).run P w = .ok v w ∧ CRel σ E w z v := by
 unfold aUn at h
 split at h
 ·obtain rfl : vx = _ := hx
  injection h with h; subst h
  exact ⟨_, by simp [Op.unary], rfl⟩
 ·obtain rfl : vx = _ := hx
  injection h with h; subst h
  exact ⟨_, by simp [Op.unary, Op.intArith], rfl⟩
 ·cases h
theorem chk_all {T : Tab} (hT : TOk P T) {t : Nat} {i : TI} (hi : T t = some i) : ∃ inf d z, P.info? t = some inf ∧ P.underlying t = some d ∧ inf.size = i.zero.length ∧ inf.bytes = i.bytes ∧ inf.zero = some z ∧ zcs i.zero z.cells.toList = true ∧ (match z with | .agg _ => true | _ => false) = i.agg ∧ descOk P i d = true := by
 have h := hT t i hi
 unfold chkTI at h
 split at h
 ·rename_i inf d h1 h2
  simp only [Bool.and_eq_true] at h
  obtain ⟨g1, g2, g3, g4⟩ := h
  split at g3
  ·rename_i z hz
   simp only [Bool.and_eq_true, beq_iff_eq] at g3
   exact ⟨inf, d, z, h1, h2, Nat.eq_of_beq_eq_true g1, Nat.eq_of_beq_eq_true g2, hz, g3.1, g3.2, g4⟩
  ·cases g3
 ·cases h
theorem chk_slice {T : Tab} (hT : TOk P T) {t e : Nat} {i : TI} (hi : T t = some i) (he : i.el = some e) : P.underlying t = some (.slice e) := by
 obtain ⟨inf, d, z, h1, h2, _, _, _, _, _, g⟩ := chk_all hT hi
 cases d <;> simp only [descOk, he, Bool.and_eq_true, Option.isNone_some, Bool.false_eq_true, false_and, and_false] at g
 obtain ⟨_, _, g⟩ := g
 obtain rfl := Nat.eq_of_beq_eq_true g
 exact h2
theorem chk_agg {T : Tab} (hT : TOk P T) {t : Nat} {i : TI} (hi : T t = some i) (w : World) : (isAgg t).run P w = .ok i.agg w := by
 obtain ⟨inf, d, z, h1, h2, _, _, _, _, _, g⟩ := chk_all hT hi
 unfold isAgg
 rw [Sem.run_bind, run_underlying h2]
 cases d <;> simp only [descOk, Bool.and_eq_true, Bool.not_eq_true', Bool.false_eq_true] at g <;> simp [g.1]
theorem chk_size {T : Tab} (hT : TOk P T) {t : Nat} {i : TI} (hi : T t = some i) (w : World) : (sizeOf t).run P w = .ok i.zero.length w := by
 obtain ⟨inf, d, z, h1, _, h2, _⟩ := chk_all hT hi
 simp [sizeOf, typeInfo, h1, h2]
theorem fields_key {off n : Nat} {ag : Bool} : ∀ (l : List Field) (gs : List (Nat × Nat × Bool)) (f : Nat), fieldsOk P l gs = true → gs[f]? = some (off, n, ag) →
  ∃ fd, l[f]? = some fd ∧ fd.offset = off ∧ 0 < n ∧ ∀ w, (sizeOf fd.type).run P w = .ok n w ∧ (isAgg fd.type).run P w = .ok ag w
 | [], [], _, _, hg => by simp at hg
 | [], _ :: _, _, h, _ => by simp [fieldsOk] at h
 | _ :: _, [], _, _, hg => by simp at hg
 | x :: l, g :: gs, f, h, hg => by
  simp only [fieldsOk, Bool.and_eq_true] at h
  cases f with
  | succ f => exact fields_key l gs f h.2 (by simpa using hg)
  | zero =>
   simp only [List.getElem?_cons_zero, Option.some.injEq] at hg
   subst hg
   obtain ⟨⟨k1, k2, k3⟩, _⟩ := h
   split at k3
   ·rename_i i' d' e1 e2
    simp only [Bool.and_eq_true, beq_iff_eq] at k3
    have k31 : i'.size = n := Nat.eq_of_beq_eq_true k3.1
    refine ⟨x, rfl, Nat.eq_of_beq_eq_true k1, by simpa [Nat.blt_eq] using k2, fun w => ⟨by simp [sizeOf, typeInfo, e1, k31], ?_⟩⟩
    unfold isAgg
    rw [Sem.run_bind, run_underlying e2]
    have := k3.2
    cases d' <;> simp_all [isRowD]
   ·cases k3
theorem chk_field {T : Tab} (hT : TOk P T) {t f off n : Nat} {ag : Bool} {i : TI} (hi : T t = some i) (hf : i.fields[f]? = some (off, n, ag)) :
  ∃ fs fd, P.underlying t = some (.struct fs) ∧ fs[f]? = some fd ∧ fd.offset = off ∧ 0 < n ∧ ∀ w, (sizeOf fd.type).run P w = .ok n w ∧ (isAgg fd.type).run P w = .ok ag w := by
 obtain ⟨inf, d, z, h1, h2, _, _, _, _, _, g⟩ := chk_all hT hi
 cases d with
 | struct fs =>
  simp only [descOk, Bool.and_eq_true] at g
  obtain ⟨fd, k1, k2⟩ := fields_key fs.toList i.fields f g.2.2 hf
  exact ⟨fs, fd, h2, by simpa using k1, k2⟩
 | array _ _ => simp [descOk] at g
 | _ =>
  simp only [descOk, Bool.and_eq_true] at g
  have := g.2.1
  cases hq : i.fields with
  | nil => simp [hq] at hf
  | cons a b => simp [hq] at this
theorem constSV_rel (v : Value) : SRel σ E w (constSV v) v := by
 unfold constSV
 split
 ·exact rfl
 ·exact rfl
 ·exact rfl
 ·exact rfl
 ·rename_i f first captured
  cases h : (Nat.beq first.size 0 && Nat.beq captured.size 0)
  ·exact trivial
  ·simp only [Bool.and_eq_true] at h
   have h1 : first = #[] := Array.eq_empty_of_size_eq_zero (Nat.eq_of_beq_eq_true h.1)
   have h2 : captured = #[] := Array.eq_empty_of_size_eq_zero (Nat.eq_of_beq_eq_true h.2)
   subst h1 h2
   exact ⟨rfl, fun p hp => by simp at hp⟩
 ·exact trivial
theorem ev_rel {w0 : World} {lab0 : Nat → Lab} {oo : Nat → Value} {n : Nat} {a : Act} (h : R w0 lab0 oo n σ E a w) (x : Operand) : SRel σ E w (ev σ x) (a.eval x) := by
 cases x with
 | tmp t =>
  have hs := h.slots t
  simp only [ev]
  cases hb : Nat.blt t 100000
  ·trivial
  ·have : t < 100000 := by simpa using hb
   unfold valAt at hs
   rw [if_pos this] at hs
   exact hs
 | const v => exact constSV_rel v
 | global g => exact trivial
 | func f => exact ⟨rfl, fun p hp => by simp at hp⟩
theorem add_add (ad : Addr) (i j : Nat) : (ad.add i).add j = ad.add (i + j) := by
 unfold Addr.add
 by_cases h1 : i = 0 <;> by_cases h2 : j = 0 <;> simp [h1, h2, Nat.add_assoc]
theorem add_block (ad : Addr) (i : Nat) : (ad.add i).block = ad.block := by unfold Addr.add; split <;> rfl
theorem add_lit (g o i : Nat) : (⟨g, o, none⟩ : Addr).add i = ⟨g, o + i, none⟩ := by unfold Addr.add; split <;> simp_all
theorem All2.flat {α β : Type} {R : List α → β → Prop} {n : Nat} (hn : ∀ c y, R c y → c.length = n) : ∀ {css : List (List α)} {xs : List β}, All2 R css xs →
  ∀ {j : Nat} {y : β}, xs[j]? = some y → ∃ c, css[j]? = some c ∧ R c y ∧ ∀ i u, c[i]? = some u → css.flatten[j * n + i]? = some u
 | [], [], _, j, y, h => by simp at h
 | c :: css, x :: xs, h, 0, y, hy => by
  simp at hy; subst hy
  refine ⟨c, rfl, h.1, fun i u hu => ?_⟩
  have hlt := (List.getElem?_eq_some_iff.1 hu).1
  rw [Nat.zero_mul, Nat.zero_add, List.flatten_cons, List.getElem?_append_left hlt]
  exact hu
 | c :: css, x :: xs, h, j + 1, y, hy => by
  obtain ⟨c', h1, h2, h3⟩ := All2.flat hn h.2 (j := j) (y := y) (by simpa using hy)
  refine ⟨c', by simpa using h1, h2, fun i u hu => ?_⟩
  have hc := hn _ _ h.1
  rw [List.flatten_cons, List.getElem?_append_right (by rw [hc, Nat.succ_mul]; omega)]
  rw [← h3 i u hu]
  congr 1
  rw [hc, Nat.succ_mul]; omega
theorem Rd.at_ {S : Nat → Prop} {e : Nat} {t : Ty} {A : Option Addr} {m c : Nat} {xs : List t.den} (h : Rd w S (.sl e t) [.slice A m c] xs) {i : Nat} (hi : i < xs.length) :
  ∃ ad cs, A = some ad ∧ S ad.block ∧ Rd w S t cs (xs.getD i t.dflt) ∧ ∀ (j : Nat) (u : Value), cs[j]? = some u → w.cell? ((ad.add (i * t.nc)).add j) = some u := by
 obtain ⟨A', n, c', e1, h1, h2, h3, h4⟩ := h
 injection e1 with e1
 injection e1 with a1 a2 a3
 subst a1 a2 a3
 rcases h4 with h4 | ⟨ad, css, e2, h5, h6, h7⟩
 ·omega
 ·have hx : xs[i]? = some (xs.getD i t.dflt) := by rw [List.getD_eq_getElem?_getD, List.getElem?_eq_getElem hi]; rfl
  obtain ⟨cs, k1, k2, k3⟩ := All2.flat (fun c y h => h.len) h6 hx
  refine ⟨ad, cs, e2, h5, k2, fun j u hu => ?_⟩
  rw [add_add]
  exact h7 _ _ (k3 j u hu)
structure Ext (w w' : World) : Prop where
 os : w'.os = w.os
 tape : w'.tape = w.tape
 output : w'.output = w.output
 size : w.heap.size ≤ w'.heap.size
 old : ∀ k, k < w.heap.size → w'.heap[k]? = w.heap[k]?
theorem Ext.refl (w : World) : Ext w w := ⟨rfl, rfl, rfl, Nat.le_refl _, fun _ _ => rfl⟩
theorem Ext.trans {w w' w'' : World} (h : Ext w w') (h' : Ext w' w'') : Ext w w'' :=
 ⟨h'.os.trans h.os, h'.tape.trans h.tape, h'.output.trans h.output, Nat.le_trans h.size h'.size, fun k hk => (h'.old k (Nat.lt_of_lt_of_le hk h.size)).trans (h.old k hk)⟩
theorem Ext.cell {w w' : World} (h : Ext w w') {ad : Addr} {u : Value} (hc : w.cell? ad = some u) : w'.cell? ad = some u := by
 rw [World.cell?_of_block (w := w) (h.old _ (World.block_lt_of_cell? w ad hc))]; exact hc
theorem aIndexAddr0_sound {T : Tab} (hT : TOk P T) {w0 : World} {lab0 : Nat → Lab} {oo : Nat → Value} {n : Nat} {a : Act} (h : R w0 lab0 oo n σ E a w) {t e : Nat} {ti ei : TI} (ht : T t = some ti) (he : ti.el = some e) (hei : T e = some ei)
  {x i z : Cell} {vx vi : Value} {c : Bool} (hr : aIndexAddr0 σ e ei.zero.length x i = some (c, z)) (hc : c = true) (hx : CRel σ E w x vx) (hi : CRel σ E w i vi) :
  ∃ v, (∀ w', (Instr.indexAt t vx vi).run P w' = .ok v w') ∧ CRel σ E w z v := by
 subst hc
 have hu := chk_slice hT ht he
 have hs := chk_size hT hei
 have key : ∀ (ad : Addr) (m d : Nat) (k : IntKind) (q : Int), 0 ≤ q → q < m → ∀ w', (Instr.indexAt t (.slice (some ad) m d) (.int k q)).run P w' = .ok (.pointer (some (ad.add (q.toNat * ei.zero.length)))) w' := by
  intro ad m d k q h1 h2 w'
  simp [Instr.indexAt, run_underlying hu, asIntOf, h1, h2, hs]
 have snap : ∀ (e' : Nat) (ty : Ty) (xs : List ty.den) (p : Option Nat) (k : IntKind) (q : Int), Rd w (fun k => E.lab k = labOf p) (.sl e' ty) [vx] xs → Nat.beq ty.nc ei.zero.length = true → 0 ≤ q → q < xs.length →
   ∃ v, (∀ w', (Instr.indexAt t vx (.int k q)).run P w' = .ok v w') ∧ CRel σ E w (.selt ty (xs.getD q.toNat ty.dflt) p 0) v := by
  intro e' ty xs p k q hrd hb h1 h2
  obtain ⟨A, m, d, hv, _⟩ := id hrd
  injection hv with hv
  subst hv
  obtain ⟨ad, cs, rfl, g1, g2, g3⟩ := Rd.at_ hrd (i := q.toNat) (by omega)
  obtain ⟨A', m', d', e1, e2, _⟩ := hrd
  injection e1 with e1
  injection e1 with a1 a2 a3
  have hnc := Nat.eq_of_beq_eq_true hb
  refine ⟨_, key ad m d k q h1 (by omega), ad.add (q.toNat * ty.nc), cs, ?_, ty.nc_pos, by rw [add_block]; exact g1, g2, g3⟩
  rw [← hnc]
  simp [Addr.add]
 unfold aIndexAddr0 at hr
 split at hr
 ·rename_i e' ty xs p k q
  obtain rfl : vi = _ := hi
  cases hb : Nat.beq ty.nc ei.zero.length
  ·rw [hb] at hr; cases hr
  ·rw [hb] at hr
   simp only [cond_true, Option.some.injEq, Prod.mk.injEq, Bool.and_eq_true, decide_eq_true_eq] at hr
   obtain ⟨⟨h1, h2⟩, rfl⟩ := hr
   exact snap e' ty xs p k q hx hb h1 h2
 ·rename_i e' ty xs p k q
  obtain rfl : vi = _ := hi
  cases hb : Nat.beq ty.nc ei.zero.length
  ·rw [hb] at hr; cases hr
  ·rw [hb] at hr
   simp only [cond_true, Option.some.injEq, Prod.mk.injEq, Bool.and_eq_true, decide_eq_true_eq] at hr
   obtain ⟨⟨h1, h2⟩, rfl⟩ := hr
   exact snap e' ty xs p k q hx.1 hb h1 h2
 ·rename_i r k q
  obtain rfl : vi = _ := hi
  split at hr
  ·rename_i row hrow
   cases hb : Nat.beq row.t.nc ei.zero.length
   ·rw [hb] at hr; cases hr
   ·rw [hb] at hr
    simp only [cond_true, Option.some.injEq, Prod.mk.injEq, Bool.and_eq_true, decide_eq_true_eq] at hr
    obtain ⟨⟨h1, h2⟩, rfl⟩ := hr
    obtain ⟨rfl, _, _⟩ := hx
    have hnc := Nat.eq_of_beq_eq_true hb
    obtain ⟨css, ho, _⟩ := h.rows r row hrow
    rcases ho.2 with ⟨_, h0⟩ | ⟨g, cap, cur, ev, _⟩
    ·omega
    ·rw [ev]
     refine ⟨_, key _ _ _ _ _ h1 h2, row, g, _, _, hrow, ev, h1, h2, row.t.nc_pos, ?_⟩
     rw [add_lit, hnc]
     simp
  ·cases hr
 ·rename_i r lo m k q
  obtain rfl : vi = _ := hi
  split at hr
  ·rename_i row hrow
   cases hb : Nat.beq row.t.nc ei.zero.length
   ·rw [hb] at hr; cases hr
   ·rw [hb] at hr
    simp only [cond_true, Option.some.injEq, Prod.mk.injEq, Bool.and_eq_true, decide_eq_true_eq] at hr
    obtain ⟨⟨h1, h2⟩, rfl⟩ := hr
    have hnc := Nat.eq_of_beq_eq_true hb
    obtain ⟨row', A, d, e1, e2, e3, e4, rfl, e6, e7, e8⟩ := hx
    rw [hrow] at e1
    injection e1 with e1
    subst e1
    obtain ⟨g, m', d', e9, rfl⟩ := e8 (by omega)
    refine ⟨_, key _ _ _ _ _ h1 (by omega), row, g, _, _, hrow, e9, by omega, by omega, row.t.nc_pos, ?_⟩
    rw [add_lit, ← hnc, Int.toNat_add e2 h1, Nat.add_mul]
    simp
  ·cases hr
 ·cases hr
theorem aIndexAddr_sound {T : Tab} (hT : TOk P T) {w0 : World} {lab0 : Nat → Lab} {oo : Nat → Value} {n : Nat} {a : Act} (h : R w0 lab0 oo n σ E a w) {t e : Nat} {ti ei : TI} (ht : T t = some ti) (he : ti.el = some e) (hei : T e = some ei)
  {x i z : Cell} {vx vi : Value} {c : Bool} (hr : aIndexAddr σ e ei.zero.length x i = some (c, z)) (hc : c = true) (hx : CRel σ E w x vx) (hi : CRel σ E w i vi) :
  ∃ v, (∀ w', (Instr.indexAt t vx vi).run P w' = .ok v w') ∧ CRel σ E w z v := aIndexAddr0_sound hT h ht he hei (show aIndexAddr0 σ e ei.zero.length x.weak i = some (c, z) from hr) hc hx.weak hi
theorem aField_sound {T : Tab} (hT : TOk P T) {s f off n : Nat} {ag : Bool} {ti : TI} (hs : T s = some ti) (hf : ti.fields[f]? = some (off, n, ag))
  {x z : Cell} {vx : Value} (hr : aField σ x off = some z) (hx : CRel σ E w x vx) : ∃ v, (∀ w', (Instr.fieldAt s vx f).run P w' = .ok v w') ∧ CRel σ E w z v := by
 obtain ⟨fs, fd, h1, h2, h3, h4, h5⟩ := chk_field hT hs hf
 have key : ∀ ad : Addr, ∀ w', (Instr.fieldAt s (.pointer (some ad)) f).run P w' = .ok (.pointer (some (ad.add off))) w' := by
  intro ad w'
  have : ¬ (n = 0) := by omega
  simp [Instr.fieldAt, run_underlying h1, h2, Instr.sureAddr, fieldPlace, (h5 w').1, this, h3]
 unfold aField at hr
 split at hr
 ·rename_i b g
  split at hr
  ·rename_i te cs hb
   cases hq : Nat.blt (g + off) cs.length
   ·rw [hq] at hr; cases hr
   ·rw [hq] at hr
    simp only [cond_true, Option.some.injEq] at hr
    subst hr
    obtain ⟨rfl, _⟩ := hx
    exact ⟨_, key _, by rw [add_lit], te, cs, hb, (by simpa using hq)⟩
  ·cases hr
 ·rename_i r i g
  split at hr
  ·rename_i row hrow
   cases hq : Nat.blt (g + off) row.t.nc
   ·rw [hq] at hr; cases hr
   ·rw [hq] at hr
    simp only [cond_true, Option.some.injEq] at hr
    subst hr
    obtain ⟨row', g', m, d, e1, e2, e3, e4, e5, rfl⟩ := hx
    rw [hrow] at e1
    injection e1 with e1
    subst e1
    refine ⟨_, key _, row, g', m, d, hrow, e2, e3, e4, (by simpa using hq), ?_⟩
    rw [add_lit, Nat.add_assoc]
  ·cases hr
 ·rename_i t x p g
  cases hq : Nat.blt (g + off) t.nc
  ·rw [hq] at hr; cases hr
  ·rw [hq] at hr
   simp only [cond_true, Option.some.injEq] at hr
   subst hr
   obtain ⟨ad, cs, rfl, e1, e2⟩ := hx
   exact ⟨_, key _, ad, cs, by rw [add_add], (by simpa using hq), e2⟩
 ·cases hr
theorem All2.drop_take {α β : Type} {Q : α → β → Prop} {as : List α} {bs : List β} (h : All2 Q as bs) (f n : Nat) : All2 Q ((as.drop f).take n) ((bs.drop f).take n) := (h.drop f).take n
theorem unpack_rel : ∀ {t : Ty} {cs : List Value} {x : t.den} {p : Option Nat}, Rd w (fun k => E.lab k = labOf p) t cs x → All2 (CRel σ E w) (unpack t x p) cs
 | .int _, _, _, _, h => by obtain rfl := h; exact ⟨rfl, trivial⟩
 | .bool, _, _, _, h => by obtain rfl := h; exact ⟨rfl, trivial⟩
 | .fnc _, _, _, _, h => by obtain rfl := h; exact ⟨⟨rfl, fun p hp => by cases hp⟩, trivial⟩
 | .str, _, _, _, h => by obtain rfl := h; exact ⟨rfl, trivial⟩
 | .err, _, _, _, h => by obtain ⟨v, rfl, h2⟩ := h; exact ⟨h2, trivial⟩
 | .sl _ _, _, _, _, h => by obtain ⟨A, n, c, rfl, h'⟩ := id h; exact ⟨h, trivial⟩
 | .pair a b, _, _, _, h => by
  obtain ⟨c1, c2, rfl, h1, h2⟩ := h
  exact (unpack_rel h1).app (unpack_rel h2)
theorem loadCells_at (ad : Addr) (cs : List Value) (f n : Nat) (hn : f + n ≤ cs.length) (h : ∀ (j : Nat) (u : Value), cs[j]? = some u → w.cell? (ad.add j) = some u) :
  (loadCells (ad.add f) n).run P w = .ok ((cs.drop f).take n).toArray w := by
 have hl : ((cs.drop f).take n).length = n := by rw [List.length_take, List.length_drop]; omega
 have := run_loadCells_list (P := P) w (ad.add f) ((cs.drop f).take n) (fun j v hv => by
  rw [add_add]
  refine h _ _ ?_
  rw [List.getElem?_take] at hv
  split at hv
  ·rwa [List.getElem?_drop] at hv
  ·cases hv)
 rwa [hl] at this
theorem aLoad_sound {w0 : World} {lab0 : Nat → Lab} {oo : Nat → Value} {n : Nat} {a : Act} (h : R w0 lab0 oo n σ E a w) {x : Cell} {m : Nat} {cs : List Cell} {vx : Value} (hr : aLoad σ x m = some cs) (hx : CRel σ E w x vx) :
  ∃ (ad : Addr) (vs : List Value) (f : Nat), vx = .pointer (some (ad.add f)) ∧ f + m ≤ vs.length ∧ (∀ (j : Nat) (u : Value), vs[j]? = some u → w.cell? (ad.add j) = some u) ∧ All2 (CRel σ E w) cs ((vs.drop f).take m) := by
 cases x with
 | box b f =>
  simp only [aLoad] at hr
  split at hr
  ·rename_i te bs hb
   cases hq : (Nat.blt te mapBase && Nat.ble (f + m) bs.length)
   ·rw [hq] at hr; cases hr
   ·rw [hq] at hr
    simp only [cond_true, Option.some.injEq] at hr
    subst hr
    simp only [Bool.and_eq_true] at hq
    obtain ⟨rfl, _⟩ := hx
    obtain ⟨arr, h1, h2, h3, h4⟩ := h.boxes b te bs hb
    have h1 := h1.cells (by simpa using hq.1)
    refine ⟨⟨E.bb b, 0, none⟩, arr.toList, f, by rw [add_lit]; simp, by rw [← h3.len]; exact Nat.le_of_ble_eq_true hq.2, fun j u hu => ?_, (h3.drop_take f m).weak⟩
    rw [add_lit]
    simp only [World.cell?, h1, Nat.zero_add]
    simpa using hu
  ·cases hr
 | elt r i f =>
  simp only [aLoad] at hr
  split at hr
  ·rename_i row hrow
   cases hq : Nat.ble (f + m) row.t.nc
   ·rw [hq] at hr; cases hr
   ·rw [hq] at hr
    simp only [cond_true, Option.some.injEq] at hr
    subst hr
    obtain ⟨row', g, m', d, e1, e2, e3, e4, e5, rfl⟩ := hx
    rw [hrow] at e1
    injection e1 with e1
    subst e1
    obtain ⟨css, ho, hl, hd, _⟩ := h.rows r row hrow
    have hlt : i.toNat < row.xs.length := by omega
    have hxi : row.xs[i.toNat]? = some (row.xs.getD i.toNat row.t.dflt) := by rw [List.getD_eq_getElem?_getD, List.getElem?_eq_getElem hlt]; rfl
    have hrd : All2 (fun c y => Rd w (fun k => E.lab k = labOf (cond row.deep (some r) none)) row.t c y) css row.xs := by
     cases hdp : row.deep
     ·rw [hdp] at hd; exact hd
     ·rw [hdp] at hd
      obtain ⟨Ls, k1, k2, k3⟩ := hd
      exact All3.two (R := fun c y => Rd w (fun k => E.lab k = labOf (some r)) row.t c y) (fun _ _ _ h => h) (k1.imp_mem (Q' := fun _ c y => Rd w (fun k => E.lab k = labOf (some r)) row.t c y) fun l c y hl' ho' => ho'.rd fun k hk => k3 k (List.mem_flatten.2 ⟨l, hl', hk⟩))
    obtain ⟨c, k1, k2, k3⟩ := All2.flat (fun c y h => h.len) hrd hxi
    refine ⟨⟨g, i.toNat * row.t.nc, none⟩, c, f, by rw [add_lit], by rw [k2.len]; exact Nat.le_of_ble_eq_true hq, fun j u hu => ?_, (unpack_rel k2).drop_take f m⟩
    have := ho.cells (g := g) (by rw [e2]; rfl) _ _ (k3 j u hu)
    rw [add_lit] at this ⊢
    simpa [Nat.add_assoc] using this
  ·cases hr
 | selt t x p f =>
  simp only [aLoad] at hr
  cases hq : Nat.ble (f + m) t.nc
  ·rw [hq] at hr; cases hr
  ·rw [hq] at hr
   simp only [cond_true, Option.some.injEq] at hr
   subst hr
   obtain ⟨ad, vs, rfl, e1, e2, e3, e4⟩ := hx
   exact ⟨ad, vs, f, rfl, by rw [e3.len]; exact Nat.le_of_ble_eq_true hq, e4, (unpack_rel e3).drop_take f m⟩
 | _ => cases hr
theorem aLoadV_sound {T : Tab} (hT : TOk P T) {w0 : World} {lab0 : Nat → Lab} {oo : Nat → Value} {n : Nat} {a : Act} (h : R w0 lab0 oo n σ E a w) {t : Nat} {ti : TI} (ht : T t = some ti) {x : Cell} {z : SV} {vx : Value}
  (hr : aLoadV σ x ti.agg ti.zero.length = some z) (hx : CRel σ E w x vx) : ∃ v, (∀ w', Ext w w' → (Instr.loadAt t vx).run P w' = .ok v w') ∧ SRel σ E w z v := by
 unfold aLoadV at hr
 split at hr
 ·rename_i cs hl
  obtain ⟨ad, vs, f, rfl, hf, hc, hrel⟩ := aLoad_sound h hl hx
  have hagg := chk_agg hT ht
  have hsz := chk_size hT ht
  cases ha : ti.agg
  ·rw [ha] at hr hagg
   simp only [cond_false] at hr
   split at hr
   ·rename_i y
    injection hr with hr
    subst hr
    have hlen := hrel.len
    have h1 : (vs.drop f).take ti.zero.length = [((vs.drop f).take ti.zero.length).getD 0 undef] := by
     cases hq : (vs.drop f).take ti.zero.length with
     | nil => rw [hq] at hlen; simp at hlen
     | cons u us =>
      rw [hq] at hlen
      cases us with
      | nil => rfl
      | cons _ _ => simp at hlen
    have h2 : ti.zero.length = 1 := by
     have := congrArg List.length h1
     simp only [List.length_take, List.length_drop, List.length_cons, List.length_nil] at this
     omega
    have h3 : vs[f]? = some (((vs.drop f).take ti.zero.length).getD 0 undef) := by
     have : ((vs.drop f).take ti.zero.length)[0]? = some (((vs.drop f).take ti.zero.length).getD 0 undef) := by
      conv => lhs; rw [h1]
      rfl
     rw [← this, List.getElem?_take, if_pos (by omega), List.getElem?_drop, Nat.add_zero]
    rw [h1] at hrel
    refine ⟨_, fun w' hw => ?_, hrel.1⟩
    have := hw.cell (hc f _ h3)
    simp [Instr.loadAt, Instr.sureAddr, loadVar, hagg, this]
   ·cases hr
  ·rw [ha] at hr hagg
   simp only [cond_true, Option.some.injEq] at hr
   subst hr
   refine ⟨_, fun w' hw => ?_, ((vs.drop f).take ti.zero.length).toArray, rfl, by simpa using hrel⟩
   simp [Instr.loadAt, Instr.sureAddr, loadVar, hagg, hsz, loadCells_at (w := w') ad vs f _ hf fun j u hu => hw.cell (hc j u hu)]
 ·cases hr
end
end Go.Fw
namespace Go.Fw
open Go.RowKit
theorem Rd.lt {w : World} {S : Nat → Prop} : ∀ {t : Ty} {cs : List Value} {x : t.den}, Rd w S t cs x → Rd w (fun k => S k ∧ k < w.heap.size) t cs x
 | .int _, _, _, h => h
 | .bool, _, _, h => h
 | .fnc _, _, _, h => h
 | .str, _, _, h => h
 | .err, _, _, h => h
 | .pair a b, _, _, h => by
  obtain ⟨c1, c2, e, h1, h2⟩ := h
  exact ⟨c1, c2, e, h1.lt, h2.lt⟩
 | .sl _ t, _, x, h => by
  obtain ⟨A, n, c, e, h1, h2, h3, h4⟩ := h
  refine ⟨A, n, c, e, h1, h2, h3, ?_⟩
  rcases h4 with h4 | ⟨ad, css, e1, h5, h6, h7⟩
  ·exact .inl h4
  ·by_cases hn : n = 0
   ·exact .inl hn
   ·have hx0 : 0 < List.length x := by omega
    obtain ⟨cs, k1, k2, k3⟩ := All2.flat (fun c y h => h.len) h6 (j := 0) (y := List.getD x 0 t.dflt) (by rw [List.getD_eq_getElem?_getD, List.getElem?_eq_getElem hx0]; rfl)
    have h0 : 0 < cs.length := by rw [k2.len]; exact t.nc_pos
    have hb := World.block_lt_of_cell? w _ (h7 _ _ (k3 0 cs[0] (by simp)))
    rw [add_block] at hb
    exact .inr ⟨ad, css, e1, ⟨h5, hb⟩, h6.imp fun _ _ h => h.lt, h7⟩
section
variable {P : Program} {σ σ' : St} {E E' : Env} {w w' : World} {w0 : World} {lab0 : Nat → Lab} {oo : Nat → Value} {n : Nat} {a : Act}
theorem Moves.grow (hb : ∀ k, k < w.heap.size → w'.heap[k]? = w.heap[k]? ∧ E'.lab k = E.lab k)
  (hrow : ∀ r row, σ.row r = some row → ∃ row', σ'.row r = some row' ∧ E'.rv r = E.rv r ∧ row'.t.nc = row.t.nc ∧ row.xs.length ≤ row'.xs.length)
  (hbox : ∀ b te cs, σ.box b = some (te, cs) → ∃ te' cs', σ'.box b = some (te', cs') ∧ E'.bb b = E.bb b ∧ cs'.length = cs.length) : Moves σ E w σ' E' w' := by
 refine ⟨hrow, hbox, fun p ad u hl hc => ?_, fun p t cs x h => ?_⟩
 ·have hlt := World.block_lt_of_cell? w ad hc
  exact ⟨by rw [(hb _ hlt).2]; exact hl, by rw [World.cell?_of_block (w := w) (hb _ hlt).1]; exact hc⟩
 ·exact ((h.lt.frame fun k hk _ => (hb k hk.2).1)).mono fun k hk => by rw [(hb k hk.2).2]; exact hk.1
theorem RowRel.grow {lab lab' : Nat → Lab} {r : Nat} {row : Row} {v : Value} (hb : ∀ k, k < w.heap.size → w'.heap[k]? = w.heap[k]? ∧ lab' k = lab k) (h : RowRel w lab r row v) : RowRel w' lab' r row v := by
 obtain ⟨css, h1, h2, h3, h4⟩ := h
 have hlt : ∀ k, v.ownBlock = some k → k < w.heap.size := fun k hk => (h1.lt k hk).2
 refine ⟨css, ownsRow_frame (fun k hk => (hb k (hlt k hk)).1) h1, fun k hk => by rw [(hb k (hlt k hk)).2]; exact h2 k hk, ?_, h4⟩
 cases hd : row.deep
 ·rw [hd] at h3
  exact All2.imp (fun c y h => ((h.lt.frame fun k hk _ => (hb k hk.2).1)).mono fun k hk => by rw [(hb k hk.2).2]; exact hk.1) h3
 ·rw [hd] at h3
  obtain ⟨Ls, k1, k2, k3⟩ := h3
  have hL : ∀ k ∈ Ls.flatten, k < w.heap.size := fun k hk => by
   obtain ⟨l, hl, hk⟩ := List.mem_flatten.1 hk
   have : All3 (fun (l : List Nat) (_ : List Value) (_ : row.t.den) => ∀ k ∈ l, k < w.heap.size) Ls css row.xs := k1.imp fun _ _ _ ho => ho.lt
   exact all3_first this l hl k hk
  exact ⟨Ls, k1.imp_mem fun l c y hl ho => ho.frame fun k hk => (hb k (hL k (List.mem_flatten.2 ⟨l, hl, hk⟩))).1, k2, fun k hk => by rw [(hb k (hL k hk)).2]; exact k3 k hk⟩
theorem Same0.grow {lab lab' : Nat → Lab} (hb : ∀ k, k < w.heap.size → w'.heap[k]? = w.heap[k]? ∧ lab' k = lab k) (ho : w'.os = w.os ∧ w'.tape = w.tape ∧ w'.output = w.output) (hs : w.heap.size ≤ w'.heap.size) (h : Same0 w0 lab0 lab w) : Same0 w0 lab0 lab' w' := by
 refine ⟨ho.1.trans h.os, ho.2.1.trans h.tape, ho.2.2.trans h.output, Nat.le_trans h.size hs, fun k hk hl => ?_⟩
 have := h.old k hk hl
 have hk' := hb k (Nat.lt_of_lt_of_le hk h.size)
 exact ⟨by rw [hk'.2]; exact this.1, by rw [hk'.1]; exact this.2⟩
theorem R.grow (h : R w0 lab0 oo n σ E a w) (hb : ∀ k, k < w.heap.size → w'.heap[k]? = w.heap[k]? ∧ E'.lab k = E.lab k) (ho : w'.os = w.os ∧ w'.tape = w.tape ∧ w'.output = w.output) (hs : w.heap.size ≤ w'.heap.size)
  (hslot : σ'.slot = σ.slot)
  (hrow : ∀ r row, σ'.row r = some row → (σ.row r = some row ∧ E'.rv r = E.rv r) ∨ (σ.row r = none ∧ RowRel w' E'.lab r row (E'.rv r)))
  (hrow' : ∀ r row, σ.row r = some row → σ'.row r = some row)
  (hbox : ∀ b te cs, σ'.box b = some (te, cs) → (σ.box b = some (te, cs) ∧ E'.bb b = E.bb b) ∨ (σ.box b = none ∧ BoxRel σ' E' w' b te cs))
  (hbox' : ∀ b x, σ.box b = some x → σ'.box b = some x) : R w0 lab0 oo n σ' E' a w' := by
 have m : Moves σ E w σ' E' w' := Moves.grow hb
  (fun r row hr => ⟨row, hrow' r row hr, (by
   rcases hrow r row (hrow' r row hr) with h | h
   ·exact h.2
   ·rw [h.1] at hr; cases hr), rfl, Nat.le_refl _⟩)
  (fun b te cs hr => ⟨te, cs, hbox' b _ hr, (by
   rcases hbox b te cs (hbox' b _ hr) with h | h
   ·exact h.2
   ·rw [h.1] at hr; cases hr), rfl⟩)
 refine ⟨h.bound, h.size, h.defers, fun t => by rw [hslot]; exact (h.slots t).move m, fun b te cs hq => ?_, fun r row hq => ?_, h.same.grow hb ho hs⟩
 ·rcases hbox b te cs hq with ⟨h1, h2⟩ | ⟨_, h2⟩
  ·obtain ⟨arr, k1, k2, k3, k4⟩ := h.boxes b te cs h1
   have hlt := k1.lt
   exact ⟨arr, by rw [h2, (hb _ hlt).1]; exact k1, by rw [h2, (hb _ hlt).2]; exact k2, k3.imp fun _ _ h => h.move m, k4⟩
  ·exact h2
 ·rcases hrow r row hq with ⟨h1, h2⟩ | ⟨_, h2⟩
  ·rw [h2]; exact (h.rows r row h1).grow hb
  ·exact h2
theorem alloc_old (o : Obj) : ∀ k, k < w.heap.size → (w.alloc o).heap[k]? = w.heap[k]? := fun k hk => Below.heap_alloc w o k hk
theorem R.newBox (h : R w0 lab0 oo n σ E a w) {d te : Nat} {cs : List Cell} {arr : Array Value} (hte : te < mapBase) (hd : d < n) (hfree : σ.box d = none) (hc : All2 (CRel σ E w) cs arr.toList) (h1 : ∀ u ∈ arr.toList, u.oneCell' = true) (hne : 0 < cs.length) :
  ∃ E', R w0 lab0 oo n { slot := upd σ.slot d (.c (.box d 0)), box := upd σ.box d (some (te, cs)), row := σ.row } E' (a.put (some d) (.pointer (some ⟨w.heap.size, 0, none⟩))) (w.alloc (.cells arr te)) := by
 let E' : Env := { lab := upd E.lab w.heap.size (.box d), rv := E.rv, bb := upd E.bb d w.heap.size }
 let σ1 : St := { slot := σ.slot, box := upd σ.box d (some (te, cs)), row := σ.row }
 have hb : ∀ k, k < w.heap.size → (w.alloc (.cells arr te)).heap[k]? = w.heap[k]? ∧ E'.lab k = E.lab k := fun k hk => ⟨alloc_old _ k hk, upd_ne _ _ (Nat.ne_of_lt hk)⟩
 have m : Moves σ E w σ1 E' (w.alloc (.cells arr te)) := Moves.grow hb (fun r row hr => ⟨row, hr, rfl, rfl, Nat.le_refl _⟩)
  (fun b te' cs' hq => by
   have hne : b ≠ d := fun e => by rw [e, hfree] at hq; cases hq
   exact ⟨te', cs', (upd_ne _ _ hne).trans hq, upd_ne _ _ hne, rfl⟩)
 have g : R w0 lab0 oo n σ1 E' a (w.alloc (.cells arr te)) := by
  refine h.grow (E' := E') hb ⟨rfl, rfl, rfl⟩ (by simp) rfl (fun r row hr => .inl ⟨hr, rfl⟩) (fun _ _ h => h) (fun b te' cs' hq => ?_) (fun b x hq => ?_)
  ·by_cases e : b = d
   ·subst e
    rw [show σ1.box b = some (te, cs) from upd_same _ _ _] at hq
    injection hq with hq
    injection hq with e1 e2
    subst e1 e2
    refine .inr ⟨hfree, arr, ?_, ?_, hc.imp fun _ _ h => h.move m, h1⟩
    ·show BoxObj te arr (w.alloc (.cells arr te)).heap[upd E.bb b w.heap.size b]?
     rw [upd_same]
     exact .inl ⟨hte, heap_alloc_new w _⟩
    ·show upd E.lab w.heap.size (.box b) (upd E.bb b w.heap.size b) = _
     rw [upd_same, upd_same]
   ·exact .inl ⟨(upd_ne _ _ e).symm.trans hq, upd_ne _ _ e⟩
  ·have hne : b ≠ d := fun e => by rw [e, hfree] at hq; cases hq
   exact (upd_ne _ _ hne).trans hq
 refine ⟨E', g.put hd (s := .c (.box d 0)) ⟨?_, te, cs, upd_same _ _ _, hne⟩⟩
 show _ = Value.pointer (some ⟨upd E.bb d w.heap.size d, 0, none⟩)
 rw [upd_same]
theorem R.newMap (h : R w0 lab0 oo n σ E a w) {d te : Nat} {t : Ty} (hte : mapBase ≤ te) (hd : d < n) (hfree : σ.box d = none) :
  ∃ E', R w0 lab0 oo n { slot := upd σ.slot d (.c (.mp d)), box := upd σ.box d (some (te, [.mset t []])), row := σ.row } E' (a.put (some d) (.map (some w.heap.size))) (w.alloc (.map #[] 0)) := by
 let E' : Env := { lab := upd E.lab w.heap.size (.box d), rv := E.rv, bb := upd E.bb d w.heap.size }
 let σ1 : St := { slot := σ.slot, box := upd σ.box d (some (te, [.mset t []])), row := σ.row }
 have hb : ∀ k, k < w.heap.size → (w.alloc (.map #[] 0)).heap[k]? = w.heap[k]? ∧ E'.lab k = E.lab k := fun k hk => ⟨alloc_old _ k hk, upd_ne _ _ (Nat.ne_of_lt hk)⟩
 have g : R w0 lab0 oo n σ1 E' a (w.alloc (.map #[] 0)) := by
  refine h.grow (E' := E') hb ⟨rfl, rfl, rfl⟩ (by simp) rfl (fun r row hr => .inl ⟨hr, rfl⟩) (fun _ _ h => h) (fun b te' cs' hq => ?_) (fun b x hq => ?_)
  ·by_cases e : b = d
   ·subst e
    rw [show σ1.box b = some (te, [.mset t []]) from upd_same _ _ _] at hq
    injection hq with hq
    injection hq with e1 e2
    subst e1 e2
    refine .inr ⟨hfree, #[keysV []], ?_, ?_, ⟨rfl, trivial⟩, fun u hu => ?_⟩
    ·show BoxObj te #[keysV []] (w.alloc (.map #[] 0)).heap[upd E.bb b w.heap.size b]?
     rw [upd_same]
     exact .inr ⟨hte, #[], 0, heap_alloc_new w _, rfl, fun e he => by simp at he⟩
    ·show upd E.lab w.heap.size (.box b) (upd E.bb b w.heap.size b) = _
     rw [upd_same, upd_same]
    ·simp at hu
     subst hu
     rfl
   ·exact .inl ⟨(upd_ne _ _ e).symm.trans hq, upd_ne _ _ e⟩
  ·have hne : b ≠ d := fun e => by rw [e, hfree] at hq; cases hq
   exact (upd_ne _ _ hne).trans hq
 refine ⟨E', g.put hd (s := .c (.mp d)) ⟨?_, te, _, upd_same _ _ _⟩⟩
 show _ = Value.map (some (upd E.bb d w.heap.size d))
 rw [upd_same]
theorem R.newRow (h : R w0 lab0 oo n σ E a w) {d r : Nat} {row : Row} {arr : Array Value} {v : Value} (hd : d < n) (hfree : σ.row r = none)
  (hr : ∀ lab', (∀ k, k < w.heap.size → lab' k = E.lab k) → lab' w.heap.size = .row r → RowRel (w.alloc (.cells arr row.e)) lab' r row v) (hv : ∃ A m c, v = .slice A m c) :
  ∃ E', R w0 lab0 oo n { slot := upd σ.slot d (.c (.own r)), box := σ.box, row := upd σ.row r (some row) } E' (a.put (some d) v) (w.alloc (.cells arr row.e)) := by
 let E' : Env := { lab := upd E.lab w.heap.size (.row r), rv := upd E.rv r v, bb := E.bb }
 let σ1 : St := { slot := σ.slot, box := σ.box, row := upd σ.row r (some row) }
 have hb : ∀ k, k < w.heap.size → (w.alloc (.cells arr row.e)).heap[k]? = w.heap[k]? ∧ E'.lab k = E.lab k := fun k hk => ⟨alloc_old _ k hk, upd_ne _ _ (Nat.ne_of_lt hk)⟩
 have g : R w0 lab0 oo n σ1 E' a (w.alloc (.cells arr row.e)) := by
  refine h.grow (E' := E') hb ⟨rfl, rfl, rfl⟩ (by simp) rfl (fun q row' hq => ?_) (fun q row' hq => ?_) (fun b te' cs' hq => .inl ⟨hq, rfl⟩) (fun _ _ h => h)
  ·by_cases e : q = r
   ·subst e
    rw [show σ1.row q = some row from upd_same _ _ _] at hq
    injection hq with hq
    subst hq
    refine .inr ⟨hfree, ?_⟩
    show RowRel _ _ _ _ (upd E.rv q v q)
    rw [upd_same]
    exact hr _ (fun k hk => (hb k hk).2) (upd_same _ _ _)
   ·exact .inl ⟨(upd_ne _ _ e).symm.trans hq, upd_ne _ _ e⟩
  ·have hne : q ≠ r := fun e => by rw [e, hfree] at hq; cases hq
   exact (upd_ne _ _ hne).trans hq
 refine ⟨E', g.put hd (s := .c (.own r)) ⟨?_, ?_, hv⟩⟩
 ·show _ = upd E.rv r v r
  rw [upd_same]
 ·show (upd σ.row r (some row) r).isSome = true
  rw [upd_same]; rfl
theorem Moves.write {g : Nat} (hg : ∀ p, E.lab g ≠ labOf p) (hb : ∀ k, k ≠ g → w'.heap[k]? = w.heap[k]?)
  (hrow : ∀ r row, σ.row r = some row → ∃ row', σ'.row r = some row' ∧ row'.t.nc = row.t.nc ∧ row.xs.length ≤ row'.xs.length)
  (hbox : ∀ b te cs, σ.box b = some (te, cs) → ∃ te' cs', σ'.box b = some (te', cs') ∧ cs'.length = cs.length) : Moves σ E w σ' E w' := by
 refine ⟨fun r row hr => ?_, fun b te cs hr => ?_, fun p ad u hl hc => ?_, fun p t cs x h => ?_⟩
 ·obtain ⟨row', h1, h2⟩ := hrow r row hr
  exact ⟨row', h1, rfl, h2⟩
 ·obtain ⟨te', cs', h1, h2⟩ := hbox b te cs hr
  exact ⟨te', cs', h1, rfl, h2⟩
 ·have hne : ad.block ≠ g := fun e => hg p (e ▸ hl)
  exact ⟨hl, by rw [World.cell?_of_block (w := w) (hb _ hne)]; exact hc⟩
 ·exact h.frame fun k hk _ => hb k fun e => hg p (e ▸ hk)
theorem RowRel.write {lab : Nat → Lab} {g r : Nat} {row : Row} {v : Value} (hg : ∀ p, lab g ≠ labOf p) (hgr : lab g ≠ .row r) (hb : ∀ k, k ≠ g → w'.heap[k]? = w.heap[k]?) (h : RowRel w lab r row v) : RowRel w' lab r row v := by
 obtain ⟨css, h1, h2, h3, h4⟩ := h
 refine ⟨css, ownsRow_frame (fun k hk => hb k fun e => hgr (e ▸ h2 k hk)) h1, h2, ?_, h4⟩
 cases hd : row.deep
 ·rw [hd] at h3
  exact All2.imp (fun c y h => h.frame fun k hk _ => hb k fun e => hg none (e ▸ hk)) h3
 ·rw [hd] at h3
  obtain ⟨Ls, k1, k2, k3⟩ := h3
  exact ⟨Ls, k1.imp_mem fun l c y hl ho => ho.frame fun k hk => hb k fun e => hg (some r) (e ▸ k3 k (List.mem_flatten.2 ⟨l, hl, hk⟩)), k2, k3⟩
theorem Same0.write {lab : Nat → Lab} {g : Nat} (hg : lab g ≠ .st) (hb : ∀ k, k ≠ g → w'.heap[k]? = w.heap[k]?) (ho : w'.os = w.os ∧ w'.tape = w.tape ∧ w'.output = w.output) (hs : w'.heap.size = w.heap.size) (h : Same0 w0 lab0 lab w) : Same0 w0 lab0 lab w' := by
 refine ⟨ho.1.trans h.os, ho.2.1.trans h.tape, ho.2.2.trans h.output, by rw [hs]; exact h.size, fun k hk hl => ?_⟩
 have := h.old k hk hl
 exact ⟨this.1, by rw [hb k fun e => hg (e ▸ this.1)]; exact this.2⟩
theorem BoxRel.write {g b te : Nat} {cs : List Cell} (m : Moves σ E w σ' E w') (hgb : E.lab g ≠ .box b) (hb : ∀ k, k ≠ g → w'.heap[k]? = w.heap[k]?) (h : BoxRel σ E w b te cs) : BoxRel σ' E w' b te cs := by
 obtain ⟨arr, k1, k2, k3, k4⟩ := h
 exact ⟨arr, by rw [hb _ fun e => hgb (e ▸ k2)]; exact k1, k2, k3.imp fun _ _ h => h.move m, k4⟩
theorem R.storeBox (h : R w0 lab0 oo n σ E a w) {b te f : Nat} {cs vs : List Cell} {us : List Value} (hb : σ.box b = some (te, cs)) (hte : te < mapBase) (hf : f + vs.length ≤ cs.length) (hv : All2 (CRel σ E w) vs us) (h1 : ∀ u ∈ us, u.oneCell' = true) :
  (storeCells ⟨E.bb b, f, none⟩ us 0).run P w = .ok () (w.setRow (E.bb b) (((w.heap[E.bb b]?.bind fun o => match o with | .cells c _ _ => some c | _ => none).getD #[]).toList.take f ++ us ++ ((w.heap[E.bb b]?.bind fun o => match o with | .cells c _ _ => some c | _ => none).getD #[]).toList.drop (f + us.length)).toArray) ∧
  R w0 lab0 oo n { σ with box := upd σ.box b (some (te, cs.take f ++ vs ++ cs.drop (f + vs.length))) } E a (w.setRow (E.bb b) (((w.heap[E.bb b]?.bind fun o => match o with | .cells c _ _ => some c | _ => none).getD #[]).toList.take f ++ us ++ ((w.heap[E.bb b]?.bind fun o => match o with | .cells c _ _ => some c | _ => none).getD #[]).toList.drop (f + us.length)).toArray) := by
 obtain ⟨arr, k1, k2, k3, k4⟩ := h.boxes b te cs hb
 have k1 := k1.cells hte
 have hlen := k3.len
 have hvl := hv.len
 simp only [k1, Option.bind_some, Option.getD_some]
 have hst := run_storeCells_at P (E.bb b) f te us 0 arr w k1 (by rw [Nat.add_zero, ← hvl, ← Array.length_toList, ← hlen]; exact hf) h1
 simp only [Nat.add_zero] at hst
 refine ⟨hst, ?_⟩
 generalize hw' : w.setRow (E.bb b) (arr.toList.take f ++ us ++ arr.toList.drop (f + us.length)).toArray = w' at hst ⊢
 have hother : ∀ k, k ≠ E.bb b → w'.heap[k]? = w.heap[k]? := fun k hk => by rw [← hw']; exact setRow_other w _ k _ hk
 have hsize : w'.heap.size = w.heap.size := by rw [← hw']; simp
 have hos : w'.os = w.os ∧ w'.tape = w.tape ∧ w'.output = w.output := by rw [← hw']; exact ⟨rfl, rfl, rfl⟩
 have hlab : ∀ p, E.lab (E.bb b) ≠ labOf p := fun p => by rw [k2]; cases p <;> simp [labOf]
 have hl2 : (cs.take f ++ vs ++ cs.drop (f + vs.length)).length = cs.length := by simp only [List.length_append, List.length_take, List.length_drop]; omega
 let σ1 : St := { σ with box := upd σ.box b (some (te, cs.take f ++ vs ++ cs.drop (f + vs.length))) }
 have m : Moves σ E w σ1 E w' := Moves.write hlab hother (fun r row hr => ⟨row, hr, rfl, Nat.le_refl _⟩) (fun b' te' cs' hq => by
  by_cases e : b' = b
  ·subst e
   rw [hb] at hq
   injection hq with hq
   injection hq with e1 e2
   subst e1 e2
   exact ⟨_, _, upd_same _ _ _, hl2⟩
  ·exact ⟨te', cs', (upd_ne _ _ e).trans hq, rfl⟩)
 refine ⟨h.bound, h.size, h.defers, fun t => (h.slots t).move m, fun b' te' cs' hq => ?_, fun r row hr => (h.rows r row hr).write hlab (by rw [k2]; simp) hother, h.same.write (by rw [k2]; simp) hother hos hsize⟩
 by_cases e : b' = b
 ·subst e
  rw [show σ1.box b' = some (te, cs.take f ++ vs ++ cs.drop (f + vs.length)) from upd_same _ _ _] at hq
  injection hq with hq
  injection hq with e1 e2
  subst e1 e2
  refine ⟨_, .inl ⟨hte, by rw [← hw']; exact setRow_heap w _ arr _ te (0, 0) k1⟩, k2, ?_, ?_⟩
  ·have k3' := k3.imp fun _ _ h => CRel.move m h
   have hv' := hv.imp fun _ _ h => CRel.move m h
   rw [← hvl]
   exact ((k3'.take f).app hv').app (k3'.drop _)
  ·intro u hu
   simp only [List.mem_append] at hu
   rcases hu with (hu | hu) | hu
   ·exact k4 u (List.mem_of_mem_take hu)
   ·exact h1 u hu
   ·exact k4 u (List.mem_of_mem_drop hu)
 ·exact (h.boxes b' te' cs' ((upd_ne _ _ e).symm.trans hq)).write m (by rw [k2]; simp only [ne_eq, Lab.box.injEq]; exact fun q => e q.symm) hother
theorem flatten_set {α : Type} {n : Nat} : ∀ {css : List (List α)} {c' : List α} {i : Nat}, (∀ c ∈ css, c.length = n) → c'.length = n → i < css.length →
  (css.set i c').flatten = css.flatten.take (i * n) ++ c' ++ css.flatten.drop (i * n + n)
 | [], _, _, _, _, h => by simp at h
 | c :: css, c', 0, hl, hc, _ => by
  have h0 := hl c (by simp)
  simp only [List.set_cons_zero, List.flatten_cons, Nat.zero_mul, List.take_zero, List.nil_append, Nat.zero_add]
  rw [← h0, List.drop_left]
 | c :: css, c', i + 1, hl, hc, h => by
  have h0 := hl c (by simp)
  have ih := flatten_set (n := n) (css := css) (c' := c') (i := i) (fun c hc => hl c (by simp [hc])) hc (by simpa using h)
  simp only [List.set_cons_succ, List.flatten_cons, ih]
  have e1 : (i + 1) * n = c.length + i * n := by rw [h0, Nat.succ_mul]; omega
  rw [e1, List.take_length_add_append, Nat.add_assoc, List.drop_length_add_append]
  simp
theorem over_take {α : Type} {l : List α} {us : List α} {o N : Nat} (h : o + us.length ≤ N) (hN : N ≤ l.length) :
  (l.take o ++ us ++ l.drop (o + us.length)).take N = (l.take N).take o ++ us ++ (l.take N).drop (o + us.length) := by
 have ho : (l.take o).length = o := by rw [List.length_take]; omega
 rw [List.append_assoc, List.take_append, List.take_append, ho]
 have e1 : (l.take o).take N = l.take o := by rw [List.take_take]; congr 1; omega
 have e2 : us.take (N - o) = us := List.take_of_length_le (by omega)
 have e3 : (l.take N).take o = l.take o := by rw [List.take_take]; congr 1; omega
 rw [e1, e2, e3, List.drop_take]
 have e4 : N - o - us.length = N - (o + us.length) := by omega
 rw [e4, List.append_assoc]
theorem over_inner {α : Type} {l us : List α} {q n f : Nat} (hf : f + us.length ≤ n) (hq : q + n ≤ l.length) :
  l.take q ++ (((l.drop q).take n).take f ++ us ++ ((l.drop q).take n).drop (f + us.length)) ++ l.drop (q + n) = l.take (q + f) ++ us ++ l.drop (q + f + us.length) := by
 have e1 : ((l.drop q).take n).take f = (l.drop q).take f := by rw [List.take_take]; congr 1; omega
 have e2 : l.take (q + f) = l.take q ++ (l.drop q).take f := by rw [List.take_add]
 have e3 : ((l.drop q).take n).drop (f + us.length) ++ l.drop (q + n) = l.drop (q + f + us.length) := by
  rw [List.drop_take, List.drop_drop]
  have : l.drop (q + n) = (l.drop (q + (f + us.length))).drop (n - (f + us.length)) := by rw [List.drop_drop]; congr 1; omega
  rw [this, List.take_append_drop]
  congr 1; omega
 rw [e1, e2]
 simp only [List.append_assoc]
 rw [e3]
theorem ownsRow_over {e : TypeId} {size m : Nat} {g c : Nat} {xs us : List Value} {o : Nat} {base : Nat} (h : w.ownsRow base e size (.slice (some ⟨g, 0, none⟩) m c) m xs) (ho : o + us.length ≤ m * size) (h1 : ∀ u ∈ us, u.oneCell' = true) :
  ∃ w', (storeCells ⟨g, o, none⟩ us 0).run P w = .ok () w' ∧ w'.ownsRow base e size (.slice (some ⟨g, 0, none⟩) m c) m (xs.take o ++ us ++ xs.drop (o + us.length)) ∧ (∀ k, k ≠ g → w'.heap[k]? = w.heap[k]?) ∧ w'.heap.size = w.heap.size ∧ w'.os = w.os ∧ w'.tape = w.tape ∧ w'.output = w.output := by
 rcases h.2 with ⟨h0, _⟩ | ⟨g', cap, cur, e0, k1, k2, k3, k4, k5, k6⟩
 ·cases h0
 ·injection e0 with e1 e2 e3
  injection e1 with e1
  injection e1 with e1
  subst e1 e3
  have hsz : m * size ≤ cur.toList.length := by rw [Array.length_toList, k5]; exact Nat.mul_le_mul_right _ k3
  have hst := run_storeCells_at P g o e us 0 cur w k2 (by rw [Nat.add_zero, ← Array.length_toList]; omega) h1
  simp only [Nat.add_zero] at hst
  have hl : (cur.toList.take o ++ us ++ cur.toList.drop (o + us.length)).length = cur.size := by
   simp only [List.length_append, List.length_take, List.length_drop, Array.length_toList] at hsz ⊢
   omega
  refine ⟨_, hst, ⟨?_, .inr ⟨g, c, _, rfl, k1, setRow_heap w g cur _ e (0, 0) k2, k3, k4, ?_, ?_⟩⟩, fun k hk => setRow_other w g k _ hk, by simp, rfl, rfl, rfl⟩
  ·have := h.1
   simp only [List.length_append, List.length_take, List.length_drop]
   omega
  ·simpa [k5] using hl
  ·rw [← k6]
   exact over_take ho hsz
theorem All2.set_self {α β : Type} {Q : α → β → Prop} {a : α} {y : β} : ∀ {as : List α} {bs : List β} {i : Nat}, All2 Q as bs → Q a y → All2 Q (as.set i a) (bs.set i y)
 | _, _, _, h, h' => h.set h'
theorem All3.set {α β γ : Type} {Q : α → β → γ → Prop} : ∀ {as : List α} {bs : List β} {cs : List γ} {i : Nat} {l : α} {b : β} {y : γ}, All3 Q as bs cs → as[i]? = some l → Q l b y → All3 Q as (bs.set i b) (cs.set i y)
 | [], [], [], _, _, _, _, h, _, _ => trivial
 | _ :: _, _ :: _, _ :: _, 0, l, b, y, h, hl, hq => by simp at hl; subst hl; exact ⟨hq, h.2⟩
 | _ :: _, _ :: _, _ :: _, i + 1, l, b, y, h, hl, hq => ⟨h.1, h.2.set (by simpa using hl) hq⟩
theorem All3.mid {α β γ : Type} {Q : α → β → γ → Prop} {n : Nat} {len : β → Nat} (hn : ∀ a b c, Q a b c → len b = n) : ∀ {as : List α} {bs : List β} {cs : List γ}, All3 Q as bs cs → ∀ b ∈ bs, len b = n
 | [], [], [], _, _, h => by simp at h
 | _ :: _, _ :: _, _ :: _, h, b, hb => by
  rcases List.mem_cons.1 hb with rfl | hb
  ·exact hn _ _ _ h.1
  ·exact All3.mid hn h.2 b hb
theorem All2.fst {α β : Type} {Q : α → β → Prop} {n : Nat} {len : α → Nat} (hn : ∀ a b, Q a b → len a = n) : ∀ {as : List α} {bs : List β}, All2 Q as bs → ∀ a ∈ as, len a = n
 | [], [], _, _, h => by simp at h
 | _ :: _, _ :: _, h, a, ha => by
  rcases List.mem_cons.1 ha with rfl | ha
  ·exact hn _ _ h.1
  ·exact All2.fst hn h.2 a ha
theorem Own.step {t : Ty} {l : List Nat} {c : List Value} {x : t.den} (hb : ∀ k ∈ l, w'.heap[k]? = w.heap[k]?) (h : Own w t l c x) : Own w' t l c x := h.frame hb
theorem R.storeElt (h : R w0 lab0 oo n σ E a w) {r g m c : Nat} {row : Row} (hrow : σ.row r = some row) (hrv : E.rv r = .slice (some ⟨g, 0, none⟩) m c) {i f : Nat} (hi : i < row.xs.length) {us : List Value} (hf : f + us.length ≤ row.t.nc)
  (h1 : ∀ u ∈ us, u.oneCell' = true) {y : row.t.den}
  (hR : ∀ (S : Nat → Prop) (w1 : World) (cs : List Value), Rd w1 S row.t cs (row.xs.getD i row.t.dflt) → Rd w1 S row.t (overL cs f us) y)
  (hO : ∀ (l : List Nat) (w1 : World) (cs : List Value), Own w1 row.t l cs (row.xs.getD i row.t.dflt) → Own w1 row.t l (overL cs f us) y) :
  ∃ w', (storeCells ⟨g, i * row.t.nc + f, none⟩ us 0).run P w = .ok () w' ∧ R w0 lab0 oo n { σ with row := upd σ.row r (some { row with xs := row.xs.set i y }) } E a w' := by
 obtain ⟨css, ho, hl, hd, hnil⟩ := h.rows r row hrow
 rw [hrv] at ho hl
 have hmlen : m = row.xs.length := by
  rcases ho.2 with ⟨h0, _⟩ | ⟨_, _, _, e0, _⟩
  ·cases h0
  ·injection e0
 subst hmlen
 have hlens : (∀ b ∈ css, b.length = row.t.nc) ∧ css.length = row.xs.length := by
  cases hdp : row.deep
  ·rw [hdp] at hd
   exact ⟨All2.fst (len := List.length) (fun _ _ h => Rd.len h) hd, All2.len hd⟩
  ·rw [hdp] at hd
   obtain ⟨Ls, k1, _⟩ := hd
   exact ⟨All3.mid (len := List.length) (fun _ _ _ h => Own.len h) k1, k1.len2⟩
 obtain ⟨hcl, hcn⟩ := hlens
 have hxi : row.xs[i]? = some (row.xs.getD i row.t.dflt) := by rw [List.getD_eq_getElem?_getD, List.getElem?_eq_getElem hi]; rfl
 have hlab := hl g rfl
 have hlab' : ∀ p, E.lab g ≠ labOf p := fun p => by rw [hlab]; cases p <;> simp [labOf]
 have htot : css.flatten.length = row.xs.length * row.t.nc := by rw [ho.1]
 have hbnd : i * row.t.nc + row.t.nc ≤ row.xs.length * row.t.nc := by rw [← Nat.succ_mul]; exact Nat.mul_le_mul_right _ hi
 obtain ⟨w', hst, ho', hother, hsize, hos⟩ := ownsRow_over (P := P) (w := w) (us := us) (o := i * row.t.nc + f) ho (by omega) h1
 refine ⟨w', hst, ?_⟩
 let row' : Row := { row with xs := row.xs.set i y }
 let σ1 : St := { σ with row := upd σ.row r (some row') }
 have m : Moves σ E w σ1 E w' := Moves.write hlab' hother (fun q row2 hq => by
  by_cases e : q = r
  ·subst e
   rw [hrow] at hq
   injection hq with hq
   subst hq
   exact ⟨row', upd_same _ _ _, rfl, by simp [row']⟩
  ·exact ⟨row2, (upd_ne _ _ e).trans hq, rfl, Nat.le_refl _⟩) (fun b te cs hq => ⟨te, cs, hq, rfl⟩)
 refine ⟨h.bound, h.size, h.defers, fun t => (h.slots t).move m, fun b te cs hq => (h.boxes b te cs hq).write m (by rw [hlab]; simp) hother, fun q row2 hq => ?_, h.same.write (by rw [hlab]; simp) hother ⟨hos.1, hos.2.1, hos.2.2⟩ hsize⟩
 by_cases e : q = r
 ·subst e
  rw [show σ1.row q = some row' from upd_same _ _ _] at hq
  injection hq with hq
  subst hq
  have hci : i < css.length := by omega
  have hcell : css[i] = (css.flatten.drop (i * row.t.nc)).take row.t.nc := by
   have := flatten_set (n := row.t.nc) (css := css) (c' := css[i]) (i := i) hcl (hcl _ (List.getElem_mem _)) hci
   rw [List.set_getElem_self] at this
   conv => rhs; rw [this]
   have e1 : (css.flatten.take (i * row.t.nc)).length = i * row.t.nc := by rw [List.length_take]; omega
   rw [List.append_assoc, List.drop_left' e1, List.take_left' (hcl _ (List.getElem_mem _))]
  have hfl : (css.set i (overL css[i] f us)).flatten = css.flatten.take (i * row.t.nc + f) ++ us ++ css.flatten.drop (i * row.t.nc + f + us.length) := by
   have hln : (overL css[i] f us).length = row.t.nc := by
    have := hcl _ (List.getElem_mem (l := css) (n := i) (h := hci))
    simp only [overL, List.length_append, List.length_take, List.length_drop]
    omega
   rw [flatten_set hcl hln hci, overL, hcell, over_inner hf (by omega)]
  refine ⟨css.set i (overL css[i] f us), ?_, by rw [hrv]; exact hl, ?_, fun hn hz => ?_⟩
  ·show World.ownsRow w' 0 row.e row.t.nc (E.rv q) (row.xs.set i y).length _
   rw [hrv, List.length_set, hfl]
   exact ho'
  ·show cond row.deep _ _
   cases hdp : row.deep
   ·rw [hdp] at hd
    have hd' : All2 (fun c y => Rd w (fun k => E.lab k = .st) row.t c y) css row.xs := hd
    have hx := hd'.get hxi
    rw [List.getElem?_eq_getElem hci] at hx
    obtain ⟨c0, e0, hc0⟩ := hx
    injection e0 with e0
    subst e0
    have hfr : ∀ {c : List Value} {z : row.t.den}, Rd w (fun k => E.lab k = .st) row.t c z → Rd w' (fun k => E.lab k = .st) row.t c z := fun h => h.frame fun k hk _ => hother k fun e => hlab' none (e ▸ hk)
    exact (hd'.imp fun _ _ h => hfr h).set (hR _ _ _ (hfr hc0))
   ·rw [hdp] at hd
    obtain ⟨Ls, k1, k2, k3⟩ := hd
    obtain ⟨l, c0, e1, e2, hc0⟩ := k1.get hxi
    rw [List.getElem?_eq_getElem hci] at e2
    injection e2 with e2
    subst e2
    have hfr : ∀ {l : List Nat} {c : List Value} {z : row.t.den}, l ∈ Ls → Own w row.t l c z → Own w' row.t l c z := fun hl' h => h.frame fun k hk => hother k fun e => hlab' (some q) (e ▸ k3 k (List.mem_flatten.2 ⟨_, hl', hk⟩))
    exact ⟨Ls, (k1.imp_mem fun _ _ _ hl' h => hfr hl' h).set e1 (hO _ _ _ (hfr (List.mem_of_getElem? e1) hc0)), k2, k3⟩
  ·have : row.xs.length = 0 := by simpa [row'] using hz
   omega
 ·exact (h.rows q row2 ((upd_ne _ _ e).symm.trans hq)).write hlab' (by rw [hlab]; simp only [ne_eq, Lab.row.injEq]; exact fun e' => e e'.symm) hother
end
end Go.Fw
namespace Go.Fw
open Go.RowKit
theorem beq_self' (q : Nat) : Nat.beq q q = true := Nat.beq_refl q
theorem beq_ne {q r : Nat} (h : q ≠ r) : Nat.beq q r = false := by
 cases hb : Nat.beq q r
 ·rfl
 ·exact absurd (Nat.eq_of_beq_eq_true hb) h
section
variable {P : Program} {σ σ' : St} {E E' : Env} {w w' : World} {w0 : World} {lab0 : Nat → Lab} {oo : Nat → Value} {n : Nat} {a : Act}
theorem RowRel.rd {lab : Nat → Lab} {q : Nat} {row : Row} {v : Value} {S : Nat → Prop} (h : RowRel w lab q row v) (h1 : ∀ k, lab k = .row q → S k) (h2 : ∀ k, lab k = cond row.deep (.inn q) .st → S k) : Rd w S (.sl row.e row.t) [v] row.xs := by
 obtain ⟨css, ho, hl, hd, _⟩ := h
 obtain ⟨A, c, hv, hc1, hc2⟩ := ownsRow_slice ho
 have hall : All2 (fun c y => Rd w S row.t c y) css row.xs := by
  cases hdp : row.deep
  ·rw [hdp] at hd h2
   exact All2.imp (fun _ _ h => Rd.mono (fun k hk => h2 k hk) h) (show All2 (fun c y => Rd w (fun k => lab k = .st) row.t c y) css row.xs from hd)
  ·rw [hdp] at hd h2
   obtain ⟨Ls, k1, k2, k3⟩ := hd
   exact All3.two (R := fun c y => Rd w S row.t c y) (fun _ _ _ h => h) (k1.imp_mem (Q' := fun _ c y => Rd w S row.t c y) fun l c y hl' ho' => ho'.rd fun k hk => h2 k (k3 k (List.mem_flatten.2 ⟨l, hl', hk⟩)))
 refine ⟨A, _, c, by rw [hv], rfl, hc1, hc2, ?_⟩
 rcases ho.2 with ⟨_, h0⟩ | ⟨g, cap, cur, e, _⟩
 ·exact .inl h0
 ·rw [hv] at e
  injection e with e1 e2 e3
  subst e1
  exact .inr ⟨⟨g, 0, none⟩, css, rfl, h1 _ (hl g (by rw [hv]; rfl)), hall, ho.cells (by rw [hv]; rfl)⟩
def labTo (lab : Nat → Lab) (q : Nat) (p : Option Nat) : Nat → Lab := fun k => if lab k = .row q ∨ lab k = .inn q then labOf p else lab k
theorem labTo_ne {lab : Nat → Lab} {q : Nat} {p : Option Nat} {k : Nat} (h1 : lab k ≠ .row q) (h2 : lab k ≠ .inn q) : labTo lab q p k = lab k := by
 unfold labTo; rw [if_neg (by simp [h1, h2])]
theorem labTo_q {lab : Nat → Lab} {q : Nat} {p : Option Nat} {k : Nat} (h : lab k = .row q ∨ lab k = .inn q) : labTo lab q p k = labOf p := by
 unfold labTo; rw [if_pos h]
theorem labTo_rd {lab : Nat → Lab} {q : Nat} {p p' : Option Nat} {t : Ty} {cs : List Value} {x : t.den} (h : Rd w (fun k => lab k = labOf p') t cs x) : Rd w (fun k => labTo lab q p k = labOf (if p' = some q then p else p')) t cs x := by
 refine h.mono fun k hk => ?_
 by_cases e : p' = some q
 ·subst e
  rw [if_pos rfl]
  exact labTo_q (.inr hk)
 ·rw [if_neg e, labTo_ne (by rw [hk]; cases p' <;> simp [labOf]) (by
   rw [hk]
   cases p' with
   | none => simp [labOf]
   | some z => simp only [labOf, ne_eq, Lab.inn.injEq]; exact fun e' => e (by rw [e']))]
  exact hk
theorem cond_q (q r : Nat) (p : Option Nat) : (cond (Nat.beq r q) p (some r)) = if (some r : Option Nat) = some q then p else some r := by
 by_cases e : r = q
 ·subst e; rw [beq_self', if_pos rfl]; rfl
 ·rw [beq_ne e, if_neg (by simpa using e)]; rfl
theorem CRel.absorb {q : Nat} {p : Option Nat} {row : Row} (hq : σ.row q = some row) (hdp : row.deep = true ∨ p = none) (hr : RowRel w E.lab q row (E.rv q))
  (hrow : ∀ r, r ≠ q → σ'.row r = σ.row r) (hbox : ∀ b te cs, σ.box b = some (te, cs) → ∃ cs', σ'.box b = some (te, cs') ∧ cs'.length = cs.length) :
  ∀ {c : Cell} {v : Value}, CRel σ E w c v → CRel σ' { E with lab := labTo E.lab q p } w (intoRow q row p c) v
 | .undef, _, _ => trivial
 | .int _ _, _, h => h
 | .bool _, _, h => h
 | .str _, _, h => h
 | .err _, _, h => h
 | .bor _ _ _ _, _, h => ⟨h.1, labTo_rd (p' := none) h.2⟩
 | .nil, _, h => h
 | .sn e t xs none, v, h => labTo_rd (p' := none) h
 | .sn e t xs (some r), v, h => by
  have := labTo_rd (q := q) (p := p) (p' := some r) h
  rw [← cond_q] at this
  exact this
 | .full e t xs none, v, h => ⟨labTo_rd (p' := none) h.1, h.2⟩
 | .full e t xs (some r), v, h => by
  have := labTo_rd (q := q) (p := p) (p' := some r) h.1
  rw [← cond_q] at this
  exact ⟨this, h.2⟩
 | .own r, v, h => by
  obtain ⟨rfl, h1, h2⟩ := h
  by_cases e : r = q
  ·subst e
   simp only [intoRow, beq_self', cond_true]
   refine RowRel.rd hr (fun k hk => labTo_q (.inl hk)) fun k hk => ?_
   rcases hdp with hd | rfl
   ·rw [hd] at hk; exact labTo_q (.inr hk)
   ·cases hdd : row.deep
    ·rw [hdd] at hk
     have hk' : E.lab k = .st := hk
     exact (labTo_ne (by rw [hk']; simp) (by rw [hk']; simp)).trans hk'
    ·rw [hdd] at hk; exact labTo_q (.inr hk)
  ·simp only [intoRow, beq_ne e, cond_false]
   exact ⟨rfl, by rw [hrow r e]; exact h1, h2⟩
 | .part r lo m, v, h => by
  by_cases e : r = q
  ·subst e; simp only [intoRow, beq_self', cond_true]; trivial
  ·simp only [intoRow, beq_ne e, cond_false]
   obtain ⟨row', A, c, h1, h2⟩ := h
   exact ⟨row', A, c, by rw [hrow r e]; exact h1, h2⟩
 | .box b f, v, h => by
  obtain ⟨rfl, te, cs, h1, h2⟩ := h
  obtain ⟨cs', g1, g2⟩ := hbox b te cs h1
  exact ⟨rfl, te, cs', g1, by omega⟩
 | .mp b, v, h => by
  obtain ⟨rfl, te, cs, h1⟩ := h
  obtain ⟨cs', g1, _⟩ := hbox b te cs h1
  exact ⟨rfl, te, cs', g1⟩
 | .mset _ _, _, h => h
 | .elt r i f, v, h => by
  by_cases e : r = q
  ·subst e; simp only [intoRow, beq_self', cond_true]; trivial
  ·simp only [intoRow, beq_ne e, cond_false]
   obtain ⟨row', g, m, c, h1, h2⟩ := h
   exact ⟨row', g, m, c, by rw [hrow r e]; exact h1, h2⟩
 | .selt t x none f, v, h => by
  obtain ⟨ad, cs, h1, h2, h3, h4, h5⟩ := h
  refine ⟨ad, cs, h1, h2, ?_, labTo_rd (p' := none) h4, h5⟩
  have h3' : E.lab ad.block = .st := h3
  exact (labTo_ne (by rw [h3']; simp) (by rw [h3']; simp)).trans h3'
 | .selt t x (some r) f, v, h => by
  obtain ⟨ad, cs, h1, h2, h3, h4, h5⟩ := h
  have h4' := labTo_rd (q := q) (p := p) (p' := some r) h4
  rw [← cond_q] at h4'
  refine ⟨ad, cs, h1, h2, ?_, h4', h5⟩
  have h3' : E.lab ad.block = .inn r := h3
  show labTo E.lab q p ad.block = _
  by_cases e : r = q
  ·subst e
   rw [beq_self']
   exact labTo_q (.inr h3')
  ·rw [beq_ne e]
   exact (labTo_ne (by rw [h3']; simp) (by rw [h3']; simpa using e)).trans h3'
 | .fn f caps, v, h => by
  obtain ⟨rfl, h⟩ := h
  refine ⟨rfl, fun x hx => ?_⟩
  obtain ⟨te, cs, h1, h2⟩ := h x hx
  obtain ⟨cs', g1, g2⟩ := hbox _ _ _ h1
  exact ⟨te, cs', g1, by omega⟩
theorem all2_map {α β γ : Type} {Q : α → β → Prop} {Q' : γ → β → Prop} (f : α → γ) (hf : ∀ a b, Q a b → Q' (f a) b) : ∀ {as : List α} {bs : List β}, All2 Q as bs → All2 Q' (as.map f) bs
 | [], [], _ => trivial
 | _ :: _, _ :: _, h => ⟨hf _ _ h.1, all2_map f hf h.2⟩
theorem SRel.map {f : Cell → Cell} (hf : ∀ {c : Cell} {v : Value}, CRel σ E w c v → CRel σ' E' w' (f c) v) : ∀ {s : SV} {v : Value}, SRel σ E w s v → SRel σ' E' w' (s.map f) v
 | .c _, _, h => hf h
 | .agg l, _, h => by
  obtain ⟨arr, e, h⟩ := h
  exact ⟨arr, e, all2_map f (fun _ _ h => hf h) h⟩
 | .tup l, _, h => by
  obtain ⟨arr, e, h⟩ := h
  refine ⟨arr, e, all2_map _ (fun p u h => ?_) h⟩
  rcases p with ⟨b, l⟩
  cases b
  ·exact all2_map f (fun _ _ h => hf h) (show All2 (CRel σ E w) l [u] from h)
  ·obtain ⟨ar, e, h⟩ : ∃ ar : Array Value, u = .agg ar ∧ All2 (CRel σ E w) l ar.toList := h
   exact (⟨ar, e, all2_map f (fun _ _ h => hf h) h⟩ : ∃ ar : Array Value, u = .agg ar ∧ All2 (CRel σ' E' w') (l.map f) ar.toList)
theorem R.absorb (h : R w0 lab0 oo n σ E a w) {q : Nat} {p : Option Nat} {σ' : St} (hs : Fw.absorb q p σ = some σ') :
  R w0 lab0 oo n σ' { E with lab := labTo E.lab q p } a w ∧ ∃ row, σ.row q = some row ∧ (row.deep = true ∨ p = none) ∧ σ' = { (σ.mapc (intoRow q row p)) with row := upd σ.row q none } := by
 unfold Fw.absorb at hs
 split at hs
 ·rename_i row hq
  cases hdp : (row.deep || p.isNone)
  ·rw [hdp] at hs; cases hs
  ·rw [hdp] at hs
   simp only [cond_true, Option.some.injEq] at hs
   subst hs
   have hd : row.deep = true ∨ p = none := by simpa using hdp
   refine ⟨?_, row, hq, hd, rfl⟩
   have hc : ∀ {c : Cell} {v : Value}, CRel σ E w c v → CRel ({ (σ.mapc (intoRow q row p)) with row := upd σ.row q none } : St) { E with lab := labTo E.lab q p } w (intoRow q row p c) v :=
    CRel.absorb hq hd (h.rows q row hq) (fun r e => upd_ne _ _ e) (fun b te cs hb => ⟨cs.map (intoRow q row p), by simp only [St.mapc, hb], by simp⟩)
   refine ⟨h.bound, h.size, h.defers, fun t => (h.slots t).map hc, fun b te cs hb => ?_, fun r row' hr => ?_, ?_⟩
   ·simp only [St.mapc] at hb
    split at hb
    ·rename_i te' cs' hb'
     injection hb with hb
     injection hb with e1 e2
     subst e1 e2
     obtain ⟨arr, k1, k2, k3, k4⟩ := h.boxes b _ _ hb'
     exact ⟨arr, k1, (labTo_ne (by rw [k2]; simp) (by rw [k2]; simp)).trans k2, all2_map _ (fun _ _ h => hc h) k3, k4⟩
    ·cases hb
   ·by_cases e : r = q
    ·subst e
     have : (upd σ.row r none) r = some row' := hr
     rw [upd_same] at this
     cases this
    ·have hr' : σ.row r = some row' := (upd_ne _ _ e).symm.trans hr
     obtain ⟨css, k1, k2, k3, k4⟩ := h.rows r row' hr'
     have hne : ∀ k, E.lab k = .row r → labTo E.lab q p k = .row r := fun k hk => (labTo_ne (by rw [hk]; simpa using e) (by rw [hk]; simp)).trans hk
     have hne2 : ∀ k, E.lab k = .inn r → labTo E.lab q p k = .inn r := fun k hk => (labTo_ne (by rw [hk]; simp) (by rw [hk]; simpa using e)).trans hk
     have hne3 : ∀ k, E.lab k = .st → labTo E.lab q p k = .st := fun k hk => (labTo_ne (by rw [hk]; simp) (by rw [hk]; simp)).trans hk
     refine ⟨css, k1, fun k hk => hne k (k2 k hk), ?_, k4⟩
     cases hdd : row'.deep
     ·rw [hdd] at k3
      exact All2.imp (fun _ _ h => Rd.mono (fun k hk => hne3 k hk) h) (show All2 (fun c y => Rd w (fun k => E.lab k = .st) row'.t c y) css row'.xs from k3)
     ·rw [hdd] at k3
      obtain ⟨Ls, j1, j2, j3⟩ := k3
      exact ⟨Ls, j1, j2, fun k hk => hne2 k (j3 k hk)⟩
   ·exact ⟨h.same.os, h.same.tape, h.same.output, h.same.size, fun k hk hl => ⟨(labTo_ne (by rw [(h.same.old k hk hl).1]; simp) (by rw [(h.same.old k hk hl).1]; simp)).trans (h.same.old k hk hl).1, (h.same.old k hk hl).2⟩⟩
 ·cases hs
end
end Go.Fw
namespace Go.Fw
open Go.RowKit
theorem memB_iff : ∀ {x : Nat} {l : List Nat}, memB x l = true ↔ x ∈ l
 | _, [] => by simp [memB]
 | x, y :: ys => by simp [memB, memB_iff (x := x) (l := ys)]
theorem nodupB_nodup : ∀ {l : List Nat}, nodupB l = true → l.Nodup
 | [], _ => List.nodup_nil
 | x :: xs, h => by
  simp only [nodupB, Bool.and_eq_true, Bool.not_eq_true'] at h
  refine List.nodup_cons.2 ⟨fun hm => ?_, nodupB_nodup h.2⟩
  rw [memB_iff.2 hm] at h
  cases h.1
section
variable {P : Program} {σ σ' : St} {E E' : Env} {w w' : World} {w0 : World} {lab0 : Nat → Lab} {oo : Nat → Value} {n : Nat} {a : Act}
theorem zc_rel {c : Cell} {v : Value} (h : zc c v = true) : CRel σ E w c v := by
 unfold zc at h
 split at h
 ·simp only [Bool.and_eq_true, decide_eq_true_eq] at h
  obtain ⟨rfl, rfl⟩ := h
  rfl
 ·simp only [beq_iff_eq] at h
  subst h
  rfl
 ·rename_i s s'
  simp only [Bool.and_eq_true] at h
  have h1 : s = ByteArray.empty := ByteArray.ext (Array.eq_empty_of_size_eq_zero (Nat.eq_of_beq_eq_true h.1))
  have h2 : s' = ByteArray.empty := ByteArray.ext (Array.eq_empty_of_size_eq_zero (Nat.eq_of_beq_eq_true h.2))
  subst h1 h2
  rfl
 ·rfl
 ·rename_i b
  exact .inl ⟨rfl, by simpa using h⟩
 ·trivial
 ·cases h
theorem zcs_rel : ∀ {cs : List Cell} {vs : List Value}, zcs cs vs = true → All2 (CRel σ E w) cs vs ∧ ∀ u ∈ vs, u.oneCell' = true
 | [], [], _ => ⟨trivial, fun u hu => by simp at hu⟩
 | [], _ :: _, h => by cases h
 | _ :: _, [], h => by cases h
 | c :: cs, v :: vs, h => by
  simp only [zcs, Bool.and_eq_true] at h
  obtain ⟨h1, h2⟩ := zcs_rel (cs := cs) (vs := vs) h.2.2
  exact ⟨⟨zc_rel h.1, h1⟩, fun u hu => by
   rcases List.mem_cons.1 hu with rfl | hu
   ·exact h.2.1
   ·exact h2 u hu⟩
theorem cells_rel {s : SV} {cs : List Cell} {v : Value} (h : s.cells = some cs) (hs : SRel σ E w s v) : All2 (CRel σ E w) cs v.cells.toList := by
 cases s with
 | c x =>
  have hx : x ≠ .undef := fun e => by subst e; cases h
  have h' : cs = [x] := by cases x <;> first | exact absurd rfl hx | (simp only [SV.cells, Option.some.injEq] at h; exact h.symm)
  subst h'
  have hp := CRel.noagg hx hs
  have : v.cells = #[v] := by
   cases v <;> first | rfl | exact absurd rfl (hp _)
  rw [this]
  exact ⟨hs, trivial⟩
 | agg l =>
  simp only [SV.cells, Option.some.injEq] at h
  subst h
  obtain ⟨arr, rfl, hs⟩ := hs
  exact hs
 | tup l => cases h
theorem fold_set (off : Nat) : ∀ (vs : List Value) (i : Nat) (cells : Array Value), off + i + vs.length ≤ cells.size →
  ((vs.zipIdx i).foldl (fun cs (p : Value × Nat) => cs.setIfInBounds (off + p.2) p.1) cells).toList = overL cells.toList (off + i) vs
 | [], i, cells, h => by simp [overL]
 | v :: vs, i, cells, h => by
  simp only [List.length_cons] at h
  have ih := fold_set off vs (i + 1) (cells.setIfInBounds (off + i) v) (by simp; omega)
  simp only [List.zipIdx_cons, List.foldl_cons, ih, Array.toList_setIfInBounds, overL]
  have e := list_seg_step cells.toList (off + i) v vs (by simp; omega)
  simp only [List.length_cons]
  rw [← Nat.add_assoc off i 1]
  simpa [Nat.add_assoc, Nat.add_comm, Nat.add_left_comm] using e
theorem All2.over {α β : Type} {Q : α → β → Prop} {as us : List α} {bs vs : List β} (h : All2 Q as bs) (h' : All2 Q us vs) (f : Nat) : All2 Q (overL as f us) (overL bs f vs) := by
 unfold overL
 rw [h'.len]
 exact ((h.take f).app h').app (h.drop _)
theorem fillA_sound {place : Nat → Option (Nat × Nat)} : ∀ {ps : List (Nat × List Cell)} {vs : List (Nat × Value)} {cs cs' : List Cell} {arr : Array Value},
  fillA place cs ps = some cs' → All2 (fun (p : Nat × List Cell) (q : Nat × Value) => p.1 = q.1 ∧ All2 (CRel σ E w) p.2 q.2.cells.toList) ps vs → All2 (CRel σ E w) cs arr.toList →
  ∃ arr', Instr.fill place arr vs = some arr' ∧ All2 (CRel σ E w) cs' arr'.toList
 | [], [], cs, cs', arr, h, _, hc => by
  simp only [fillA, Option.some.injEq] at h
  subst h
  exact ⟨arr, rfl, hc⟩
 | [], _ :: _, _, _, _, _, h, _ => h.elim
 | _ :: _, [], _, _, _, _, h, _ => h.elim
 | (i, x) :: ps, (i', v) :: vs, cs, cs', arr, h, hp, hc => by
  obtain ⟨⟨e, hx⟩, hp⟩ := hp
  have e' : i = i' := e
  subst e'
  have hx' : All2 (CRel σ E w) x v.cells.toList := hx
  simp only [fillA] at h
  split at h
  ·rename_i off sz hpl
   cases hq : (Nat.beq x.length sz && Nat.ble (off + x.length) cs.length)
   ·rw [hq] at h; cases h
   ·rw [hq] at h
    simp only [Bool.and_eq_true] at hq
    have h1 := Nat.eq_of_beq_eq_true hq.1
    have h2 := Nat.le_of_ble_eq_true hq.2
    have hl : x.length = v.cells.size := by rw [hx'.len, Array.length_toList]
    have hl2 : cs.length = arr.size := by rw [hc.len, Array.length_toList]
    have hf := fold_set off v.cells.toList 0 arr (by rw [Array.length_toList]; omega)
    have hcond : (v.cells.size ≠ sz || off + v.cells.size > arr.size) = false := by
     simp only [ne_eq, Bool.or_eq_false_iff, decide_eq_false_iff_not]
     exact ⟨by omega, by omega⟩
    simp only [cond_true] at h
    have hfold : (v.cells.zipIdx.foldl (fun cs (p : Value × Nat) => cs.setIfInBounds (off + p.2) p.1) arr).toList = overL arr.toList off v.cells.toList := by
     rw [← Array.foldl_toList, Array.toList_zipIdx]
     exact hf
    obtain ⟨arr', k1, k2⟩ := fillA_sound (arr := v.cells.zipIdx.foldl (fun cs (p : Value × Nat) => cs.setIfInBounds (off + p.2) p.1) arr) h hp (by rw [hfold]; exact hc.over hx' off)
    refine ⟨arr', ?_, k2⟩
    simp only [Instr.fill, hpl]
    rw [if_neg (by simpa using hcond)]
    exact k1
  ·cases h
theorem partsOf_rel (h : R w0 lab0 oo n σ E a w) : ∀ {parts : List (Nat × Operand)} {ps : List (Nat × List Cell)}, partsOf σ parts = some ps →
  All2 (fun (p : Nat × List Cell) (q : Nat × Value) => p.1 = q.1 ∧ All2 (CRel σ E w) p.2 q.2.cells.toList) ps (parts.map fun q => (q.1, a.eval q.2))
 | [], ps, e => by simp only [partsOf, Option.some.injEq] at e; subst e; trivial
 | (i, x) :: rest, ps, e => by
  simp only [partsOf] at e
  split at e
  ·rename_i cs ps' h1 h2
   injection e with e
   subst e
   exact ⟨⟨rfl, cells_rel h1 (ev_rel h x)⟩, partsOf_rel h h2⟩
  ·cases e
theorem chunks_flatten {α : Type} {m : Nat} : ∀ {k : Nat} {l : List α}, l.length = k * m → (chunks m k l).flatten = l
 | 0, l, h => by have : l = [] := List.eq_nil_of_length_eq_zero (by omega); subst this; rfl
 | k + 1, l, h => by
  simp only [chunks, List.flatten_cons]
  rw [chunks_flatten (by rw [List.length_drop, h, Nat.succ_mul]; omega), List.take_append_drop]
theorem chunks_rel {α β : Type} {Q : α → β → Prop} {m : Nat} : ∀ {k : Nat} {l : List α} {l' : List β}, All2 Q l l' → All2 (All2 Q) (chunks m k l) (chunks m k l')
 | 0, _, _, _ => trivial
 | k + 1, _, _, h => ⟨h.take m, chunks_rel (h.drop m)⟩
theorem ownsIn_app : ∀ {l l' : List Cell}, ownsIn (l ++ l') = ownsIn l ++ ownsIn l'
 | [], _ => rfl
 | c :: l, l' => by cases c <;> simp [ownsIn, ownsIn_app (l := l) (l' := l')]
theorem castL_some {t t' : Ty} {x : List t.den} {y : List t'.den} (h : castL t t' x = some y) : ∃ e : t = t', e ▸ x = y := by
 unfold castL at h
 split at h
 ·rename_i e
  exact ⟨e, Option.some.inj h⟩
 ·cases h
def ofRow (lab : Nat → Lab) (q k : Nat) : Prop := lab k = .row q ∨ lab k = .inn q
theorem RowRel.own {lab : Nat → Lab} {q : Nat} {row : Row} {v : Value} (h : RowRel w lab q row v) (hd : row.deep = true) :
  ∃ L : List Nat, Own w (.sl row.e row.t) L [v] row.xs ∧ L.Nodup ∧ ∀ k ∈ L, ofRow lab q k := by
 obtain ⟨css, ho, hl, hdp, _⟩ := h
 rw [hd] at hdp
 obtain ⟨Ls, k1, k2, k3⟩ := hdp
 refine ⟨v.ownBlock.toList ++ Ls.flatten, ⟨v, css, Ls, rfl, ho, rfl, k1⟩, ?_, fun k hk => ?_⟩
 ·refine List.nodup_append.2 ⟨by cases v.ownBlock <;> simp, k2, fun x hx y hy e => ?_⟩
  subst e
  have h1 := hl x (by simpa using hx)
  have h2 := k3 x hy
  rw [h1] at h2
  cases h2
 ·rcases List.mem_append.1 hk with hk | hk
  ·exact .inl (hl k (by simpa using hk))
  ·exact .inr (k3 k hk)
theorem packI_some {k : IntKind} {cs : List Cell} {y : Int} (h : packI k cs = some y) : cs = [.int k y] := by
 unfold packI at h
 split at h
 ·rename_i k' n'
  cases hk : ikEq k k'
  ·rw [hk] at h; cases h
  ·rw [hk] at h
   obtain rfl := ikEq_eq hk
   injection h with h
   subst h
   rfl
 ·cases h
theorem packF_some {g : Nat} {cs : List Cell} {y : Unit} (h : packF g cs = some y) : cs = [.fn g []] := by
 unfold packF at h
 split at h
 ·rename_i g'
  cases hb : Nat.beq g' g
  ·rw [hb] at h; cases h
  ·rw [Nat.eq_of_beq_eq_true hb]
 ·cases h
theorem packB_some {cs : List Cell} {y : Bool} (h : packB cs = some y) : cs = [.bool y] := by
 unfold packB at h
 split at h
 ·injection h with h; subst h; rfl
 ·cases h
theorem packT_some {cs : List Cell} {y : ByteArray} (h : packT cs = some y) : cs = [.str y] := by
 unfold packT at h
 split at h
 ·injection h with h; subst h; rfl
 ·cases h
theorem packE_some {cs : List Cell} {y : Bool} (h : packE cs = some y) : cs = [.err y] := by
 unfold packE at h
 split at h
 ·injection h with h; subst h; rfl
 ·cases h
theorem all2_one {c : Cell} {us : List Value} (h : All2 (CRel σ E w) [c] us) : ∃ u, us = [u] ∧ CRel σ E w c u := by
 cases us with
 | nil => exact h.elim
 | cons u us => cases us with
  | nil => exact ⟨u, rfl, h.1⟩
  | cons _ _ => exact h.2.elim
theorem packLD_some {e : Nat} {t : Ty} {cs : List Cell} {y : List t.den} (h : packLD σ.row e t cs = some y) : (cs = [.nil] ∧ y = []) ∨ ∃ r row, cs = [.own r] ∧ σ.row r = some row ∧ row.e = e ∧ row.deep = true ∧ ∃ e : row.t = t, e ▸ row.xs = y := by
 unfold packLD at h
 split at h
 ·injection h with h; exact .inl ⟨rfl, h.symm⟩
 ·rename_i r
  split at h
  ·rename_i row hr
   cases hq : (Nat.beq row.e e && row.deep)
   ·rw [hq] at h; cases h
   ·rw [hq] at h
    simp only [Bool.and_eq_true] at hq
    exact .inr ⟨r, row, rfl, hr, Nat.eq_of_beq_eq_true hq.1, hq.2, castL_some h⟩
  ·cases h
 ·cases h
theorem pack_pair {α β : Type} {x : Option α} {y : Option β} {z : α × β} (h : pairO x y = some z) : x = some z.1 ∧ y = some z.2 := by
 unfold pairO at h
 split at h
 ·injection h with h; subst h; exact ⟨rfl, rfl⟩
 ·cases h
theorem packD_own (h : R w0 lab0 oo n σ E a w) : ∀ {t : Ty} {cs : List Cell} {us : List Value} {y : t.den}, packD σ.row t cs = some y → All2 (CRel σ E w) cs us → (ownsIn cs).Nodup →
  ∃ L : List Nat, Own w t L us y ∧ L.Nodup ∧ ∀ k ∈ L, ∃ q ∈ ownsIn cs, ofRow E.lab q k
 | .int k, cs, us, y, e, hc, _ => by
  obtain rfl := packI_some e
  obtain ⟨u, rfl, hu⟩ := all2_one hc
  obtain rfl : u = _ := hu
  exact ⟨[], ⟨rfl, rfl⟩, List.nodup_nil, fun k hk => by simp at hk⟩
 | .bool, cs, us, y, e, hc, _ => by
  obtain rfl := packB_some e
  obtain ⟨u, rfl, hu⟩ := all2_one hc
  obtain rfl : u = _ := hu
  exact ⟨[], ⟨rfl, rfl⟩, List.nodup_nil, fun k hk => by simp at hk⟩
 | .fnc _, cs, us, y, e, hc, _ => by
  obtain rfl := packF_some e
  obtain ⟨u, rfl, hu⟩ := all2_one hc
  obtain ⟨rfl, _⟩ := hu
  exact ⟨[], ⟨rfl, rfl⟩, List.nodup_nil, fun k hk => by simp at hk⟩
 | .err, cs, us, y, e, hc, _ => by
  obtain rfl := packE_some e
  obtain ⟨u, rfl, hu⟩ := all2_one hc
  exact ⟨[], ⟨⟨u, rfl, hu⟩, rfl⟩, List.nodup_nil, fun k hk => by simp at hk⟩
 | .str, cs, us, y, e, hc, _ => by
  obtain rfl := packT_some e
  obtain ⟨u, rfl, hu⟩ := all2_one hc
  obtain rfl : u = _ := hu
  exact ⟨[], ⟨rfl, rfl⟩, List.nodup_nil, fun k hk => by simp at hk⟩
 | .sl e' t, cs, us, y, e, hc, _ => by
  rcases packLD_some (show packLD σ.row e' t cs = some y from e) with ⟨rfl, rfl⟩ | ⟨r, row, rfl, hr, rfl, hd, rfl, rfl⟩
  ·obtain ⟨u, rfl, hu⟩ := all2_one hc
   obtain rfl : u = _ := hu
   exact ⟨[], ⟨_, [], [], rfl, World.ownsRow_nil w 0 e' t.nc, rfl, trivial⟩, List.nodup_nil, fun k hk => by simp at hk⟩
  ·obtain ⟨u, rfl, hu⟩ := all2_one hc
   obtain ⟨rfl, _⟩ := hu
   obtain ⟨L, k1, k2, k3⟩ := (h.rows r row hr).own hd
   exact ⟨L, k1, k2, fun k hk => ⟨r, by simp [ownsIn], k3 k hk⟩⟩
 | .pair t1 t2, cs, us, y, e, hc, hn => by
  obtain ⟨e1, e2⟩ := pack_pair e
  have hown : ownsIn cs = ownsIn (cs.take t1.nc) ++ ownsIn (cs.drop t1.nc) := by rw [← ownsIn_app, List.take_append_drop]
  rw [hown] at hn
  have hn' := List.nodup_append.1 hn
  obtain ⟨L1, j1, j2, j3⟩ := packD_own h e1 (hc.take t1.nc) hn'.1
  obtain ⟨L2, i1, i2, i3⟩ := packD_own h e2 (hc.drop t1.nc) hn'.2.1
  refine ⟨L1 ++ L2, ⟨us.take t1.nc, us.drop t1.nc, L1, L2, (List.take_append_drop _ _).symm, rfl, j1, i1⟩, List.nodup_append.2 ⟨j2, i2, fun x hx z hz e => ?_⟩, fun k hk => ?_⟩
  ·subst e
   obtain ⟨q, hq, hq'⟩ := j3 x hx
   obtain ⟨r, hr, hr'⟩ := i3 x hz
   have : q = r := by
    rcases hq' with hq' | hq' <;> rcases hr' with hr' | hr' <;> rw [hq'] at hr' <;> first | cases hr' | (injection hr')
    all_goals rfl
   subst this
   exact hn'.2.2 q hq q hr rfl
  ·rw [hown]
   rcases List.mem_append.1 hk with hk | hk
   ·obtain ⟨q, hq, hq'⟩ := j3 k hk
    exact ⟨q, List.mem_append.2 (.inl hq), hq'⟩
   ·obtain ⟨q, hq, hq'⟩ := i3 k hk
    exact ⟨q, List.mem_append.2 (.inr hq), hq'⟩
theorem packD_flat {look : Nat → Option Row} {t : Ty} : ∀ {cs : List Cell} {us : List Value} {y : t.den}, packD look t cs = some y → All2 (CRel σ E w) cs us → ownsIn cs = [] → (∀ w', Own w' t [] us y) := by
 induction t with
 | int k =>
  intro cs us y e hc _ w'
  obtain rfl := packI_some e
  obtain ⟨u, rfl, hu⟩ := all2_one hc
  obtain rfl : u = _ := hu
  exact ⟨rfl, rfl⟩
 | bool =>
  intro cs us y e hc _ w'
  obtain rfl := packB_some e
  obtain ⟨u, rfl, hu⟩ := all2_one hc
  obtain rfl : u = _ := hu
  exact ⟨rfl, rfl⟩
 | fnc g =>
  intro cs us y e hc _ w'
  obtain rfl := packF_some e
  obtain ⟨u, rfl, hu⟩ := all2_one hc
  obtain ⟨rfl, _⟩ := hu
  exact ⟨rfl, rfl⟩
 | err =>
  intro cs us y e hc _ w'
  obtain rfl := packE_some e
  obtain ⟨u, rfl, hu⟩ := all2_one hc
  exact ⟨⟨u, rfl, hu⟩, rfl⟩
 | str =>
  intro cs us y e hc _ w'
  obtain rfl := packT_some e
  obtain ⟨u, rfl, hu⟩ := all2_one hc
  obtain rfl : u = _ := hu
  exact ⟨rfl, rfl⟩
 | sl e' t _ =>
  intro cs us y e hc ho w'
  have e : packLD look e' t cs = some y := e
  unfold packLD at e
  split at e
  ·injection e with e
   subst e
   obtain ⟨u, rfl, hu⟩ := all2_one hc
   obtain rfl : u = _ := hu
   exact ⟨_, [], [], rfl, World.ownsRow_nil w' 0 e' t.nc, rfl, trivial⟩
  ·simp [ownsIn] at ho
  ·cases e
 | pair t1 t2 ih1 ih2 =>
  intro cs us y e hc ho w'
  obtain ⟨e1, e2⟩ := pack_pair e
  have hown : ownsIn cs = ownsIn (cs.take t1.nc) ++ ownsIn (cs.drop t1.nc) := by rw [← ownsIn_app, List.take_append_drop]
  rw [hown] at ho
  have ho' := List.append_eq_nil_iff.1 ho
  exact ⟨us.take t1.nc, us.drop t1.nc, [], [], (List.take_append_drop _ _).symm, rfl, ih1 e1 (hc.take t1.nc) ho'.1 w', ih2 e2 (hc.drop t1.nc) ho'.2 w'⟩
theorem packS_rd : ∀ {t : Ty} {cs : List Cell} {us : List Value} {y : t.den}, packS t cs = some y → All2 (CRel σ E w) cs us → Rd w (fun k => E.lab k = .st) t us y
 | .int k, cs, us, y, e, hc => by
  obtain rfl := packI_some e
  obtain ⟨u, rfl, hu⟩ := all2_one hc
  obtain rfl : u = _ := hu
  rfl
 | .bool, cs, us, y, e, hc => by
  obtain rfl := packB_some e
  obtain ⟨u, rfl, hu⟩ := all2_one hc
  obtain rfl : u = _ := hu
  rfl
 | .fnc _, cs, us, y, e, hc => by
  obtain rfl := packF_some e
  obtain ⟨u, rfl, hu⟩ := all2_one hc
  obtain ⟨rfl, _⟩ := hu
  rfl
 | .err, cs, us, y, e, hc => by
  obtain rfl := packE_some e
  obtain ⟨u, rfl, hu⟩ := all2_one hc
  exact ⟨u, rfl, hu⟩
 | .str, cs, us, y, e, hc => by
  obtain rfl := packT_some e
  obtain ⟨u, rfl, hu⟩ := all2_one hc
  obtain rfl : u = _ := hu
  rfl
 | .sl e' t, cs, us, y, e, hc => by
  have e : packLS e' t cs = some y := e
  unfold packLS at e
  split at e
  ·injection e with e
   subst e
   obtain ⟨u, rfl, hu⟩ := all2_one hc
   obtain rfl : u = _ := hu
   exact ⟨none, 0, 0, rfl, rfl, Nat.le_refl _, Nat.zero_le _, .inl rfl⟩
  ·rename_i e1 t' xs e0
   cases hq : Nat.beq e1 e'
   ·rw [hq] at e; cases e
   ·rw [hq] at e
    obtain ⟨rfl, rfl⟩ := castL_some e
    obtain rfl := Nat.eq_of_beq_eq_true hq
    obtain ⟨u, rfl, hu⟩ := all2_one hc
    exact hu
  ·cases e
 | .pair t1 t2, cs, us, y, e, hc => by
  obtain ⟨e1, e2⟩ := pack_pair e
  exact ⟨us.take t1.nc, us.drop t1.nc, (List.take_append_drop _ _).symm, packS_rd e1 (hc.take t1.nc), packS_rd e2 (hc.drop t1.nc)⟩
theorem setf_rel : ∀ {t : Ty} {x : t.den} {f : Nat} {c : Cell} {y : t.den} {u : Value}, setf t x f c = some y → CRel σ E w c u → f < t.nc ∧ u.oneCell' = true ∧
  (∀ (S : Nat → Prop) (w1 : World) (cs : List Value), Rd w1 S t cs x → Rd w1 S t (overL cs f [u]) y) ∧ (∀ (l : List Nat) (w1 : World) (cs : List Value), Own w1 t l cs x → Own w1 t l (overL cs f [u]) y)
 | .int k, x, f, c, y, u, e, hc => by
  have e : cond (Nat.beq f 0) (packI k [c]) none = some y := e
  cases hq : Nat.beq f 0
  ·rw [hq] at e; cases e
  ·rw [hq] at e
   obtain rfl := Nat.eq_of_beq_eq_true hq
   have := packI_some e
   injection this with this
   subst this
   obtain rfl : u = _ := hc
   refine ⟨Nat.one_pos, rfl, fun S w1 cs h => ?_, fun l w1 cs h => ?_⟩
   ·obtain rfl := h; rfl
   ·obtain ⟨rfl, rfl⟩ := h; exact ⟨rfl, rfl⟩
 | .fnc _, x, f, c, y, u, e, hc => by cases e
 | .err, x, f, c, y, u, e, hc => by cases e
 | .bool, x, f, c, y, u, e, hc => by
  have e : cond (Nat.beq f 0) (packB [c]) none = some y := e
  cases hq : Nat.beq f 0
  ·rw [hq] at e; cases e
  ·rw [hq] at e
   obtain rfl := Nat.eq_of_beq_eq_true hq
   have := packB_some e
   injection this with this
   subst this
   obtain rfl : u = _ := hc
   refine ⟨Nat.one_pos, rfl, fun S w1 cs h => ?_, fun l w1 cs h => ?_⟩
   ·obtain rfl := h; rfl
   ·obtain ⟨rfl, rfl⟩ := h; exact ⟨rfl, rfl⟩
 | .str, x, f, c, y, u, e, hc => by
  have e : cond (Nat.beq f 0) (packT [c]) none = some y := e
  cases hq : Nat.beq f 0
  ·rw [hq] at e; cases e
  ·rw [hq] at e
   obtain rfl := Nat.eq_of_beq_eq_true hq
   have := packT_some e
   injection this with this
   subst this
   obtain rfl : u = _ := hc
   refine ⟨Nat.one_pos, rfl, fun S w1 cs h => ?_, fun l w1 cs h => ?_⟩
   ·obtain rfl := h; rfl
   ·obtain ⟨rfl, rfl⟩ := h; exact ⟨rfl, rfl⟩
 | .sl _ _, _, _, _, _, _, e, _ => by cases e
 | .pair t1 t2, x, f, c, y, u, e, hc => by
  have e : cond (Nat.blt f t1.nc) (match setf t1 x.1 f c with | some y => some (y, x.2) | none => none) (match setf t2 x.2 (f - t1.nc) c with | some y => some (x.1, y) | none => none) = some y := e
  cases hq : Nat.blt f t1.nc
  ·rw [hq] at e
   simp only [cond_false] at e
   split at e
   ·rename_i z hz
    injection e with e
    subst e
    have hq' : ¬ f < t1.nc := by intro hlt; rw [show Nat.blt f t1.nc = true from by simpa using hlt] at hq; cases hq
    obtain ⟨h1, h2, h3, h4⟩ := setf_rel hz hc
    have key : ∀ (c1 c2 : List Value), c1.length = t1.nc → overL (c1 ++ c2) f [u] = c1 ++ overL c2 (f - t1.nc) [u] := by
     intro c1 c2 hl
     have e1 : f = c1.length + (f - t1.nc) := by omega
     unfold overL
     conv => lhs; rw [e1]
     rw [List.take_length_add_append, Nat.add_assoc, List.drop_length_add_append]
     simp
    refine ⟨by simp only [Ty.nc]; omega, h2, fun S w1 cs h => ?_, fun l w1 cs h => ?_⟩
    ·obtain ⟨c1, c2, rfl, k1, k2⟩ := h
     rw [key c1 c2 k1.len]
     exact ⟨c1, _, rfl, k1, h3 S w1 c2 k2⟩
    ·obtain ⟨c1, c2, L1, L2, rfl, rfl, k1, k2⟩ := h
     rw [key c1 c2 k1.len]
     exact ⟨c1, _, L1, L2, rfl, rfl, k1, h4 _ w1 c2 k2⟩
   ·cases e
  ·rw [hq] at e
   simp only [cond_true] at e
   have hlt : f < t1.nc := by simpa using hq
   split at e
   ·rename_i z hz
    injection e with e
    subst e
    obtain ⟨h1, h2, h3, h4⟩ := setf_rel hz hc
    have key : ∀ (c1 c2 : List Value), c1.length = t1.nc → overL (c1 ++ c2) f [u] = overL c1 f [u] ++ c2 := by
     intro c1 c2 hl
     unfold overL
     simp only [List.length_cons, List.length_nil]
     rw [List.take_append_of_le_length (by omega), List.drop_append_of_le_length (by omega)]
     simp
    refine ⟨by simp only [Ty.nc]; omega, h2, fun S w1 cs h => ?_, fun l w1 cs h => ?_⟩
    ·obtain ⟨c1, c2, rfl, k1, k2⟩ := h
     rw [key c1 c2 k1.len]
     exact ⟨_, c2, rfl, h3 S w1 c1 k1, k2⟩
    ·obtain ⟨c1, c2, L1, L2, rfl, rfl, k1, k2⟩ := h
     rw [key c1 c2 k1.len]
     exact ⟨_, c2, L1, L2, rfl, rfl, h4 _ w1 c1 k1, k2⟩
   ·cases e
end
end Go.Fw
namespace Go.Fw
open Go.RowKit
section
variable {P : Program} {σ σ' : St} {E E' : Env} {w w' : World} {w0 : World} {lab0 : Nat → Lab} {oo : Nat → Value} {n : Nat} {a : Act}
theorem ofRow_one {lab : Nat → Lab} {q r k : Nat} (h : ofRow lab q k) (h' : ofRow lab r k) : q = r := by
 rcases h with h | h <;> rcases h' with h' | h' <;> rw [h] at h' <;> first | cases h' | (injection h')
 all_goals rfl
theorem R.absorbs {p : Option Nat} : ∀ {qs : List Nat} {σ σ' : St} {E : Env}, R w0 lab0 oo n σ E a w → Fw.absorbs p qs σ = some σ' → (∀ r, p = some r → r ∉ qs) →
  ∃ lab', R w0 lab0 oo n σ' { E with lab := lab' } a w ∧ (∀ k q, q ∈ qs → ofRow E.lab q k → lab' k = labOf p) ∧ (∀ k, (∀ q ∈ qs, ¬ ofRow E.lab q k) → lab' k = E.lab k) ∧ (∀ r, r ∉ qs → σ'.row r = σ.row r) ∧
   (∀ q ∈ qs, ∃ row, σ.row q = some row)
 | [], σ, σ', E, h, hs, _ => by
  simp only [Fw.absorbs, Option.some.injEq] at hs
  subst hs
  exact ⟨E.lab, h, fun _ _ h => by simp at h, fun _ _ => rfl, fun _ _ => rfl, fun _ h => by simp at h⟩
 | q :: qs, σ, σ', E, h, hs, hp => by
  simp only [Fw.absorbs] at hs
  split at hs
  ·rename_i σ1 h1
   obtain ⟨g, row, hrow, _, e1⟩ := h.absorb h1
   obtain ⟨lab', k1, k2, k3, k4, k5⟩ := R.absorbs g hs (fun r hr hm => hp r hr (by simp [hm]))
   have hrow1 : ∀ r, r ≠ q → σ1.row r = σ.row r := fun r hr => by rw [e1]; exact upd_ne _ _ hr
   refine ⟨lab', k1, fun k r hr ho => ?_, fun k hk => ?_, fun r hr => ?_, fun r hr => ?_⟩
   ·rcases List.mem_cons.1 hr with rfl | hr
    ·have e2 : labTo E.lab r p k = labOf p := labTo_q ho
     rw [k3 k (fun q' hq' hof => ?_)]
     ·exact e2
     ·have hof' : labTo E.lab r p k = .row q' ∨ labTo E.lab r p k = .inn q' := hof
      rw [e2] at hof'
      cases p with
      | none => rcases hof' with hof' | hof' <;> cases hof'
      | some z =>
       rcases hof' with hof' | hof'
       ·cases hof'
       ·injection hof' with hof'
        subst hof'
        exact hp z rfl (by simp [hq'])
    ·by_cases hq : ofRow E.lab q k
     ·have := ofRow_one hq ho
      subst this
      by_cases hqq : q ∈ qs
      · -- q was absorbed before: no such row any more
       obtain ⟨row', hr'⟩ := k5 q hqq
       rw [e1] at hr'
       have : upd σ.row q none q = some row' := hr'
       rw [upd_same] at this
       cases this
      ·exact absurd hr hqq
     ·refine k2 k r hr ?_
      have : labTo E.lab q p k = E.lab k := labTo_ne (fun e => hq (.inl e)) (fun e => hq (.inr e))
      unfold ofRow
      show labTo E.lab q p k = _ ∨ labTo E.lab q p k = _
      rw [this]
      exact ho
   ·have hq := hk q (by simp)
    have : labTo E.lab q p k = E.lab k := labTo_ne (fun e => hq (.inl e)) (fun e => hq (.inr e))
    rw [k3 k (fun q' hq' hof => ?_)]
    ·exact this
    ·have hof' : labTo E.lab q p k = .row q' ∨ labTo E.lab q p k = .inn q' := hof
     rw [this] at hof'
     exact hk q' (by simp [hq']) hof'
   ·simp only [List.mem_cons, not_or] at hr
    rw [k4 r hr.2, hrow1 r hr.1]
   ·rcases List.mem_cons.1 hr with rfl | hr
    ·exact ⟨row, hrow⟩
    ·obtain ⟨row', hr'⟩ := k5 r hr
     by_cases e : r = q
     ·subst e; exact ⟨row, hrow⟩
     ·exact ⟨row', by rw [← hrow1 r e]; exact hr'⟩
  ·cases hs
def Elems (w : World) (lab : Nat → Lab) (r : Nat) (deep : Bool) (t : Ty) (css : List (List Value)) (ys : List t.den) : Prop :=
 cond deep (∃ Ls : List (List Nat), All3 (fun l c y => Own w t l c y) Ls css ys ∧ Ls.flatten.Nodup ∧ ∀ k ∈ Ls.flatten, lab k = .inn r) (All2 (fun c y => Rd w (fun k => lab k = .st) t c y) css ys)
theorem Elems.lens {lab : Nat → Lab} {r : Nat} {deep : Bool} {t : Ty} {css : List (List Value)} {ys : List t.den} (h : Elems w lab r deep t css ys) : (∀ b ∈ css, b.length = t.nc) ∧ css.length = ys.length ∧ ∀ b ∈ css, ∀ u ∈ b, u.oneCell' = true := by
 cases deep
 ·have h' : All2 (fun c y => Rd w (fun k => lab k = .st) t c y) css ys := h
  refine ⟨All2.fst (len := List.length) (fun _ _ h => Rd.len h) h', h'.len, ?_⟩
  have := All2.fst (len := fun c : List Value => if ∀ u ∈ c, u.oneCell' = true then 0 else 1) (n := 0) (fun c y h => if_pos (Rd.one h)) h'
  intro b hb
  have := this b hb
  by_cases hq : ∀ u ∈ b, u.oneCell' = true
  ·exact hq
  ·rw [if_neg hq] at this; cases this
 ·obtain ⟨Ls, h', _⟩ := h
  refine ⟨All3.mid (len := List.length) (fun _ _ _ h => Own.len h) h', h'.len2, ?_⟩
  have := All3.mid (len := fun c : List Value => if ∀ u ∈ c, u.oneCell' = true then 0 else 1) (n := 0) (fun l c y h => if_pos (Own.one h)) h'
  intro b hb
  have := this b hb
  by_cases hq : ∀ u ∈ b, u.oneCell' = true
  ·exact hq
  ·rw [if_neg hq] at this; cases this
theorem flatten_len {α : Type} {m : Nat} : ∀ {css : List (List α)}, (∀ c ∈ css, c.length = m) → css.flatten.length = css.length * m
 | [], _ => by simp
 | c :: css, h => by
  rw [List.flatten_cons, List.length_append, h c (by simp), flatten_len (fun c hc => h c (by simp [hc])), List.length_cons, Nat.succ_mul]
  omega
theorem run_append_any {t e : TypeId} {ty : TypeId} {i : TypeInfo} {z : Value} {size bytes : Nat} (ht : P.underlying t = some (.slice e)) (hi : P.info? e = some i) (hz : i.zero = some z) (hsize : i.size = size) (hby : i.bytes = bytes) (hzs : z.cells.size = size) (hsz : 0 < size)
  {v : Value} {m : Nat} {xs : List Value} (hown : w.ownsRow 0 e size v m xs) {A : Option Addr} {k c : Nat} {news : List Value} (hl : news.length = k * size) (hA : k = 0 ∨ ∃ ad, A = some ad ∧ ∀ (j : Nat) (u : Value), news[j]? = some u → w.cell? (ad.add j) = some u) (h1 : ∀ u ∈ news, u.oneCell' = true)
  (h63 : m + k ≤ maxLen) (hbytes : (m + k) * bytes ≤ 140737488355328) :
  ∃ v' w', (Builtin.append_ #[t, t] ty #[v, .slice A k c]).run P w = .ok v' w' ∧ w'.ownsRow 0 e size v' (m + k) (xs ++ news) ∧ w.grownBy w' v.ownBlock ∧ (v'.ownBlock = v.ownBlock ∨ v'.ownBlock = some w.heap.size) ∧ (m + k = 0 → v = .slice none 0 0 → v' = .slice none 0 0) := by
 by_cases hk : k = 0
 ·subst hk
  have hn : news = [] := List.eq_nil_of_length_eq_zero (by omega)
  subst hn
  obtain ⟨A', c', rfl, hc1, hc2⟩ := ownsRow_slice hown
  refine ⟨.slice A' m c', w, ?_, by simpa using hown, ⟨rfl, rfl, rfl, Nat.le_refl _, fun _ _ _ => rfl⟩, .inl rfl, fun _ h => h⟩
  cases A <;> cases A' <;> simp [Builtin.append_, run_underlying ht, sizeOf, typeInfo, hi, Builtin.lenOf, Builtin.firstCells, hc1, loadCells, loadCellsFrom, storeCells]
 ·rcases hA with hA | ⟨ad, rfl, hA⟩
  ·exact absurd hA hk
  ·obtain ⟨v', w', r1, r2, r3, r4, r5⟩ := run_append_own_at (P := P) w 0 t ty e i z size bytes ht hi hz hsize hby hzs hsz v m xs hown ad k c news hl hA h1 h63 hbytes (Nat.zero_le _)
   exact ⟨v', w', r1, r2, r3, r5, fun h => by omega⟩
theorem CRel.kill {r : Nat} (hrow : ∀ q, q ≠ r → ∀ row, σ.row q = some row → σ'.row q = some row ∧ E'.rv q = E.rv q)
  (hbox : ∀ b te cs, σ.box b = some (te, cs) → E'.bb b = E.bb b ∧ ∃ cs', σ'.box b = some (te, cs') ∧ cs'.length = cs.length)
  (cell : ∀ (p : Option Nat) (ad : Addr) (u : Value), E.lab ad.block = labOf p → w.cell? ad = some u → E'.lab ad.block = labOf p ∧ w'.cell? ad = some u)
  (rd : ∀ (p : Option Nat) (t : Ty) (cs : List Value) (x : t.den), Rd w (fun k => E.lab k = labOf p) t cs x → Rd w' (fun k => E'.lab k = labOf p) t cs x) :
  ∀ {c : Cell} {v : Value}, CRel σ E w c v → CRel σ' E' w' (killRow r c) v
 | .undef, _, _ => trivial
 | .int _ _, _, h => h
 | .bool _, _, h => h
 | .str _, _, h => h
 | .err _, _, h => h
 | .bor _ _ _ _, _, h => ⟨h.1, rd none _ _ _ h.2⟩
 | .nil, _, h => h
 | .sn e t xs p, v, h => rd p _ _ _ h
 | .full e t xs p, v, h => ⟨rd p _ _ _ h.1, h.2⟩
 | .own q, v, h => by
  by_cases e : q = r
  ·subst e; simp only [killRow, beq_self', cond_true]; trivial
  ·simp only [killRow, beq_ne e, cond_false]
   obtain ⟨rfl, h, hv⟩ := h
   obtain ⟨row, hr⟩ := Option.isSome_iff_exists.1 h
   obtain ⟨g1, g2⟩ := hrow q e row hr
   exact ⟨g2.symm, by rw [g1]; rfl, hv⟩
 | .part q lo m, v, h => by
  by_cases e : q = r
  ·subst e; simp only [killRow, beq_self', cond_true]; trivial
  ·simp only [killRow, beq_ne e, cond_false]
   obtain ⟨row, A, c, h1, h2, h3, h4, h5, h6, h7, h8⟩ := h
   obtain ⟨g1, g2⟩ := hrow q e row h1
   exact ⟨row, A, c, g1, h2, h3, h4, h5, h6, h7, by rw [g2]; exact h8⟩
 | .box b f, v, h => by
  obtain ⟨rfl, te, cs, h1, h2⟩ := h
  obtain ⟨g1, cs', g2, g3⟩ := hbox b te cs h1
  exact ⟨by rw [g1], te, cs', g2, by omega⟩
 | .mp b, v, h => by
  obtain ⟨rfl, te, cs, h1⟩ := h
  obtain ⟨g1, cs', g2, _⟩ := hbox b te cs h1
  exact ⟨by rw [g1], te, cs', g2⟩
 | .mset _ _, _, h => h
 | .elt q i f, v, h => by
  by_cases e : q = r
  ·subst e; simp only [killRow, beq_self', cond_true]; trivial
  ·simp only [killRow, beq_ne e, cond_false]
   obtain ⟨row, g, m, c, h1, h2, h3⟩ := h
   obtain ⟨g1, g2⟩ := hrow q e row h1
   exact ⟨row, g, m, c, g1, by rw [g2]; exact h2, h3⟩
 | .selt t x p f, v, h => by
  obtain ⟨ad, cs, h1, h2, h3, h4, h5⟩ := h
  have h0 : 0 < cs.length := by rw [h4.len]; exact t.nc_pos
  have hc := cell p (ad.add 0) _ (by simpa [Addr.add] using h3) (h5 0 cs[0] (by simp))
  refine ⟨ad, cs, h1, h2, by simpa [Addr.add] using hc.1, rd p _ _ _ h4, fun j u hu => ?_⟩
  exact (cell p (ad.add j) u (by rw [add_block]; exact h3) (h5 j u hu)).2
 | .fn f caps, v, h => by
  obtain ⟨rfl, h⟩ := h
  refine ⟨?_, fun p hp => ?_⟩
  ·congr 2
   refine List.map_congr_left fun p hp => ?_
   obtain ⟨te, cs, h1, _⟩ := h p hp
   rw [(hbox _ _ _ h1).1]
  ·obtain ⟨te, cs, h1, h2⟩ := h p hp
   obtain ⟨_, cs', g1, g3⟩ := hbox _ _ _ h1
   exact ⟨te, cs', g1, by omega⟩
theorem all3_app_nodup {L1 L2 : List Nat} (h1 : L1.Nodup) (h2 : L2.Nodup) (h : ∀ k ∈ L1, k ∉ L2) : (L1 ++ L2).Nodup :=
 List.nodup_append.2 ⟨h1, h2, fun x hx y hy e => h x hx (e ▸ hy)⟩
theorem R.append {T : Tab} (hT : TOk P T) (h : R w0 lab0 oo n σ E a w) {r : Nat} {row : Row} (hrow : σ.row r = some row) {t : Nat} {ti ei : TI} (ht : T t = some ti) (he : ti.el = some row.e) (hei : T row.e = some ei) (hnc : ei.zero.length = row.t.nc) (hbytes : ei.bytes ≤ 128)
  {A : Option Addr} {k c : Nat} {css2 : List (List Value)} {ys : List row.t.den} (hk : ys.length = k) (hA : k = 0 ∨ ∃ ad, A = some ad ∧ ∀ (j : Nat) (u : Value), css2.flatten[j]? = some u → w.cell? (ad.add j) = some u)
  (hel : Elems w E.lab r row.deep row.t css2 ys) (hdisj : row.deep = true → ∀ Ls css, All3 (fun l c y => Own w row.t l c y) Ls css row.xs → Ls.flatten.Nodup → (∀ k ∈ Ls.flatten, E.lab k = .inn r) → w.ownsRow 0 row.e row.t.nc (E.rv r) row.xs.length css.flatten →
   ∃ Ls2, All3 (fun l c y => Own w row.t l c y) Ls2 css2 ys ∧ (Ls ++ Ls2).flatten.Nodup ∧ ∀ k ∈ Ls2.flatten, E.lab k = .inn r)
  (hlen : row.xs.length + ys.length < 1099511627776) (ty : TypeId) :
  ∃ v' w' E', (Builtin.append_ #[t, t] ty #[E.rv r, .slice A k c]).run P w = .ok v' w' ∧ (∃ A m c, v' = .slice A m c) ∧ v' = E'.rv r ∧
   R w0 lab0 oo n { (σ.mapc (killRow r)) with row := upd σ.row r (some { row with xs := row.xs ++ ys }) } E' a w' := by
 obtain ⟨css, ho, hl, hd, hnil⟩ := h.rows r row hrow
 obtain ⟨inf, d, z, i1, i2, i3, i4, i5, i6, i7, i8⟩ := chk_all hT hei
 have hu := chk_slice hT ht he
 have hz := zcs_rel (σ := σ) (E := E) (w := w) i6
 have hlens := hel.lens
 have hfl2 : css2.flatten.length = k * row.t.nc := by rw [flatten_len hlens.1, hlens.2.1, hk]
 have h1 : ∀ u ∈ css2.flatten, u.oneCell' = true := fun u hu => by
  obtain ⟨b, hb, hu⟩ := List.mem_flatten.1 hu
  exact hlens.2.2 b hb u hu
 have hzc : z.cells.size = row.t.nc := by rw [← Array.length_toList, ← hz.1.len, hnc]
 have hbnd : (row.xs.length + k) * ei.bytes ≤ 140737488355328 := by
  have : (row.xs.length + k) * ei.bytes ≤ 1099511627776 * 128 := Nat.mul_le_mul (by omega) hbytes
  omega
 obtain ⟨v', w', r1, r2, r3, r4, r5⟩ := run_append_any (P := P) (ty := ty) hu i1 i5 (i3.trans hnc) i4 hzc row.t.nc_pos ho (c := c) hfl2 hA h1 (by simp only [maxLen]; omega) hbnd
 let E' : Env := { lab := fun q => if v'.ownBlock = some q then .row r else E.lab q, rv := upd E.rv r v', bb := E.bb }
 let row' : Row := { row with xs := row.xs ++ ys }
 let σ1 : St := { (σ.mapc (killRow r)) with row := upd σ.row r (some row') }
 have hlab : ∀ q, q < w.heap.size → E'.lab q = E.lab q := fun q hq => by
  show (if v'.ownBlock = some q then Lab.row r else E.lab q) = _
  by_cases e : v'.ownBlock = some q
  ·rw [if_pos e]
   rcases r4 with r4 | r4
   ·exact (hl q (r4 ▸ e)).symm
   ·rw [r4] at e; injection e with e; omega
  ·rw [if_neg e]
 have hother : ∀ q, q < w.heap.size → E.lab q ≠ .row r → w'.heap[q]? = w.heap[q]? := fun q hq hn => r3.block q hq fun e => hn (hl q e.symm)
 have cell : ∀ (p : Option Nat) (ad : Addr) (u : Value), E.lab ad.block = labOf p → w.cell? ad = some u → E'.lab ad.block = labOf p ∧ w'.cell? ad = some u := fun p ad u hp hc => by
  have hlt := World.block_lt_of_cell? w ad hc
  refine ⟨(hlab _ hlt).trans hp, ?_⟩
  rw [World.cell?_of_block (w := w) (hother _ hlt (by rw [hp]; cases p <;> simp [labOf]))]
  exact hc
 have rd : ∀ (p : Option Nat) (t : Ty) (cs : List Value) (x : t.den), Rd w (fun k => E.lab k = labOf p) t cs x → Rd w' (fun k => E'.lab k = labOf p) t cs x := fun p t cs x hx =>
  (hx.lt.frame fun q hq _ => hother q hq.2 (by rw [hq.1]; cases p <;> simp [labOf])).mono fun q hq => (hlab q hq.2).trans hq.1
 have own : ∀ (q : Nat) (t : Ty) (l : List Nat) (cs : List Value) (x : t.den), (∀ k ∈ l, E.lab k = .inn q) → Own w t l cs x → Own w' t l cs x := fun q t l cs x hk hx => hx.frame fun k hk' => hother k (hx.lt k hk') (by rw [hk k hk']; simp)
 have hc : ∀ {c : Cell} {v : Value}, CRel σ E w c v → CRel σ1 E' w' (killRow r c) v := CRel.kill (σ := σ) (σ' := σ1) (E := E) (E' := E') (w := w) (w' := w') (r := r)
  (fun q hq row2 h2 => ⟨(upd_ne _ _ hq).trans h2, upd_ne _ _ hq⟩)
  (fun b te cs hb => ⟨rfl, cs.map (killRow r), (show (σ.mapc (killRow r)).box b = some (te, cs.map (killRow r)) by simp only [St.mapc, hb]), by simp⟩) cell rd
 refine ⟨v', w', E', r1, ?_, (upd_same _ _ _).symm, h.bound, h.size, h.defers, fun t => (h.slots t).map hc, fun b te cs hb => ?_, fun q row2 hq => ?_, ?_⟩
 ·obtain ⟨A', c', e, _⟩ := ownsRow_slice r2
  exact ⟨A', _, c', e⟩
 ·have hb' : (σ.mapc (killRow r)).box b = some (te, cs) := hb
  simp only [St.mapc] at hb'
  split at hb'
  ·rename_i te' cs' hb2
   injection hb' with hb'
   injection hb' with e1 e2
   subst e1 e2
   obtain ⟨arr, k1, k2, k3, k4⟩ := h.boxes b _ _ hb2
   have hlt := k1.lt
   exact ⟨arr, (by rw [show w'.heap[E'.bb b]? = w.heap[E.bb b]? from hother _ hlt (by rw [k2]; simp)]; exact k1), (hlab _ hlt).trans k2, all2_map _ (fun _ _ h => hc h) k3, k4⟩
  ·cases hb'
 ·by_cases e : q = r
  ·subst e
   rw [show σ1.row q = some row' from upd_same _ _ _] at hq
   injection hq with hq
   subst hq
   show RowRel w' E'.lab q row' (upd E.rv q v' q)
   rw [upd_same]
   refine ⟨css ++ css2, ?_, fun g hg => if_pos hg, ?_, fun hn hz => ?_⟩
   ·show w'.ownsRow 0 row.e row.t.nc v' (row.xs ++ ys).length (css ++ css2).flatten
    rw [List.length_append, List.flatten_append, hk]
    exact r2
   ·show cond row.deep _ _
    cases hdp : row.deep
    ·rw [hdp] at hd hel
     have hd' : All2 (fun c y => Rd w (fun k => E.lab k = .st) row.t c y) css row.xs := hd
     have hel' : All2 (fun c y => Rd w (fun k => E.lab k = .st) row.t c y) css2 ys := hel
     exact (hd'.app hel').imp fun _ _ h => rd none _ _ _ h
    ·rw [hdp] at hd
     obtain ⟨Ls, k1, k2, k3⟩ := hd
     obtain ⟨Ls2, j1, j2, j3⟩ := hdisj hdp Ls css k1 k2 k3 ho
     have hall : ∀ k ∈ (Ls ++ Ls2).flatten, E.lab k = .inn q := fun k hk => by
      rw [List.flatten_append] at hk
      rcases List.mem_append.1 hk with hk | hk
      ·exact k3 k hk
      ·exact j3 k hk
     have happ := k1.app j1
     refine ⟨Ls ++ Ls2, happ.imp_mem fun l c y hl' ho' => own q _ _ _ _ (fun k hk => hall k (List.mem_flatten.2 ⟨l, hl', hk⟩)) ho', j2, fun k hk => ?_⟩
     have hlt : k < w.heap.size := by
      obtain ⟨l, hl', hk'⟩ := List.mem_flatten.1 hk
      have : All3 (fun (l : List Nat) (_ : List Value) (_ : row.t.den) => ∀ k ∈ l, k < w.heap.size) (Ls ++ Ls2) (css ++ css2) (row.xs ++ ys) := happ.imp fun _ _ _ ho => ho.lt
      exact all3_first this l hl' k hk'
     exact (hlab k hlt).trans (hall k hk)
   ·have hz' : (row.xs ++ ys).length = 0 := hz
    rw [List.length_append] at hz'
    exact r5 (by omega) (hnil hn (by omega))
  ·have hq' : σ.row q = some row2 := (upd_ne _ _ e).symm.trans hq
   show RowRel w' E'.lab q row2 (upd E.rv r v' q)
   rw [upd_ne _ _ e]
   obtain ⟨cs2, k1, k2, k3, k4⟩ := h.rows q row2 hq'
   have hlt : ∀ g, (E.rv q).ownBlock = some g → g < w.heap.size := fun g hg => (k1.lt g hg).2
   refine ⟨cs2, ownsRow_frame (fun g hg => hother g (hlt g hg) (by rw [k2 g hg]; simpa using e)) k1, fun g hg => (hlab g (hlt g hg)).trans (k2 g hg), ?_, k4⟩
   cases hdp : row2.deep
   ·rw [hdp] at k3
    exact All2.imp (fun _ _ h => rd none _ _ _ h) (show All2 (fun c y => Rd w (fun k => E.lab k = .st) row2.t c y) cs2 row2.xs from k3)
   ·rw [hdp] at k3
    obtain ⟨Ls, j1, j2, j3⟩ := k3
    refine ⟨Ls, j1.imp_mem fun l c y hl' ho' => own q _ _ _ _ (fun k hk => j3 k (List.mem_flatten.2 ⟨l, hl', hk⟩)) ho', j2, fun k hk => ?_⟩
    have hlt : k < w.heap.size := by
     obtain ⟨l, hl', hk'⟩ := List.mem_flatten.1 hk
     have : All3 (fun (l : List Nat) (_ : List Value) (_ : row2.t.den) => ∀ k ∈ l, k < w.heap.size) Ls cs2 row2.xs := j1.imp fun _ _ _ ho => ho.lt
     exact all3_first this l hl' k hk'
    exact (hlab k hlt).trans (j3 k hk)
 ·refine ⟨r3.os.trans h.same.os, r3.tape.trans h.same.tape, r3.output.trans h.same.output, Nat.le_trans h.same.size r3.size, fun q hq hl0 => ?_⟩
  have := h.same.old q hq hl0
  have hlt := Nat.lt_of_lt_of_le hq h.same.size
  exact ⟨(hlab q hlt).trans this.1, by rw [hother q hlt (by rw [this.1]; simp)]; exact this.2⟩
end
end Go.Fw
namespace Go.Fw
open Go.RowKit
theorem rep_flat {α : Type} {l : List α} {n j i : Nat} (hj : j < n) (hi : i < l.length) : ((List.replicate n l).flatten)[j * l.length + i]? = l[i]? := by
 obtain ⟨c, h1, h2, h3⟩ := All2.flat (R := fun (c : List α) (y : Unit) => c = l) (n := l.length) (fun c y h => by rw [h]) (css := List.replicate n l) (xs := List.replicate n ()) (All2.rep (R := fun (c : List α) (y : Unit) => c = l) rfl n) (j := j) (y := ()) (by rw [List.getElem?_replicate, if_pos hj])
 subst h2
 rw [h3 i _ (List.getElem?_eq_getElem hi), List.getElem?_eq_getElem hi]
theorem madeCells_flat (z : Array Value) (n : Nat) (hz : 0 < z.size) : (madeCells z (n * z.size)).toList = (List.replicate n z.toList).flatten := by
 have hl : (List.replicate n z.toList).flatten.length = n * z.size := by
  rw [flatten_len (m := z.size) (fun c hc => by rw [(List.mem_replicate.1 hc).2, Array.length_toList]), List.length_replicate]
 apply List.ext_getElem?
 intro k
 by_cases hk : k < n * z.size
 ·have hd : k / z.size < n := Nat.div_lt_of_lt_mul (by rwa [Nat.mul_comm])
  have hm : k % z.size < z.toList.length := by rw [Array.length_toList]; exact Nat.mod_lt _ hz
  have e := rep_flat (l := z.toList) hd hm
  rw [Array.length_toList, Nat.mul_comm, Nat.div_add_mod] at e
  rw [e]
  have hm' : k % z.size < z.size := Nat.mod_lt _ hz
  simp [madeCells, hk, hm']
 ·rw [List.getElem?_eq_none (by simp [madeCells]; omega), List.getElem?_eq_none (by omega)]
section
variable {P : Program} {σ σ' : St} {E E' : Env} {w w' : World} {w0 : World} {lab0 : Nat → Lab} {oo : Nat → Value} {n : Nat} {a : Act}
theorem All3.rep {α β γ : Type} {Q : α → β → γ → Prop} {x : α} {b : β} {y : γ} (h : Q x b y) : ∀ m, All3 Q (List.replicate m x) (List.replicate m b) (List.replicate m y)
 | 0 => trivial
 | m + 1 => ⟨h, All3.rep h m⟩
theorem R.make {T : Tab} (hT : TOk P T) (h : R w0 lab0 oo n σ E a w) {t e : Nat} {ti ei : TI} (ht : T t = some ti) (he : ti.el = some e) (hei : T e = some ei) (hnc : ei.zero.length = ei.ty.nc) (hbytes : ei.bytes ≤ 128)
  {z : ei.ty.den} (hz : packD (fun _ => none) ei.ty ei.zero = some z) (ho : ownsIn ei.zero = []) {m : Int} (h0 : 0 ≤ m) (hm : m < 1099511627776) (k : IntKind) {d r : Nat} (hd : d < n) (hfree : σ.row r = none) :
  ∃ v w' E', (Instr.makeSlice t (.int k m) (.int k m)).run P w = .ok v w' ∧ Ext w w' ∧
   R w0 lab0 oo n { slot := upd σ.slot d (.c (.own r)), box := σ.box, row := upd σ.row r (some ⟨e, ei.ty, List.replicate m.toNat z, true, false⟩) } E' (a.put (some d) v) w' := by
 obtain ⟨inf, dd, zv, i1, i2, i3, i4, i5, i6, i7, i8⟩ := chk_all hT hei
 have hu := chk_slice hT ht he
 have hzr := zcs_rel (σ := σ) (E := E) (w := w) i6
 have hown := packD_flat hz hzr.1 ho
 have hzs : zv.cells.size = ei.ty.nc := by rw [← Array.length_toList, ← hzr.1.len, hnc]
 have hb : (inf.bytes : Int) * m ≤ 281474976710656 := by
  rw [i4]
  have : (ei.bytes : Int) * m ≤ 128 * 1099511627776 := Int.mul_le_mul (by omega) (by omega) h0 (by omega)
  omega
 have hr := run_make (P := P) w t e inf zv hu i1 i5 k k m m h0 (Int.le_refl _) hb (by omega)
 rw [i3, hnc, ← hzs] at hr
 have hw : ∀ lab', (∀ k, k < w.heap.size → lab' k = E.lab k) → lab' w.heap.size = .row r →
   RowRel (w.alloc (.cells (madeCells zv.cells (m.toNat * zv.cells.size)) e)) lab' r ⟨e, ei.ty, List.replicate m.toNat z, true, false⟩ (.slice (some ⟨w.heap.size, 0, none⟩) m.toNat m.toNat) := by
  intro lab' hl hl'
  refine ⟨List.replicate m.toNat zv.cells.toList, ?_, fun k hk => ?_, ⟨List.replicate m.toNat [], All3.rep (hown _) _, ?_, fun k hk => ?_⟩, fun hq => by cases hq⟩
  ·have := World.ownsRow_lit (base := 0) (e := e) (size := ei.ty.nc) w (madeCells zv.cells (m.toNat * zv.cells.size)) m.toNat (Nat.zero_le _) (by simp only [maxLen]; omega) (by rw [size_madeCells, hzs])
   rw [madeCells_flat _ _ (by rw [hzs]; exact ei.ty.nc_pos)] at this
   show World.ownsRow _ 0 e ei.ty.nc _ (List.replicate m.toNat z).length _
   rw [List.length_replicate]
   exact this
  ·have : w.heap.size = k := by simpa [Value.ownBlock] using hk
   rw [← this]; exact hl'
  ·have : (List.replicate m.toNat ([] : List Nat)).flatten = [] := by
    rw [List.flatten_eq_nil_iff]; exact fun l hl => (List.mem_replicate.1 hl).2
   rw [this]; exact List.nodup_nil
  ·obtain ⟨l, hl, hk⟩ := List.mem_flatten.1 hk
   rw [(List.mem_replicate.1 hl).2] at hk
   simp at hk
 obtain ⟨E', g⟩ := h.newRow (d := d) (r := r) (row := ⟨e, ei.ty, List.replicate m.toNat z, true, false⟩) (arr := madeCells zv.cells (m.toNat * zv.cells.size)) (v := .slice (some ⟨w.heap.size, 0, none⟩) m.toNat m.toNat) hd hfree hw ⟨_, _, _, rfl⟩
 exact ⟨_, _, E', hr, ⟨rfl, rfl, rfl, by simp, alloc_old _⟩, g⟩
theorem packDs_own (h : R w0 lab0 oo n σ E a w) {t : Ty} : ∀ {ccs : List (List Cell)} {css : List (List Value)} {ys : List t.den}, packDs σ.row t ccs = some ys → All2 (All2 (CRel σ E w)) ccs css → (ownsIn ccs.flatten).Nodup →
  ∃ Ls : List (List Nat), All3 (fun l c y => Own w t l c y) Ls css ys ∧ Ls.flatten.Nodup ∧ ∀ k ∈ Ls.flatten, ∃ q ∈ ownsIn ccs.flatten, ofRow E.lab q k
 | [], [], ys, e, _, _ => by
  simp only [packDs, Option.some.injEq] at e
  subst e
  exact ⟨[], trivial, List.nodup_nil, fun k hk => by simp at hk⟩
 | [], _ :: _, _, _, h, _ => h.elim
 | _ :: _, [], _, _, h, _ => h.elim
 | cc :: ccs, cs :: css, ys, e, hc, hn => by
  simp only [packDs] at e
  split at e
  ·rename_i y ys' e1 e2
   injection e with e
   subst e
   rw [List.flatten_cons, ownsIn_app] at hn
   have hn' := List.nodup_append.1 hn
   obtain ⟨L, j1, j2, j3⟩ := packD_own h e1 hc.1 hn'.1
   obtain ⟨Ls, k1, k2, k3⟩ := packDs_own h e2 hc.2 hn'.2.1
   refine ⟨L :: Ls, ⟨j1, k1⟩, ?_, fun k hk => ?_⟩
   ·rw [List.flatten_cons]
    refine List.nodup_append.2 ⟨j2, k2, fun x hx z hz e => ?_⟩
    subst e
    obtain ⟨q, hq, hq'⟩ := j3 x hx
    obtain ⟨r, hr, hr'⟩ := k3 x hz
    have := ofRow_one hq' hr'
    subst this
    exact hn'.2.2 q hq q hr rfl
   ·rw [List.flatten_cons, ownsIn_app]
    rw [List.flatten_cons] at hk
    rcases List.mem_append.1 hk with hk | hk
    ·obtain ⟨q, hq, hq'⟩ := j3 k hk
     exact ⟨q, List.mem_append.2 (.inl hq), hq'⟩
    ·obtain ⟨q, hq, hq'⟩ := k3 k hk
     exact ⟨q, List.mem_append.2 (.inr hq), hq'⟩
  ·cases e
theorem packSs_rd {t : Ty} : ∀ {ccs : List (List Cell)} {css : List (List Value)} {ys : List t.den}, packSs t ccs = some ys → All2 (All2 (CRel σ E w)) ccs css →
  All2 (fun c y => Rd w (fun k => E.lab k = .st) t c y) css ys
 | [], [], ys, e, _ => by
  simp only [packSs, Option.some.injEq] at e
  subst e
  exact trivial
 | [], _ :: _, _, _, h => h.elim
 | _ :: _, [], _, _, h => h.elim
 | cc :: ccs, cs :: css, ys, e, hc => by
  simp only [packSs] at e
  split at e
  ·rename_i y ys' e1 e2
   injection e with e
   subst e
   exact ⟨packS_rd e1 hc.1, packSs_rd e2 hc.2⟩
  ·cases e
theorem R.litD (h : R w0 lab0 oo n σ E a w) {d r e : Nat} {t : Ty} {ccs : List (List Cell)} {arr : Array Value} {ys : List t.den} {σ1 : St} (hd : d < n)
  (hp : packDs σ.row t ccs = some ys) (hc : All2 (All2 (CRel σ E w)) ccs (chunks t.nc ccs.length arr.toList)) (hsz : arr.size = ccs.length * t.nc) (hlen : ccs.length < 1099511627776)
  (hn : (ownsIn ccs.flatten).Nodup) (hr : r ∉ ownsIn ccs.flatten) (hab : Fw.absorbs (some r) (ownsIn ccs.flatten) σ = some σ1) (hfree : σ1.row r = none) :
  ∃ E', R w0 lab0 oo n { slot := upd σ1.slot d (.c (.own r)), box := σ1.box, row := upd σ1.row r (some ⟨e, t, ys, true, false⟩) } E' (a.put (some d) (.slice (some ⟨w.heap.size, 0, none⟩) ccs.length ccs.length)) (w.alloc (.cells arr e)) := by
 obtain ⟨Ls, k1, k2, k3⟩ := packDs_own h hp hc hn
 obtain ⟨lab', g, g1, g2, g3, g4⟩ := h.absorbs hab (fun q hq => by injection hq with hq; subst hq; exact hr)
 have hlen' := k1.len2
 have hcl : (chunks t.nc ccs.length arr.toList).flatten = arr.toList := chunks_flatten (by rw [Array.length_toList]; exact hsz)
 have hyl : ys.length = ccs.length := by rw [← k1.len2]; exact hc.len.symm
 refine g.newRow (d := d) (r := r) (row := ⟨e, t, ys, true, false⟩) hd hfree (fun lab2 hl hl' => ?_) ⟨_, _, _, rfl⟩
 have hLlt : ∀ k ∈ Ls.flatten, k < w.heap.size := fun k hk => by
  obtain ⟨l, hl, hk⟩ := List.mem_flatten.1 hk
  have : All3 (fun (l : List Nat) (_ : List Value) (_ : t.den) => ∀ k ∈ l, k < w.heap.size) Ls _ ys := k1.imp fun _ _ _ ho => ho.lt
  exact all3_first this l hl k hk
 refine ⟨chunks t.nc ccs.length arr.toList, ?_, fun k hk => ?_, ⟨Ls, k1.imp fun _ _ _ ho => ho.frame fun k hk => alloc_old _ k (ho.lt k hk), k2, fun k hk => ?_⟩, fun hq => by cases hq⟩
 ·have := World.ownsRow_lit (base := 0) (e := e) (size := t.nc) w arr ccs.length (Nat.zero_le _) (by simp only [maxLen]; omega) hsz
  rw [hcl]
  show World.ownsRow _ 0 e t.nc _ ys.length _
  rw [hyl]
  exact this
 ·have : w.heap.size = k := by simpa [Value.ownBlock] using hk
  rw [← this]; exact hl'
 ·obtain ⟨q, hq, hq'⟩ := k3 k hk
  rw [hl k (hLlt k hk)]
  exact g1 k q hq hq'
theorem R.litS (h : R w0 lab0 oo n σ E a w) {d r e : Nat} {t : Ty} {ccs : List (List Cell)} {arr : Array Value} {ys : List t.den} (hd : d < n)
  (hp : packSs t ccs = some ys) (hc : All2 (All2 (CRel σ E w)) ccs (chunks t.nc ccs.length arr.toList)) (hsz : arr.size = ccs.length * t.nc) (hlen : ccs.length < 1099511627776) (hfree : σ.row r = none) :
  ∃ E', R w0 lab0 oo n { slot := upd σ.slot d (.c (.own r)), box := σ.box, row := upd σ.row r (some ⟨e, t, ys, false, false⟩) } E' (a.put (some d) (.slice (some ⟨w.heap.size, 0, none⟩) ccs.length ccs.length)) (w.alloc (.cells arr e)) := by
 have k1 := packSs_rd hp hc
 have hcl : (chunks t.nc ccs.length arr.toList).flatten = arr.toList := chunks_flatten (by rw [Array.length_toList]; exact hsz)
 have hyl : ys.length = ccs.length := by rw [← k1.len]; exact hc.len.symm
 refine h.newRow (d := d) (r := r) (row := ⟨e, t, ys, false, false⟩) hd hfree (fun lab2 hl hl' => ?_) ⟨_, _, _, rfl⟩
 refine ⟨chunks t.nc ccs.length arr.toList, ?_, fun k hk => ?_, ?_, fun hq => by cases hq⟩
 ·have := World.ownsRow_lit (base := 0) (e := e) (size := t.nc) w arr ccs.length (Nat.zero_le _) (by simp only [maxLen]; omega) hsz
  rw [hcl]
  show World.ownsRow _ 0 e t.nc _ ys.length _
  rw [hyl]
  exact this
 ·have : w.heap.size = k := by simpa [Value.ownBlock] using hk
  rw [← this]; exact hl'
 ·exact All2.imp (fun _ _ h => ((h.lt.frame fun k hk _ => alloc_old _ k hk.2)).mono fun k hk => (hl k hk.2).trans hk.1) k1
end
end Go.Fw
namespace Go.Fw
open Go.RowKit
theorem css_eq {α : Type} {m : Nat} (hm : 0 < m) : ∀ {css css' : List (List α)}, (∀ c ∈ css, c.length = m) → (∀ c ∈ css', c.length = m) → css.flatten = css'.flatten → css = css'
 | [], [], _, _, _ => rfl
 | [], c :: css', _, h', e => by
  have := congrArg List.length e
  rw [List.flatten_cons, List.length_append, h' c (by simp)] at this
  simp at this; omega
 | c :: css, [], h, _, e => by
  have := congrArg List.length e
  rw [List.flatten_cons, List.length_append, h c (by simp)] at this
  simp at this; omega
 | c :: css, c' :: css', h, h', e => by
  simp only [List.flatten_cons] at e
  have hl : c.length = c'.length := by rw [h c (by simp), h' c' (by simp)]
  obtain ⟨e1, e2⟩ := List.append_inj e hl
  rw [e1, css_eq hm (fun c hc => h c (by simp [hc])) (fun c hc => h' c (by simp [hc])) e2]
theorem ownsRow_uniq {w : World} {e : TypeId} {size m : Nat} {v : Value} {xs xs' : List Value} (h : w.ownsRow 0 e size v m xs) (h' : w.ownsRow 0 e size v m xs') : xs = xs' := by
 rcases h.2 with ⟨rfl, rfl⟩ | ⟨g, cap, cur, rfl, _, k2, _, _, _, k6⟩
 ·have a := h.1; have b := h'.1
  simp only [Nat.zero_mul] at a b
  rw [List.eq_nil_of_length_eq_zero a, List.eq_nil_of_length_eq_zero b]
 ·rcases h'.2 with ⟨h0, _⟩ | ⟨g', cap', cur', e0, _, j2, _, _, _, j6⟩
  ·cases h0
  ·injection e0 with e1 _ _
   injection e1 with e1
   injection e1 with e1
   subst e1
   rw [k2] at j2
   injection j2 with j2
   injection j2 with j2
   subst j2
   rw [← k6, ← j6]
theorem all3_uniq {α β γ : Type} {Q : α → β → γ → Prop} (hu : ∀ a a' b c, Q a b c → Q a' b c → a = a') : ∀ {as as' : List α} {bs : List β} {cs : List γ}, All3 Q as bs cs → All3 Q as' bs cs → as = as'
 | [], [], _, _, _, _ => rfl
 | [], _ :: _, [], [], _, h => h.elim
 | [], _ :: _, [], _ :: _, _, h => h.elim
 | [], _ :: _, _ :: _, [], _, h => h.elim
 | [], _ :: _, _ :: _, _ :: _, h, _ => h.elim
 | _ :: _, [], [], [], h, _ => h.elim
 | _ :: _, [], [], _ :: _, h, _ => h.elim
 | _ :: _, [], _ :: _, [], h, _ => h.elim
 | _ :: _, [], _ :: _, _ :: _, _, h => h.elim
 | _ :: _, _ :: _, [], [], h, _ => h.elim
 | _ :: _, _ :: _, [], _ :: _, h, _ => h.elim
 | _ :: _, _ :: _, _ :: _, [], h, _ => h.elim
 | _ :: _, _ :: _, _ :: _, _ :: _, h, h' => by rw [hu _ _ _ _ h.1 h'.1, all3_uniq hu h.2 h'.2]
theorem Own.uniq {w : World} : ∀ {t : Ty} {L L' : List Nat} {cs : List Value} {x : t.den}, Own w t L cs x → Own w t L' cs x → L = L'
 | .int _, _, _, _, _, h, h' => by rw [h.2, h'.2]
 | .bool, _, _, _, _, h, h' => by rw [h.2, h'.2]
 | .fnc _, _, _, _, _, h, h' => by rw [h.2, h'.2]
 | .str, _, _, _, _, h, h' => by rw [h.2, h'.2]
 | .err, _, _, _, _, h, h' => by rw [h.2, h'.2]
 | .pair a b, _, _, _, _, h, h' => by
  obtain ⟨c1, c2, L1, L2, rfl, rfl, h1, h2⟩ := h
  obtain ⟨d1, d2, M1, M2, e, rfl, j1, j2⟩ := h'
  obtain ⟨rfl, rfl⟩ := List.append_inj e (by rw [h1.len, j1.len])
  rw [h1.uniq j1, h2.uniq j2]
 | .sl e t, _, _, _, x, h, h' => by
  obtain ⟨v, css, Ls, rfl, h1, rfl, h2⟩ := h
  obtain ⟨v', css', Ls', e', j1, rfl, j2⟩ := h'
  injection e' with e'
  subst e'
  obtain rfl := css_eq t.nc_pos (All3.mid (len := List.length) (fun _ _ _ h => Own.len h) h2) (All3.mid (len := List.length) (fun _ _ _ h => Own.len h) j2) (ownsRow_uniq h1 j1)
  have e3 := all3_uniq (Q := fun l c y => Own w t l c y) (fun _ _ _ _ h h' => Own.uniq h h') h2 j2
  rw [e3]
theorem Own.uniqs {w : World} {t : Ty} {Ls Ls' : List (List Nat)} {css : List (List Value)} {xs : List t.den} (h : All3 (fun l c y => Own w t l c y) Ls css xs) (h' : All3 (fun l c y => Own w t l c y) Ls' css xs) : Ls = Ls' :=
 all3_uniq (Q := fun l c y => Own w t l c y) (fun _ _ _ _ h h' => Own.uniq h h') h h'
theorem flat_own {w : World} {S : Nat → Prop} : ∀ {t : Ty} {cs : List Value} {x : t.den}, t.flat = true → Rd w S t cs x → ∀ w', Own w' t [] cs x
 | .int _, _, _, _, h, _ => ⟨h, rfl⟩
 | .bool, _, _, _, h, _ => ⟨h, rfl⟩
 | .fnc _, _, _, _, h, _ => ⟨h, rfl⟩
 | .str, _, _, _, h, _ => ⟨h, rfl⟩
 | .err, _, _, _, h, _ => ⟨h, rfl⟩
 | .pair a b, _, _, hf, h, w' => by
  simp only [Ty.flat, Bool.and_eq_true] at hf
  obtain ⟨c1, c2, rfl, h1, h2⟩ := h
  exact ⟨c1, c2, [], [], rfl, rfl, flat_own hf.1 h1 w', flat_own hf.2 h2 w'⟩
 | .sl _ _, _, _, hf, _, _ => by cases hf
section
variable {P : Program} {σ σ' : St} {E E' : Env} {w w' : World} {w0 : World} {lab0 : Nat → Lab} {oo : Nat → Value} {n : Nat} {a : Act}
theorem flat_elems {t : Ty} {S : Nat → Prop} {css : List (List Value)} {ys : List t.den} (hf : t.flat = true) (h : All2 (fun c y => Rd w S t c y) css ys) : All3 (fun l c y => Own w t l c y) (List.replicate ys.length []) css ys := by
 have key : ∀ {css : List (List Value)} {ys : List t.den}, All2 (fun c y => Rd w S t c y) css ys → All3 (fun l c y => Own w t l c y) (List.replicate ys.length []) css ys := by
  intro css
  induction css with
  | nil => intro ys h; cases ys with
   | nil => trivial
   | cons _ _ => exact h.elim
  | cons c css ih => intro ys h; cases ys with
   | nil => exact h.elim
   | cons y ys => exact ⟨flat_own hf h.1 w, ih h.2⟩
 exact key h
theorem rep_nil_flatten (m : Nat) : (List.replicate m ([] : List Nat)).flatten = [] := by
 rw [List.flatten_eq_nil_iff]; exact fun l hl => (List.mem_replicate.1 hl).2
theorem R.nilRow (h : R w0 lab0 oo n σ E a w) {r e : Nat} {t : Ty} {deep : Bool} (hfree : σ.row r = none) :
  R w0 lab0 oo n { σ with row := upd σ.row r (some ⟨e, t, [], deep, true⟩) } { E with rv := upd E.rv r (.slice none 0 0) } a w := by
 refine h.grow (E' := { E with rv := upd E.rv r (.slice none 0 0) }) (fun k hk => ⟨rfl, rfl⟩) ⟨rfl, rfl, rfl⟩ (Nat.le_refl _) rfl (fun q row2 hq => ?_) (fun q row2 hq => ?_) (fun b te cs hq => .inl ⟨hq, rfl⟩) (fun _ _ h => h)
 ·by_cases e' : q = r
  ·subst e'
   have hq' : upd σ.row q (some ⟨e, t, [], deep, true⟩) q = some row2 := hq
   rw [upd_same] at hq'
   injection hq' with hq'
   subst hq'
   refine .inr ⟨hfree, ?_⟩
   show RowRel w E.lab q _ (upd E.rv q (.slice none 0 0) q)
   rw [upd_same]
   refine ⟨[], World.ownsRow_nil w 0 e t.nc, fun k hk => by simp [Value.ownBlock] at hk, ?_, fun _ _ => rfl⟩
   cases deep
   ·exact trivial
   ·exact ⟨[], trivial, List.nodup_nil, fun k hk => by simp at hk⟩
  ·exact .inl ⟨(upd_ne _ _ e').symm.trans hq, upd_ne _ _ e'⟩
 ·have hne : q ≠ r := fun e' => by rw [e', hfree] at hq; cases hq
  exact (upd_ne _ _ hne).trans hq
structure Src (w : World) (lab : Nat → Lab) (e : Nat) (t : Ty) (ys : List t.den) (S : Nat → Prop) (A : Option Addr) (k : Nat) (css : List (List Value)) : Prop where
 len : ys.length = k
 cells : k = 0 ∨ ∃ ad : Addr, A = some ad ∧ ∀ (j : Nat) (u : Value), css.flatten[j]? = some u → w.cell? (ad.add j) = some u
 rd : All2 (fun c y => Rd w S t c y) css ys
theorem Src.of_rd {lab : Nat → Lab} {e : Nat} {t : Ty} {ys : List t.den} {S : Nat → Prop} {v : Value} (h : Rd w S (.sl e t) [v] ys) : ∃ A k c css, v = .slice A k c ∧ Src w lab e t ys S A k css := by
 obtain ⟨A, k, c, e1, h1, h2, h3, h4⟩ := h
 injection e1 with e1
 rcases h4 with h4 | ⟨ad, css, e2, h5, h6, h7⟩
 ·subst h4
  have : ys = [] := List.eq_nil_of_length_eq_zero h1
  subst this
  exact ⟨A, 0, c, [], e1, rfl, .inl rfl, trivial⟩
 ·exact ⟨A, k, c, css, e1, h1, .inr ⟨ad, e2, h7⟩, h6⟩
theorem R.appendFlat {T : Tab} (hT : TOk P T) (h : R w0 lab0 oo n σ E a w) {r : Nat} {row : Row} (hrow : σ.row r = some row) {t : Nat} {ti ei : TI} (ht : T t = some ti) (he : ti.el = some row.e) (hei : T row.e = some ei) (hnc : ei.zero.length = row.t.nc) (hbytes : ei.bytes ≤ 128)
  (hf : row.t.flat = true) {A : Option Addr} {k c : Nat} {css2 : List (List Value)} {ys : List row.t.den} {S : Nat → Prop} (hs : Src w E.lab row.e row.t ys S A k css2) (hlen : row.xs.length + ys.length < 1099511627776) (ty : TypeId) :
  ∃ v' w' E', (Builtin.append_ #[t, t] ty #[E.rv r, .slice A k c]).run P w = .ok v' w' ∧ (∃ A m c, v' = .slice A m c) ∧ v' = E'.rv r ∧
   R w0 lab0 oo n { (σ.mapc (killRow r)) with row := upd σ.row r (some { row with xs := row.xs ++ ys }) } E' a w' := by
 have hE := flat_elems hf hs.rd
 refine h.append hT hrow ht he hei hnc hbytes hs.len hs.cells ?_ (fun _ Ls css k1 k2 k3 k4 => ⟨_, hE, ?_, fun k hk => ?_⟩) hlen ty
 ·cases hd : row.deep
  ·refine (show All2 (fun c y => Rd w (fun k => E.lab k = .st) row.t c y) css2 ys from ?_)
   exact All3.two (R := fun c y => Rd w (fun k => E.lab k = .st) row.t c y) (fun _ _ _ h => h) (hE.imp_mem (Q' := fun _ c y => Rd w (fun k => E.lab k = .st) row.t c y) fun l c y hl ho => ho.rd fun k hk => by rw [(List.mem_replicate.1 hl).2] at hk; simp at hk)
  ·exact ⟨_, hE, by rw [rep_nil_flatten]; exact List.nodup_nil, fun k hk => by rw [rep_nil_flatten] at hk; simp at hk⟩
 ·rw [List.flatten_append, rep_nil_flatten, List.append_nil]; exact k2
 ·rw [rep_nil_flatten] at hk; simp at hk
theorem R.appendDeep {T : Tab} (hT : TOk P T) (h : R w0 lab0 oo n σ E a w) {r r2 : Nat} {row row2 : Row} (hne : r2 ≠ r) (hrow : σ.row r = some row) (hrow2 : σ.row r2 = some row2) (hd : row.deep = true) (hd2 : row2.deep = true)
  {t : Nat} {ti ei : TI} (ht : T t = some ti) (he : ti.el = some row.e) (hei : T row.e = some ei) (hnc : ei.zero.length = row.t.nc) (hbytes : ei.bytes ≤ 128)
  (htt : row2.t = row.t) {ys : List row.t.den} (hys : htt ▸ row2.xs = ys) {σ1 : St} (hab : Fw.absorb r2 (some r) σ = some σ1) (hlen : row.xs.length + ys.length < 1099511627776) (ty : TypeId) :
  ∃ v' w' E', (Builtin.append_ #[t, t] ty #[E.rv r, E.rv r2]).run P w = .ok v' w' ∧ (∃ A m c, v' = .slice A m c) ∧ v' = E'.rv r ∧
   R w0 lab0 oo n { (σ1.mapc (killRow r)) with row := upd σ1.row r (some { row with xs := row.xs ++ ys }) } E' a w' := by
 obtain ⟨css, ho, hl, hdd, _⟩ := h.rows r row hrow
 rw [hd] at hdd
 obtain ⟨Ls, k1, k2, k3⟩ := hdd
 obtain ⟨css2, ho2, hl2, hdd2, _⟩ := h.rows r2 row2 hrow2
 rw [hd2] at hdd2
 obtain ⟨Ls2, j1, j2, j3⟩ := hdd2
 obtain ⟨e2, t2, xs2, dp2, nl2⟩ := row2
 have htt' : t2 = row.t := htt
 subst htt'
 have hys' : xs2 = ys := hys
 subst hys'
 obtain ⟨g, row2', hq, _, hσ1⟩ := h.absorb hab
 have hr1 : σ1.row r = some row := by rw [hσ1]; exact (upd_ne _ _ (Ne.symm hne)).trans hrow
 obtain ⟨A, c, hv, hc1, hc2⟩ := ownsRow_slice ho2
 have hin : ∀ k ∈ Ls2.flatten, labTo E.lab r2 (some r) k = .inn r := fun k hk => labTo_q (.inr (j3 k hk))
 have hcells : xs2.length = 0 ∨ ∃ ad : Addr, A = some ad ∧ ∀ (j : Nat) (u : Value), css2.flatten[j]? = some u → w.cell? (ad.add j) = some u := by
  rcases ho2.2 with ⟨_, h0⟩ | ⟨g, cap, cur, e, _⟩
  ·exact .inl h0
  ·refine .inr ⟨⟨g, 0, none⟩, ?_, ho2.cells (by rw [e]; rfl)⟩
   rw [hv] at e
   injection e with e
 rw [hv]
 refine g.append (E := { E with lab := labTo E.lab r2 (some r) }) hT hr1 ht he hei hnc hbytes (k := xs2.length) (c := c) (css2 := css2) rfl hcells ?_ (fun _ Ls' css' q1 q2 q3 q4 => ?_) hlen ty
 ·rw [hd]
  exact ⟨Ls2, j1, j2, hin⟩
 · -- the row's own blocks are the same ones
  have hcss : css' = css := css_eq row.t.nc_pos (All3.mid (len := List.length) (fun _ _ _ h => Own.len h) q1) (All3.mid (len := List.length) (fun _ _ _ h => Own.len h) k1) (ownsRow_uniq q4 ho)
  subst hcss
  have hLs : Ls' = Ls := Own.uniqs q1 k1
  subst hLs
  refine ⟨Ls2, j1, ?_, hin⟩
  rw [List.flatten_append]
  refine List.nodup_append.2 ⟨k2, j2, fun x hx y hy e => ?_⟩
  subst e
  have e1 := k3 x hx
  rw [j3 x hy] at e1
  injection e1 with e1
  exact hne e1
theorem R.appendShallow {T : Tab} (hT : TOk P T) (h : R w0 lab0 oo n σ E a w) {r : Nat} {row : Row} (hrow : σ.row r = some row) (hd : row.deep = false) {t : Nat} {ti ei : TI} (ht : T t = some ti) (he : ti.el = some row.e) (hei : T row.e = some ei) (hnc : ei.zero.length = row.t.nc) (hbytes : ei.bytes ≤ 128)
  {A : Option Addr} {k c : Nat} {css2 : List (List Value)} {ys : List row.t.den} (hs : Src w E.lab row.e row.t ys (fun k => E.lab k = .st) A k css2) (hlen : row.xs.length + ys.length < 1099511627776) (ty : TypeId) :
  ∃ v' w' E', (Builtin.append_ #[t, t] ty #[E.rv r, .slice A k c]).run P w = .ok v' w' ∧ (∃ A m c, v' = .slice A m c) ∧ v' = E'.rv r ∧
   R w0 lab0 oo n { (σ.mapc (killRow r)) with row := upd σ.row r (some { row with xs := row.xs ++ ys }) } E' a w' := by
 refine h.append hT hrow ht he hei hnc hbytes hs.len hs.cells ?_ (fun hd' => by rw [hd] at hd'; cases hd') hlen ty
 rw [hd]
 exact hs.rd
theorem nodup_set {L : List Nat} : ∀ {Ls : List (List Nat)} {i : Nat}, Ls.flatten.Nodup → L.Nodup → (∀ k ∈ L, k ∉ Ls.flatten) → (Ls.set i L).flatten.Nodup ∧ ∀ k ∈ (Ls.set i L).flatten, k ∈ L ∨ k ∈ Ls.flatten
 | [], _, h, _, _ => ⟨h, fun k hk => .inr hk⟩
 | l :: Ls, 0, h, hL, hd => by
  simp only [List.set_cons_zero, List.flatten_cons] at h hd ⊢
  have h' := List.nodup_append.1 h
  exact ⟨all3_app_nodup hL h'.2.1 fun k hk hm => hd k hk (List.mem_append.2 (.inr hm)), fun k hk => (List.mem_append.1 hk).imp id fun h => List.mem_append.2 (.inr h)⟩
 | l :: Ls, i + 1, h, hL, hd => by
  simp only [List.set_cons_succ, List.flatten_cons] at h hd ⊢
  have h' := List.nodup_append.1 h
  obtain ⟨g1, g2⟩ := nodup_set (Ls := Ls) (i := i) h'.2.1 hL fun k hk hm => hd k hk (List.mem_append.2 (.inr hm))
  refine ⟨all3_app_nodup h'.1 g1 fun k hk hm => ?_, fun k hk => ?_⟩
  ·rcases g2 k hm with hm | hm
   ·exact hd k hm (List.mem_append.2 (.inl hk))
   ·exact h'.2.2 k hk k hm rfl
  ·rcases List.mem_append.1 hk with hk | hk
   ·exact .inr (List.mem_append.2 (.inl hk))
   ·rcases g2 k hk with hk | hk
    ·exact .inl hk
    ·exact .inr (List.mem_append.2 (.inr hk))
theorem All3.set3 {α β γ : Type} {Q : α → β → γ → Prop} : ∀ {as : List α} {bs : List β} {cs : List γ} {i : Nat} {l : α} {b : β} {y : γ}, All3 Q as bs cs → Q l b y → All3 Q (as.set i l) (bs.set i b) (cs.set i y)
 | [], [], [], _, _, _, _, h, _ => trivial
 | _ :: _, _ :: _, _ :: _, 0, l, b, y, h, hq => ⟨hq, h.2⟩
 | _ :: _, _ :: _, _ :: _, i + 1, l, b, y, h, hq => ⟨h.1, h.2.set3 hq⟩
theorem R.storeEltW (h : R w0 lab0 oo n σ E a w) {r g m c : Nat} {row : Row} (hrow : σ.row r = some row) (hdeep : row.deep = true) (hrv : E.rv r = .slice (some ⟨g, 0, none⟩) m c) {i : Nat} (hi : i < row.xs.length) {cs : List Cell} {us : List Value} (hc : All2 (CRel σ E w) cs us)
  (hn : (ownsIn cs).Nodup) (hr : r ∉ ownsIn cs) {y : row.t.den} (hp : packD σ.row row.t cs = some y) {σ1 : St} (hab : Fw.absorbs (some r) (ownsIn cs) σ = some σ1) :
  ∃ w' E', (storeCells ⟨g, i * row.t.nc, none⟩ us 0).run P w = .ok () w' ∧ R w0 lab0 oo n { σ1 with row := upd σ1.row r (some { row with xs := row.xs.set i y }) } E' a w' := by
 obtain ⟨css, ho, hl, hd, hnil⟩ := h.rows r row hrow
 rw [hrv] at ho hl
 rw [hdeep] at hd
 obtain ⟨Ls, k1, k2, k3⟩ := hd
 obtain ⟨L, j1, j2, j3⟩ := packD_own h hp hc hn
 obtain ⟨lab', G, g1, g2, g3, g4⟩ := h.absorbs hab (fun q hq => by injection hq with hq; subst hq; exact hr)
 have hmlen : m = row.xs.length := by
  rcases ho.2 with ⟨h0, _⟩ | ⟨_, _, _, e0, _⟩
  ·cases h0
  ·injection e0
 subst hmlen
 have hcl := All3.mid (len := List.length) (fun _ _ _ h => Own.len h) k1
 have hcn := k1.len2
 have hci : i < css.length := by omega
 have hus : us.length = row.t.nc := j1.len
 have h1 : ∀ u ∈ us, u.oneCell' = true := j1.one
 have hlabg : E.lab g = .row r := hl g rfl
 have hnotin : ∀ k, E.lab k = .row r ∨ E.lab k = .inn r ∨ E.lab k = .st ∨ (∃ b, E.lab k = .box b) ∨ E.lab k = .dead → lab' k = E.lab k := fun k hk => g2 k fun q hq hof => by
  have hqr : q ≠ r := fun e => hr (e ▸ hq)
  rcases hof with hof | hof <;> rw [hof] at hk <;> simp [hqr] at hk
 have hlab := (hnotin g (.inl hlabg)).trans hlabg
 have hlab' : ∀ p, lab' g ≠ labOf p := fun p => by rw [hlab]; cases p <;> simp [labOf]
 have htot : css.flatten.length = row.xs.length * row.t.nc := by rw [ho.1]
 have hbnd : i * row.t.nc + row.t.nc ≤ row.xs.length * row.t.nc := by rw [← Nat.succ_mul]; exact Nat.mul_le_mul_right _ hi
 obtain ⟨w', hst, ho', hother, hsize, hos⟩ := ownsRow_over (P := P) (w := w) (us := us) (o := i * row.t.nc) ho (by omega) h1
 refine ⟨w', { E with lab := lab' }, hst, ?_⟩
 let row' : Row := { row with xs := row.xs.set i y }
 let σ2 : St := { σ1 with row := upd σ1.row r (some row') }
 have hr1 : σ1.row r = some row := (g3 r hr).trans hrow
 have m : Moves σ1 { E with lab := lab' } w σ2 { E with lab := lab' } w' := Moves.write (E := { E with lab := lab' }) hlab' hother (fun q row2 hq => by
  by_cases e : q = r
  ·subst e
   rw [hr1] at hq
   injection hq with hq
   subst hq
   exact ⟨row', upd_same _ _ _, rfl, by simp [row']⟩
  ·exact ⟨row2, (upd_ne _ _ e).trans hq, rfl, Nat.le_refl _⟩) (fun b te cs hq => ⟨te, cs, hq, rfl⟩)
 refine ⟨G.bound, G.size, G.defers, fun t => (G.slots t).move m, fun b te cs hq => (G.boxes b te cs hq).write m (by show lab' g ≠ _; rw [hlab]; simp) hother, fun q row2 hq => ?_, G.same.write (show lab' g ≠ .st by rw [hlab]; simp) hother ⟨hos.1, hos.2.1, hos.2.2⟩ hsize⟩
 by_cases e : q = r
 ·subst e
  rw [show σ2.row q = some row' from upd_same _ _ _] at hq
  injection hq with hq
  subst hq
  have hfl : (css.set i us).flatten = css.flatten.take (i * row.t.nc) ++ us ++ css.flatten.drop (i * row.t.nc + us.length) := by
   rw [flatten_set hcl hus hci, hus]
  have hdis : ∀ k ∈ L, k ∉ Ls.flatten := fun k hk hm => by
   obtain ⟨q', hq', hof⟩ := j3 k hk
   have := k3 k hm
   rcases hof with hof | hof
   ·rw [hof] at this; cases this
   ·rw [hof] at this; injection this with this; exact hr (this ▸ hq')
  obtain ⟨n1, n2⟩ := nodup_set (i := i) k2 j2 hdis
  have hLg : ∀ k, k ∈ L ∨ k ∈ Ls.flatten → k ≠ g := fun k hk e => by
   subst e
   rcases hk with hk | hk
   ·obtain ⟨q', hq', hof⟩ := j3 k hk
    rcases hof with hof | hof
    ·rw [hlabg] at hof; injection hof with hof; exact hr (hof ▸ hq')
    ·rw [hlabg] at hof; cases hof
   ·have := k3 k hk
    rw [hlabg] at this
    cases this
  refine ⟨css.set i us, ?_, fun k hk => by rw [hrv] at hk; exact (hnotin k (.inl (hl k hk))).trans (hl k hk), ?_, fun hn hz => ?_⟩
  ·show World.ownsRow w' 0 row.e row.t.nc (E.rv q) (row.xs.set i y).length _
   rw [hrv, List.length_set, hfl]
   exact ho'
  ·show cond row.deep _ _
   rw [hdeep]
   refine ⟨Ls.set i L, ?_, n1, fun k hk => ?_⟩
   ·have k1' : All3 (fun l c y => Own w' row.t l c y) Ls css row.xs := k1.imp_mem fun l c y hl' h => h.frame fun k hk => hother k (hLg k (.inr (List.mem_flatten.2 ⟨l, hl', hk⟩)))
    exact k1'.set3 (j1.frame fun k hk => hother k (hLg k (.inl hk)))
   ·rcases n2 k hk with hk | hk
    ·obtain ⟨q', hq', hof⟩ := j3 k hk
     exact g1 k q' hq' hof
    ·exact (hnotin k (.inr (.inl (k3 k hk)))).trans (k3 k hk)
  ·have : row.xs.length = 0 := by simpa [row'] using hz
   omega
 ·exact (G.rows q row2 ((upd_ne _ _ e).symm.trans hq)).write hlab' (show lab' g ≠ _ by rw [hlab]; simp only [ne_eq, Lab.row.injEq]; exact fun e' => e e'.symm) hother
end
end Go.Fw
set_option linter.unusedSimpArgs false
namespace Go.Fw
open Go.RowKit Go.MapKept
def mHas {α : Type} [DecidableEq α] (xs : List α) (y : α) : Bool := decide (y ∈ xs)
def mDel {α : Type} [DecidableEq α] (xs : List α) (y : α) : List α := xs.eraseP fun x => decide (x = y)
def mAdd {α : Type} [DecidableEq α] (xs : List α) (y : α) : List α := cond (mHas xs y) xs (xs ++ [y])
def hasK : (t : Ty) → List t.den → t.den → Bool
 | .int _, xs, y => mHas (α := Int) xs y
 | .str, xs, y => mHas (α := ByteArray) xs y
 | _, _, _ => false
def delK : (t : Ty) → List t.den → t.den → List t.den
 | .int _, xs, y => mDel (α := Int) xs y
 | .str, xs, y => mDel (α := ByteArray) xs y
 | _, xs, _ => xs
def setK : (t : Ty) → List t.den → t.den → List t.den
 | .int _, xs, y => mAdd (α := Int) xs y
 | .str, xs, y => mAdd (α := ByteArray) xs y
 | _, xs, _ => xs
def isMapTI (ti : TI) (t : Ty) : Bool := !ti.agg && (ti.el.isNone && decide (ti.ty = .pair t (.sl 0 .bool)))
theorem mDel_not {α : Type} [DecidableEq α] {xs : List α} {y : α} (h : y ∉ xs) : mDel xs y = xs := by
 unfold mDel
 refine List.eraseP_of_forall_not fun x hx => ?_
 simp only [decide_eq_true_eq]
 exact fun e => h (e ▸ hx)
theorem mHas_iff {α : Type} [DecidableEq α] {xs : List α} {y : α} : mHas xs y = true ↔ y ∈ xs := by simp [mHas]
section
variable {P : Program} {σ : St} {E : Env} {w : World} {w0 : World} {lab0 : Nat → Lab} {oo : Nat → Value} {n : Nat} {a : Act} {T : Tab}
theorem chk_map (hT : TOk P T) {t : Nat} {ti : TI} {kt : Ty} (ht : T t = some ti) (hm : isMapTI ti kt = true) :
  ∃ k e d i, P.underlying t = some (.map k e) ∧ P.underlying k = some d ∧ P.info? e = some i ∧ i.zero = some (.bool false) ∧ ((∃ q, d = .int q ∧ kt = .int q) ∨ (d = .string ∧ kt = .str)) := by
 unfold isMapTI at hm
 simp only [Bool.and_eq_true, Bool.not_eq_true', Option.isNone_iff_eq_none, decide_eq_true_eq] at hm
 obtain ⟨h1, h2, h3⟩ := hm
 obtain ⟨inf, d, z, _, hu, _, _, _, _, _, g⟩ := chk_all hT ht
 cases d <;> simp [descOk, h1, h2, h3] at g
 rename_i k e
 obtain ⟨_, g⟩ := g
 simp only [mapTy, Bool.and_eq_true] at g
 obtain ⟨g1, g2⟩ := g
 split at g2
 ·rename_i i hi
  split at g2
  ·rename_i hz
   split at g1
   ·rename_i q q' hk
    simp only [decide_eq_true_eq] at g1
    subst g1
    exact ⟨k, e, _, i, hu, hk, hi, hz, .inl ⟨q, rfl, rfl⟩⟩
   ·rename_i hk
    exact ⟨k, e, _, i, hu, hk, hi, hz, .inr ⟨rfl, rfl⟩⟩
   ·cases g1
  ·cases g2
 ·cases g2
theorem keyV_key {d : TypeDesc} {kt : Ty} (hd : (∃ q, d = .int q ∧ kt = .int q) ∨ (d = .string ∧ kt = .str)) (y : kt.den) : IsKey d (keyV kt y) := by
 rcases hd with ⟨q, rfl, rfl⟩ | ⟨rfl, rfl⟩
 ·exact rfl
 ·exact trivial
theorem keyV_inj {d : TypeDesc} {kt : Ty} (hd : (∃ q, d = .int q ∧ kt = .int q) ∨ (d = .string ∧ kt = .str)) {x y : kt.den} (h : keyV kt x = keyV kt y) : x = y := by
 rcases hd with ⟨q, rfl, rfl⟩ | ⟨rfl, rfl⟩
 ·injection h
 ·injection h
theorem find_keys {α : Type} [DecidableEq α] {d : TypeDesc} {f : α → Value} (hk : ∀ y, IsKey d (f y)) (hinj : ∀ x y, f x = f y → x = y) (y : α) : ∀ (xs : List α) (l : List MapEntry) (i : Nat), l.map (·.key) = xs.map f →
  (Instr.findNow d (f y) l i = some none ∧ y ∉ xs) ∨ ∃ j e, Instr.findNow d (f y) l i = some (some (i + j, e.val)) ∧ l[j]? = some e ∧ e.key = f y ∧ y ∈ xs ∧ mDel xs y = xs.eraseIdx j
 | [], [], _, _ => .inl ⟨rfl, by simp⟩
 | [], _ :: _, _, h => by simp at h
 | _ :: _, [], _, h => by simp at h
 | x :: xs, e :: l, i, h => by
  simp only [List.map_cons, List.cons.injEq] at h
  obtain ⟨r, hr, hiff⟩ := sameNow_of_keys (hk y) (show IsKey d e.key by rw [h.1]; exact hk x)
  cases r with
  | true =>
   have e1 : f y = e.key := hiff.1 rfl
   have : x = y := hinj _ _ (by rw [← h.1, e1])
   subst this
   exact .inr ⟨0, e, by simp [Instr.findNow, hr], rfl, e1.symm, by simp, by simp [mDel]⟩
  | false =>
   have hne : x ≠ y := fun q => by
    have := hiff.2 (by rw [h.1, q])
    cases this
   rcases find_keys hk hinj y xs l (i + 1) h.2 with ⟨h1, h2⟩ | ⟨j, e', h1, h2, h3, h4, h5⟩
   ·exact .inl ⟨by simp [Instr.findNow, hr, h1], by simp [h2, Ne.symm hne]⟩
   ·refine .inr ⟨j + 1, e', by simp [Instr.findNow, hr, h1]; omega, by simpa using h2, h3, by simp [h4], ?_⟩
    unfold mDel at h5 ⊢
    rw [List.eraseP_cons_of_neg (by simpa using hne), h5]
    rfl
theorem find_map {d : TypeDesc} {kt : Ty} (hd : (∃ q, d = .int q ∧ kt = .int q) ∨ (d = .string ∧ kt = .str)) (xs : List kt.den) (y : kt.den) (l : List MapEntry) (h : l.map (·.key) = xs.map (keyV kt)) :
  (Instr.findNow d (keyV kt y) l 0 = some none ∧ hasK kt xs y = false ∧ setK kt xs y = xs ++ [y] ∧ delK kt xs y = xs) ∨
  ∃ j e, Instr.findNow d (keyV kt y) l 0 = some (some (j, e.val)) ∧ l[j]? = some e ∧ e.key = keyV kt y ∧ hasK kt xs y = true ∧ setK kt xs y = xs ∧ delK kt xs y = xs.eraseIdx j := by
 rcases hd with ⟨q, rfl, rfl⟩ | ⟨rfl, rfl⟩
 ·rcases find_keys (d := .int q) (f := keyV (.int q)) (α := Int) (fun _ => rfl) (fun x y h => by injection h) y xs l 0 h with ⟨h1, h2⟩ | ⟨j, e, h1, h2, h3, h4, h5⟩
  ·exact .inl ⟨h1, by simp [hasK, mHas, h2], by simp [setK, mAdd, mHas, h2], mDel_not h2⟩
  ·exact .inr ⟨j, e, by simpa using h1, h2, h3, by simp [hasK, mHas, h4], by simp [setK, mAdd, mHas, h4], h5⟩
 ·rcases find_keys (d := .string) (f := keyV .str) (α := ByteArray) (fun _ => trivial) (fun x y h => by injection h) y xs l 0 h with ⟨h1, h2⟩ | ⟨j, e, h1, h2, h3, h4, h5⟩
  ·exact .inl ⟨h1, by simp [hasK, mHas, h2], by simp [setK, mAdd, mHas, h2], mDel_not h2⟩
  ·exact .inr ⟨j, e, by simpa using h1, h2, h3, by simp [hasK, mHas, h4], by simp [setK, mAdd, mHas, h4], h5⟩
theorem R.mapBox (h : R w0 lab0 oo n σ E a w) {b te : Nat} {kt : Ty} {xs : List kt.den} (hb : σ.box b = some (te, [.mset kt xs])) (hte : mapBase ≤ te) :
  ∃ es clock, w.heap[E.bb b]? = some (.map es clock) ∧ es.toList.map (·.key) = xs.map (keyV kt) ∧ (∀ e ∈ es.toList, e.val = .bool true) ∧ E.lab (E.bb b) = .box b := by
 obtain ⟨arr, h1, h2, h3, h4⟩ := h.boxes b te _ hb
 obtain ⟨es, clock, k1, k2, k3⟩ := h1.map hte
 rw [k2] at h3
 exact ⟨es, clock, k1, keysV_inj (h3.1 : keysV _ = keysV _), k3, h2⟩
theorem R.setMap (h : R w0 lab0 oo n σ E a w) {b te : Nat} {kt : Ty} {xs ys : List kt.den} (hb : σ.box b = some (te, [.mset kt xs])) (hte : mapBase ≤ te) {es : Array MapEntry} {clock : Nat}
  (hk : es.toList.map (·.key) = ys.map (keyV kt)) (hv : ∀ e ∈ es.toList, e.val = .bool true) :
  R w0 lab0 oo n { σ with box := upd σ.box b (some (te, [.mset kt ys])) } E a { w with heap := w.heap.setIfInBounds (E.bb b) (.map es clock) } := by
 obtain ⟨es0, clock0, k1, _, _, k2⟩ := h.mapBox hb hte
 have hset := heap_set (o' := .map es clock) k1
 generalize hw' : ({ w with heap := w.heap.setIfInBounds (E.bb b) (.map es clock) } : World) = w'
 have hother : ∀ k, k ≠ E.bb b → w'.heap[k]? = w.heap[k]? := fun k hk => by rw [← hw']; exact hset.2 k hk
 have hsize : w'.heap.size = w.heap.size := by rw [← hw']; simp
 have hos : w'.os = w.os ∧ w'.tape = w.tape ∧ w'.output = w.output := by rw [← hw']; exact ⟨rfl, rfl, rfl⟩
 have hlab : ∀ p, E.lab (E.bb b) ≠ labOf p := fun p => by rw [k2]; cases p <;> simp [labOf]
 let σ1 : St := { σ with box := upd σ.box b (some (te, [.mset kt ys])) }
 have m : Moves σ E w σ1 E w' := Moves.write hlab hother (fun r row hr => ⟨row, hr, rfl, Nat.le_refl _⟩) (fun b' te' cs' hq => by
  by_cases e : b' = b
  ·subst e
   rw [hb] at hq
   injection hq with hq
   injection hq with e1 e2
   subst e1 e2
   exact ⟨_, _, upd_same _ _ _, rfl⟩
  ·exact ⟨te', cs', (upd_ne _ _ e).trans hq, rfl⟩)
 refine ⟨h.bound, h.size, h.defers, fun t => (h.slots t).move m, fun b' te' cs' hq => ?_, fun r row hr => (h.rows r row hr).write hlab (by rw [k2]; simp) hother, h.same.write (by rw [k2]; simp) hother hos hsize⟩
 by_cases e : b' = b
 ·subst e
  rw [show σ1.box b' = some (te, [.mset kt ys]) from upd_same _ _ _] at hq
  injection hq with hq
  injection hq with e1 e2
  subst e1 e2
  refine ⟨#[keysV (es.toList.map (·.key))], .inr ⟨hte, es, clock, by rw [← hw']; exact hset.1, rfl, hv⟩, k2, ⟨?_, trivial⟩, fun u hu => by simp at hu; subst hu; rfl⟩
  show keysV _ = keysV _
  rw [hk]
 ·exact (h.boxes b' te' cs' ((upd_ne _ _ e).symm.trans hq)).write m (by rw [k2]; simp only [ne_eq, Lab.box.injEq]; exact fun q => e q.symm) hother
theorem packS_key {d : TypeDesc} {kt : Ty} (hd : (∃ q, d = .int q ∧ kt = .int q) ∨ (d = .string ∧ kt = .str)) {c : Cell} {y : kt.den} {v : Value} (hp : packS kt [c] = some y) (hv : CRel σ E w c v) : v = keyV kt y := by
 rcases hd with ⟨q, rfl, rfl⟩ | ⟨rfl, rfl⟩
 ·have := packI_some (show packI q [c] = some y from hp)
  injection this with this
  subst this
  exact hv
 ·have := packT_some (show packT [c] = some y from hp)
  injection this with this
  subst this
  exact hv
theorem run_lookup_set (hT : TOk P T) (h : R w0 lab0 oo n σ E a w) {t : Nat} {ti : TI} {kt : Ty} (ht : T t = some ti) (hm : isMapTI ti kt = true) {b te : Nat} {xs : List kt.den} (hb : σ.box b = some (te, [.mset kt xs])) (hte : mapBase ≤ te)
  {c : Cell} {y : kt.den} {v : Value} (hp : packS kt [c] = some y) (hv : CRel σ E w c v) : (Instr.lookup t (.map (some (E.bb b))) v false).run P w = .ok (.bool (hasK kt xs y)) w := by
 obtain ⟨k, e, d, i, h1, h2, h3, h4, hd⟩ := chk_map hT ht hm
 obtain ⟨es, clock, k1, k2, k3, _⟩ := h.mapBox hb hte
 obtain rfl := packS_key hd hp hv
 have hk := keyV_key hd y
 have hz : (zeroValue e).run P w = .ok (.bool false) w := by simp [zeroValue, typeInfo, h3, h4]
 rcases find_map hd xs y es.toList k2 with ⟨f1, f2, _⟩ | ⟨j, e0, f1, f2, f3, f4, _⟩
 ·rw [f2]
  simp [Instr.lookup, run_underlying h1, Go.MapKept.run_getObj_map k1, run_checkKey h2 hk, run_findKey h2 f1, hz, Result.andThen]
 ·rw [f4]
  have hval : e0.val = .bool true := k3 e0 (List.mem_of_getElem? f2)
  simp [Instr.lookup, run_underlying h1, Go.MapKept.run_getObj_map k1, run_checkKey h2 hk, run_findKey h2 f1, hval, Result.andThen]
theorem run_len_set (hT : TOk P T) (h : R w0 lab0 oo n σ E a w) {t : Nat} {ti : TI} {kt : Ty} (ht : T t = some ti) (hm : isMapTI ti kt = true) {b te : Nat} {xs : List kt.den} (hb : σ.box b = some (te, [.mset kt xs])) (hte : mapBase ≤ te) (ty : TypeId) :
  (Builtin.len_ #[t] ty #[.map (some (E.bb b))]).run P w = .ok (.int .i64 xs.length) w := by
 obtain ⟨k, e, d, i, h1, h2, h3, h4, hd⟩ := chk_map hT ht hm
 obtain ⟨es, clock, k1, k2, k3, _⟩ := h.mapBox hb hte
 have hl : es.size = xs.length := by
  have := congrArg List.length k2
  simpa using this
 simp [Builtin.len_, run_underlying h1, Go.MapKept.run_getObj_map k1, Result.andThen, hl, goInt]
theorem run_update_set (hT : TOk P T) (h : R w0 lab0 oo n σ E a w) {t : Nat} {ti : TI} {kt : Ty} (ht : T t = some ti) (hm : isMapTI ti kt = true) {b te : Nat} {xs : List kt.den} (hb : σ.box b = some (te, [.mset kt xs])) (hte : mapBase ≤ te)
  {c : Cell} {y : kt.den} {v : Value} (hp : packS kt [c] = some y) (hv : CRel σ E w c v) :
  ∃ w', (Instr.mapUpdate t (.map (some (E.bb b))) v (.bool true)).run P w = .ok () w' ∧ R w0 lab0 oo n { σ with box := upd σ.box b (some (te, [.mset kt (setK kt xs y)])) } E a w' := by
 obtain ⟨k, e, d, i, h1, h2, h3, h4, hd⟩ := chk_map hT ht hm
 obtain ⟨es, clock, k1, k2, k3, _⟩ := h.mapBox hb hte
 obtain rfl := packS_key hd hp hv
 have hk := keyV_key hd y
 rcases find_map hd xs y es.toList k2 with ⟨f1, _, f2, _⟩ | ⟨j, e0, f1, f2, f3, _, f4, _⟩
 ·rw [f2]
  refine ⟨_, ?_, h.setMap hb hte (es := es.push { key := keyV kt y, val := .bool true, born := clock }) (clock := clock + 1) (by simp [k2]) fun x hx => ?_⟩
  ·simp [Instr.mapUpdate, run_underlying h1, Go.MapKept.run_getObj_map k1, run_checkKey h2 hk, run_findKey h2 f1, Go.MapKept.run_setObj_map _ k1, Result.andThen]
  ·simp only [Array.toList_push, List.mem_append, List.mem_singleton] at hx
   rcases hx with hx | rfl
   ·exact k3 x hx
   ·rfl
 ·rw [f4]
  have hj : es[j]? = some e0 := by simpa using f2
  have hkey : ∀ e', es[j]? = some e' → ({ e' with key := keyV kt y, val := .bool true } : MapEntry).key = e'.key := fun e' he' => by rw [hj] at he'; cases he'; exact f3.symm
  refine ⟨_, ?_, h.setMap hb hte (es := es.modify j fun e => { e with key := keyV kt y, val := .bool true }) (clock := clock) (by rw [modify_keys j _ hkey, k2]) fun x hx => ?_⟩
  ·simp [Instr.mapUpdate, run_underlying h1, Go.MapKept.run_getObj_map k1, run_checkKey h2 hk, run_findKey h2 f1, hj, f3, run_keyThatStays hk, Go.MapKept.run_setObj_map _ k1, Result.andThen]
  ·obtain ⟨q, hq⟩ := List.mem_iff_getElem?.1 hx
   simp only [Array.getElem?_toList, Array.getElem?_modify] at hq
   split at hq
   ·simp only [Option.map_eq_some_iff] at hq
    obtain ⟨_, _, rfl⟩ := hq
    rfl
   ·exact k3 x (List.mem_iff_getElem?.2 ⟨q, by simpa using hq⟩)
theorem run_delete_set (hT : TOk P T) (h : R w0 lab0 oo n σ E a w) {t t' : Nat} {ti : TI} {kt : Ty} (ht : T t = some ti) (hm : isMapTI ti kt = true) {b te : Nat} {xs : List kt.den} (hb : σ.box b = some (te, [.mset kt xs])) (hte : mapBase ≤ te)
  {c : Cell} {y : kt.den} {v : Value} (hp : packS kt [c] = some y) (hv : CRel σ E w c v) (ty : TypeId) :
  ∃ w', (Builtin.delete_ #[t, t'] ty #[.map (some (E.bb b)), v]).run P w = .ok (.tuple #[]) w' ∧ R w0 lab0 oo n { σ with box := upd σ.box b (some (te, [.mset kt (delK kt xs y)])) } E a w' := by
 obtain ⟨k, e, d, i, h1, h2, h3, h4, hd⟩ := chk_map hT ht hm
 obtain ⟨es, clock, k1, k2, k3, _⟩ := h.mapBox hb hte
 obtain rfl := packS_key hd hp hv
 have hk := keyV_key hd y
 rcases find_map hd xs y es.toList k2 with ⟨f1, _, _, f2⟩ | ⟨j, e0, f1, f2, f3, _, _, f4⟩
 ·rw [f2]
  refine ⟨_, ?_, h.setMap hb hte (es := es) (clock := clock) k2 k3⟩
  simp [Builtin.delete_, run_underlying h1, Go.MapKept.run_getObj_map k1, run_checkKey h2 hk, run_findKey h2 f1, Go.MapKept.run_setObj_map _ k1, Result.andThen]
 ·rw [f4]
  have hj : j < es.size := by
   have := (List.getElem?_eq_some_iff.1 f2).1
   simpa using this
  have he : (es.eraseIdxIfInBounds j).toList = es.toList.eraseIdx j := by
   unfold Array.eraseIdxIfInBounds
   rw [dif_pos hj, Array.toList_eraseIdx]
  have em : ∀ (l : List MapEntry) (i : Nat), (l.eraseIdx i).map (·.key) = (l.map (·.key)).eraseIdx i := by
   intro l
   induction l with
   | nil => intro i; rfl
   | cons x l ih => intro i; cases i with
    | zero => rfl
    | succ i => simp [ih i]
  have em2 : ∀ (l : List kt.den) (i : Nat), (l.eraseIdx i).map (keyV kt) = (l.map (keyV kt)).eraseIdx i := by
   intro l
   induction l with
   | nil => intro i; rfl
   | cons x l ih => intro i; cases i with
    | zero => rfl
    | succ i => simp [ih i]
  refine ⟨_, ?_, h.setMap hb hte (es := es.eraseIdxIfInBounds j) (clock := clock) (by rw [he, em, k2, em2]) fun x hx => ?_⟩
  ·simp [Builtin.delete_, run_underlying h1, Go.MapKept.run_getObj_map k1, run_checkKey h2 hk, run_findKey h2 f1, Go.MapKept.run_setObj_map _ k1, Result.andThen]
  ·rw [he] at hx
   exact k3 x (List.mem_of_mem_eraseIdx hx)
end
end Go.Fw
namespace Go.Fw
open Go.RowKit
def leB (a b : Int) : Bool := decide (a ≤ b)
def aSlice (σ : St) (x : Cell) (lo hi mx : Option Int) : Option (Bool × Cell) :=
 match x, lo, hi, mx with
 | .str s, none, none, none => some (true, .str (s.extract 0 s.size))
 | .str s, some l, none, none => some (leB 0 l && leB l s.size, .str (s.extract l.toNat s.size))
 | .str s, none, some h, none => some (leB 0 h && leB h s.size, .str (s.extract 0 h.toNat))
 | .str s, some l, some h, none => some (leB 0 l && (leB l h && leB h s.size), .str (s.extract l.toNat h.toNat))
 | .sn e t xs p, some l, none, none => some (leB 0 l && leB l xs.length, .sn e t (xs.drop l.toNat) p)
 | .sn e t xs p, none, some h, none => some (leB 0 h && leB h xs.length, .sn e t (xs.take h.toNat) p)
 | .sn e t xs p, some l, some h, none => some (leB 0 l && (leB l h && leB h xs.length), .sn e t ((xs.drop l.toNat).take (h - l).toNat) p)
 | .sn e t xs p, none, some h, some m => some (leB 0 h && (leB h xs.length && decide (m = h)), .full e t (xs.take h.toNat) p)
 | .own r, some l, none, none => match σ.row r with
  | some row => some (leB 0 l && leB l row.xs.length, .part r l (row.xs.length - l))
  | none => none
 | .own r, none, some h, none => match σ.row r with
  | some row => some (leB 0 h && leB h row.xs.length, .part r 0 h)
  | none => none
 | .own r, some l, some h, none => match σ.row r with
  | some row => some (leB 0 l && (leB l h && leB h row.xs.length), .part r l (h - l))
  | none => none
 | _, _, _, _ => none
def evI (σ : St) (x : Operand) : Option Int := match ev σ x with
 | .c (.int _ n) => some n
 | _ => none
def evO (σ : St) : Option Operand → Option (Option Int)
 | none => some none
 | some x => match evI σ x with
  | some n => some (some n)
  | none => none
def aLen0 (σ : St) (x : Cell) : Option Int :=
 match x with
 | .sn _ _ xs _ => some xs.length
 | .full _ _ xs _ => some xs.length
 | .nil => some 0
 | .own r => match σ.row r with
  | some row => some row.xs.length
  | none => none
 | .part _ _ n => some n
 | _ => none
def aLen (σ : St) (x : Cell) : Option Int := aLen0 σ x.weak
def strOf : Cell → Option ByteArray
 | .str s => some s
 | _ => none
def placeOf (ti : TI) (i : Nat) : Option (Nat × Nat) := match ti.fields[i]? with
 | some (off, n, _) => some (off, n)
 | none => none
def aBytes (σ : St) (x : Cell) : Option ByteArray :=
 match x with
 | .own r => match σ.row r with
  | some row => match castL row.t (.int .u8) row.xs with
   | some ys => some (strOfNums ys)
   | none => none
  | none => none
 | .nil => some ByteArray.empty
 | _ => none
def capsOf (σ : St) : List Operand → Option (List (Nat × Nat))
 | [] => some []
 | x :: xs => match ev σ x, capsOf σ xs with
  | .c (.box b f), some l => some ((b, f) :: l)
  | _, _ => none
def aLenM (σ : St) (ti : TI) : Cell → Option (Bool × SV)
 | .mp b => match σ.box b with
  | some (te, [.mset t xs]) => cond (isMapTI ti t && Nat.ble mapBase te) (some (true, .c (.int .i64 xs.length))) none
  | _ => none
 | _ => none
def aLook (σ : St) (ti : TI) (c : Cell) : Cell → Option (Bool × SV)
 | .mp b => match σ.box b with
  | some (te, [.mset t xs]) => cond (isMapTI ti t && Nat.ble mapBase te) (match packS t [c] with
   | some y => some (true, .c (.bool (hasK t xs y)))
   | none => none) none
  | _ => none
 | _ => none
def errB (σ : St) (x y : Operand) : Option Bool :=
 match ev σ x, y with
 | .c (.err b), .const .nilIface => some b
 | _, _ => none
def isPtr : Cell → Bool
 | .box _ _ => true
 | .elt _ _ _ => true
 | .selt _ _ _ _ => true
 | _ => false
def aVal (T : Tab) (σ : St) : Op → Option (Bool × SV)
  | .move x => some (true, ev σ x)
  | .assign x => some (true, ev σ x)
  | .load t x => match T t, ev σ x with
    | some i, .c c => match aLoadV σ c i.agg i.zero.length with
      | some v => some (true, v)
      | none => none
    | _, _ => none
  | .binOp op t x y _ => match errB σ x y with
   | some b => match T t with
    | some i => cond (decide (i.ty = .err) && (!i.agg && i.el.isNone)) (match op with
      | .eql => some (true, .c (.bool (!b)))
      | .neq => some (true, .c (.bool b))
      | _ => none) none
    | none => none
   | none => match ev σ x, ev σ y with
    | .c u, .c v => match aBin op u v with
      | some (c, z) => some (c, .c z)
      | none => match T t with
        | some i => match aEq σ i u v with
          | some (c, z) => match op with
            | .eql => some (c, .c (.bool z))
            | .neq => some (c, .c (.bool (!z)))
            | _ => none
          | none => none
        | none => none
    | _, _ => none
  | .unOp op _ x => match ev σ x with
    | .c u => match aUn op u with
      | some z => some (true, .c z)
      | none => none
    | _ => none
  | .fieldAddr s x f => match T s, ev σ x with
    | some i, .c u => match i.fields[f]? with
      | some (off, _, _) => match aField σ u off with
        | some z => some (true, .c z)
        | none => none
      | none => none
    | _, _ => none
  | .indexAddr t x i => match T t, ev σ x, ev σ i with
    | some ti, .c u, .c v => match ti.el with
      | some e => match T e with
        | some ei => match aIndexAddr σ e ei.zero.length u v with
          | some (c, z) => some (c, .c z)
          | none => none
        | none => none
      | none => none
    | _, _, _ => none
  | .index t x i => match T t, ev σ x, ev σ i with
    | some ti, .c (.str s), .c (.int _ n) => cond (decide (ti.ty = .str) && (!ti.agg && ti.el.isNone)) (some (decide (0 ≤ n) && decide (n < (s.size : Int)), .c (.int .u8 (bt s n)))) none
    | _, _, _ => none
  | .lookup t x i false => match T t, ev σ x, ev σ i with
    | some ti, .c u, .c v => aLook σ ti v u
    | _, _, _ => none
  | .slice t x lo hi mx => match T t, ev σ x, evO σ lo, evO σ hi, evO σ mx with
    | some ti, .c u, some l, some h, some m => match u with
      | .str _ => cond (decide (ti.ty = .str) && (!ti.agg && ti.el.isNone)) (match aSlice σ u l h m with
        | some (c, z) => some (c, .c z)
        | none => none) none
      | .sn _ ty _ _ => match ti.el with
        | some e => match T e with
          | some ei => cond (Nat.beq ei.zero.length ty.nc) (match aSlice σ u l h m with
            | some (c, z) => some (c, .c z)
            | none => none) none
          | none => none
        | none => none
      | .own r => match ti.el, σ.row r with
        | some e, some row => match T e with
          | some ei => cond (Nat.beq ei.zero.length row.t.nc) (match aSlice σ u l h m with
            | some (c, z) => some (c, .c z)
            | none => none) none
          | none => none
        | _, _ => none
      | _ => none
    | _, _, _, _, _ => none
  | .nilCheck x => match ev σ x with
    | .c u => cond (isPtr u) (some (true, .c u)) none
    | _ => none
  | .extract x i => match ev σ x with
    | .tup l => match l[i]? with
      | some (true, cs) => some (true, .agg cs)
      | some (false, [c]) => some (true, .c c)
      | _ => none
    | _ => none
  | .convert s d x => match T s, T d, ev σ x with
    | some si, some di, .c u => match u with
      | .int _ n => match di.ty with
        | .int k => cond (!di.agg && di.el.isNone) (some (true, .c (.int k (k.wrap n)))) none
        | _ => none
      | .str s => cond (decide (si.ty = .str) && (decide (di.ty = .str) && (!di.agg && (di.el.isNone && (!si.agg && si.el.isNone))))) (some (true, .c (.str s))) none
      | u => match si.el with
        | some e => match T e with
          | some ei => cond (decide (di.ty = .str) && (!di.agg && (di.el.isNone && (decide (ei.ty = .int .u8) && (!ei.agg && ei.el.isNone))))) (match aBytes σ u with
            | some s => some (true, .c (.str s))
            | none => none) none
          | none => none
        | none => none
    | _, _, _ => none
  | .makeFunc (.func f) first captured => cond (Nat.beq first.size 0) (match capsOf σ captured.toList with
    | some l => some (true, .c (.fn f l))
    | none => none) none
  | .build t parts => match T t, partsOf σ parts.toList with
    | some ti, some ps => cond ti.agg (match fillA (placeOf ti) ti.zero ps with
      | some cs => some (true, .agg cs)
      | none => none) none
    | _, _ => none
  | .call { callee := .builtin .len, args := args, argTypes := ts } => match args.toList, ts.toList with
    | [x], [t] => match T t, ev σ x with
      | some ti, .c u => match strOf u with
        | some s => cond (decide (ti.ty = .str) && (!ti.agg && ti.el.isNone)) (some (true, .c (.int .i64 s.size))) none
        | none => cond ti.el.isSome (match aLen σ u with
          | some n => some (true, .c (.int .i64 n))
          | none => none) (aLenM σ ti u)
      | _, _ => none
    | _, _ => none
  | .call { callee := .builtin .max, args := args, argTypes := _ } => match args.toList with
    | [x, y] => match ev σ x, ev σ y with
      | .c (.int k a), .c (.int _ b) => some (true, .c (.int k (mx a b)))
      | _, _ => none
    | _ => none
  | .call { callee := .builtin .min, args := args, argTypes := _ } => match args.toList with
    | [x, y] => match ev σ x, ev σ y with
      | .c (.int k a), .c (.int _ b) => some (true, .c (.int k (mn a b)))
      | _, _ => none
    | _ => none
  | _ => none
section
variable {P : Program} {σ : St} {E : Env} {w : World} {w0 : World} {lab0 : Nat → Lab} {oo : Nat → Value} {n : Nat} {a : Act} {T : Tab}
theorem chk_str (hT : TOk P T) {t : Nat} {i : TI} (hi : T t = some i) (h1 : i.ty = .str) (h2 : i.agg = false) (h3 : i.el = none) : P.underlying t = some .string := by
 obtain ⟨inf, d, z, _, hu, _, _, _, _, _, g⟩ := chk_all hT hi
 cases d <;> simp [descOk, mapTy, h1, h2, h3] at g
 exact hu
theorem chk_int (hT : TOk P T) {t : Nat} {i : TI} {k : IntKind} (hi : T t = some i) (h1 : i.ty = .int k) (h2 : i.agg = false) (h3 : i.el = none) : P.underlying t = some (.int k) := by
 obtain ⟨inf, d, z, _, hu, _, _, _, _, _, g⟩ := chk_all hT hi
 cases d <;> simp [descOk, mapTy, h1, h2, h3] at g
 obtain ⟨_, rfl⟩ := g
 exact hu
theorem chk_bool (hT : TOk P T) {t : Nat} {i : TI} (hi : T t = some i) (h1 : i.ty = .bool) (h2 : i.agg = false) (h3 : i.el = none) : P.underlying t = some .bool := by
 obtain ⟨inf, d, z, _, hu, _, _, _, _, _, g⟩ := chk_all hT hi
 cases d <;> simp [descOk, mapTy, h1, h2, h3] at g
 exact hu
theorem chk_err (hT : TOk P T) {t : Nat} {i : TI} (hi : T t = some i) (h1 : i.ty = .err) (h2 : i.agg = false) (h3 : i.el = none) : ∃ ms, P.underlying t = some (.interface ms) := by
 obtain ⟨inf, d, z, _, hu, _, _, _, _, _, g⟩ := chk_all hT hi
 cases d <;> simp [descOk, mapTy, h1, h2, h3] at g
 exact ⟨_, hu⟩
theorem run_equal_err {t : Nat} {ms} (hu : P.underlying t = some (.interface ms)) {v : Value} {b : Bool} (hv : ErrV v b) : (Op.equal t v .nilIface).run P w = .ok (!b) w := by
 have key : ∀ d, (Op.equalIn (d + 1) t v .nilIface).run P w = .ok (!b) w := fun d => by
  rcases hv with ⟨rfl, rfl⟩ | ⟨u, p, rfl, rfl⟩ <;> simp [Op.equalIn, run_underlying hu]
 exact key 9999
theorem errB_some {x y : Operand} {b : Bool} (h : errB σ x y = some b) : ev σ x = .c (.err b) ∧ y = .const .nilIface := by
 unfold errB at h
 split at h
 ·rename_i b' hx
  injection h with h
  subst h
  exact ⟨hx, rfl⟩
 ·cases h
theorem run_eqGuard_err {op : BinOp} {t : TypeId} {x : Operand} {v : Value} {b : Bool} (hv : ErrV v b) : (eqGuard op t x (.const .nilIface) v .nilIface).run P w = .ok () w := by
 rcases hv with ⟨rfl, _⟩ | ⟨u, p, rfl, _⟩
 ·cases op <;> cases x <;> rfl
 ·cases op <;> rfl
theorem chk_some (hT : TOk P T) {t : Nat} {i : TI} (hi : T t = some i) : ∃ d, P.underlying t = some d := by
 obtain ⟨inf, d, z, _, hu, _⟩ := chk_all hT hi
 exact ⟨d, hu⟩
theorem leB_iff {x y : Int} : leB x y = true ↔ x ≤ y := by simp [leB]
theorem Rd.sub {S : Nat → Prop} {e : Nat} {t : Ty} {A : Option Addr} {m c : Nat} {xs : List t.den} (h : Rd w S (.sl e t) [.slice A m c] xs) {l k q : Nat} (h1 : l ≤ k) (h2 : k ≤ xs.length) (h3 : k ≤ q) (h4 : q ≤ c) :
  Rd w S (.sl e t) [sliced A l k q t.nc] ((xs.drop l).take (k - l)) := by
 obtain ⟨A', n, c', e1, g1, g2, g3, g4⟩ := h
 injection e1 with e1
 injection e1 with a1 a2 a3
 subst a1 a2 a3
 have hlen : ((xs.drop l).take (k - l)).length = k - l := by rw [List.length_take, List.length_drop]; omega
 refine ⟨_, _, _, rfl, hlen, by omega, by simp only [maxLen] at g3 ⊢; omega, ?_⟩
 by_cases hk : k - l = 0
 ·exact .inl hk
 ·rcases g4 with g4 | ⟨ad, css, rfl, g5, g6, g7⟩
  ·omega
  ·have hne : ¬ q = l := by omega
   refine .inr ⟨ad.add (l * t.nc), (css.drop l).take (k - l), ?_, by rw [add_block]; exact g5, g6.drop_take _ _, fun i u hu => ?_⟩
   ·rw [if_neg hne]; rfl
   ·rw [add_add]
    refine g7 _ _ ?_
    have hcl : ∀ c ∈ css, c.length = t.nc := All2.fst (len := List.length) (fun _ _ h => Rd.len h) g6
    have e1 : css.flatten = (css.take l).flatten ++ ((css.drop l).take (k - l)).flatten ++ ((css.drop l).drop (k - l)).flatten := by
     rw [← List.flatten_append, ← List.flatten_append, List.append_assoc, List.take_append_drop, List.take_append_drop]
    have e2 : (css.take l).flatten.length = l * t.nc := by
     rw [flatten_len (m := t.nc) (fun c hc => hcl c (List.mem_of_mem_take hc)), List.length_take, g6.len, Nat.min_eq_left (by omega)]
    rw [e1, List.append_assoc, List.getElem?_append_right (by omega), e2, Nat.add_sub_cancel_left, List.getElem?_append_left (List.getElem?_eq_some_iff.1 hu).1]
    exact hu
theorem own_rv (h : R w0 lab0 oo n σ E a w) {r : Nat} {row : Row} (hr : σ.row r = some row) : ∃ A c, E.rv r = .slice A row.xs.length c ∧ row.xs.length ≤ c ∧ c ≤ maxLen ∧ (0 < row.xs.length → ∃ g, A = some ⟨g, 0, none⟩) := by
 obtain ⟨css, ho, _⟩ := h.rows r row hr
 rcases ho.2 with ⟨e, h0⟩ | ⟨g, cap, cur, e, _, _, h1, h2, _⟩
 ·rw [h0] at *
  exact ⟨none, 0, e, Nat.le_refl _, Nat.zero_le _, fun h => absurd h (by omega)⟩
 ·exact ⟨_, cap, e, h1, h2, fun _ => ⟨g, rfl⟩⟩
theorem elem_of {P : Program} {t e : Nat} (h : P.underlying t = some (.slice e)) : P.elem t = e := by simp [Program.elem, h]
theorem evI_rel (h : R w0 lab0 oo n σ E a w) {x : Operand} {m : Int} (hx : evI σ x = some m) : ∃ k, a.eval x = .int k m := by
 unfold evI at hx
 split at hx
 ·rename_i k m' he
  injection hx with hx
  subst hx
  have := ev_rel h x
  rw [he] at this
  exact ⟨k, this⟩
 ·cases hx
theorem evO_rel (h : R w0 lab0 oo n σ E a w) {x : Option Operand} {m : Option Int} (hx : evO σ x = some m) : (m = none ∧ x.map a.eval = none) ∨ ∃ k q, m = some q ∧ x.map a.eval = some (.int k q) := by
 cases x with
 | none => simp only [evO, Option.some.injEq] at hx; subst hx; exact .inl ⟨rfl, rfl⟩
 | some x =>
  simp only [evO] at hx
  split at hx
  ·rename_i q hq
   injection hx with hx
   subst hx
   obtain ⟨k, hk⟩ := evI_rel h hq
   exact .inr ⟨k, q, rfl, by simp [hk]⟩
  ·cases hx
theorem bt_eq (s : ByteArray) (i : Int) (h : i.toNat < s.size) : bt s i = ((s[i.toNat]'h).toNat : Int) := by
 unfold bt
 have h' : i.toNat < s.data.size := h
 simp only [Array.getD, h', dite_true]
 rfl
theorem aEq_sound (hT : TOk P T) (h : R w0 lab0 oo n σ E a w) {t : Nat} {ti : TI} (ht : T t = some ti) {x y : Cell} {vx vy : Value} {c z : Bool} (he : aEq σ ti x y = some (c, z)) (hc : c = true)
  (hx : CRel σ E w x vx) (hy : CRel σ E w y vy) : (Op.equal t vx vy).run P w = .ok z w := by
 subst hc
 have hnil : ∀ e (A : Option Addr) (m c : Nat), ti.el = some e → (Op.equal t (.slice A m c) (.slice none 0 0)).run P w = .ok A.isNone w := by
  intro e A m c hel
  have hu := chk_slice hT ht hel
  have key : ∀ d, (Op.equalIn (d + 1) t (.slice A m c) (.slice none 0 0)).run P w = .ok A.isNone w := fun d => by
   cases A <;> simp [Op.equalIn, run_underlying hu]
  exact key 9999
 unfold aEq at he
 split at he
 ·obtain rfl : vx = _ := hx
  obtain rfl : vy = _ := hy
  rename_i b b'
  cases hq : (decide (ti.ty = .bool) && (!ti.agg && ti.el.isNone))
  ·rw [hq] at he; cases he
  ·rw [hq] at he
   simp only [cond_true, Option.some.injEq, Prod.mk.injEq, true_and] at he
   subst he
   simp only [Bool.and_eq_true, decide_eq_true_eq, Bool.not_eq_true', Option.isNone_iff_eq_none] at hq
   exact run_equal_bool w t b b' (chk_bool hT ht hq.1 hq.2.1 hq.2.2)
 ·obtain rfl : vx = _ := hx
  obtain rfl : vy = _ := hy
  cases hq : ti.el with
  | none => rw [hq] at he; cases he
  | some e =>
   rw [hq] at he
   simp only [Option.isSome_some, cond_true, Option.some.injEq, Prod.mk.injEq, true_and] at he
   subst he
   exact hnil e none 0 0 hq
 ·obtain rfl : vy = _ := hy
  cases hq : ti.el with
  | none => rw [hq] at he; cases he
  | some e =>
   rw [hq] at he
   simp only [Option.isSome_some, cond_true, Option.some.injEq, Prod.mk.injEq, decide_eq_true_eq] at he
   obtain ⟨h0, rfl⟩ := he
   obtain ⟨A, m, d, hv, h1, h2, h3, h4⟩ := hx
   injection hv with hv
   subst hv
   rcases h4 with h4 | ⟨ad, css, rfl, _⟩
   ·omega
   ·exact hnil e _ m d hq
 ·rename_i r
  obtain rfl : vy = _ := hy
  split at he
  ·rename_i row hrow
   cases hq : ti.el with
   | none => rw [hq] at he; cases he
   | some e =>
    rw [hq] at he
    simp only [Option.isSome_some, cond_true] at he
    obtain ⟨rfl, _⟩ := hx
    obtain ⟨A, d, hv, h1, h2, h3⟩ := own_rv h hrow
    obtain ⟨css, ho, _, _, hn⟩ := h.rows r row hrow
    cases hnl : row.nilE
    ·rw [hnl] at he
     simp only [cond_false, Option.some.injEq, Prod.mk.injEq, decide_eq_true_eq] at he
     obtain ⟨h0, rfl⟩ := he
     obtain ⟨g, rfl⟩ := h3 h0
     rw [hv]
     exact hnil e _ _ _ hq
    ·rw [hnl] at he
     simp only [cond_true, Option.some.injEq, Prod.mk.injEq, true_and] at he
     subst he
     by_cases h0 : row.xs.length = 0
     ·rw [hn hnl h0]
      rw [decide_eq_true h0]
      exact hnil e none 0 0 hq
     ·obtain ⟨g, rfl⟩ := h3 (by omega)
      rw [hv, decide_eq_false h0]
      exact hnil e _ _ _ hq
  ·cases he
 ·cases he
theorem run_slice_string_lh (t : TypeId) (s : ByteArray) (ht : P.underlying t = some .string) (kl kh : IntKind) (l h : Int) (h0 : 0 ≤ l) (h1 : l ≤ h) (h2 : h ≤ s.size) :
  (Instr.slice t (.string s) (some (.int kl l)) (some (.int kh h)) none).run P w = .ok (.string (s.extract l.toNat h.toNat)) w := by
 have eh : (h.toNat : Int) = h := Int.toNat_of_nonneg (by omega)
 simp [Instr.slice, run_underlying ht, Instr.sliceBounds, run_sliceBound, *, eh, (by omega : 0 ≤ l), (by omega : 0 ≤ h)]
theorem aSlice_str {t : Nat} {s : ByteArray} {lo hi mx : Option Value} {l k m : Option Int} {c : Bool} {z : Cell} (hu : P.underlying t = some .string) (hs : aSlice σ (.str s) l k m = some (c, z)) (hc : c = true)
  (hl : (l = none ∧ lo = none) ∨ ∃ kd q, l = some q ∧ lo = some (.int kd q)) (hk : (k = none ∧ hi = none) ∨ ∃ kd q, k = some q ∧ hi = some (.int kd q)) (hm : (m = none ∧ mx = none) ∨ ∃ kd q, m = some q ∧ mx = some (.int kd q)) :
  ∃ v, (Instr.sliceAt t (.string s) lo hi mx).run P w = .ok v w ∧ CRel σ E w z v := by
 subst hc
 rw [run_sliceAt_string (P := P) w t _ _ _ _ hu]
 rcases hl with ⟨rfl, rfl⟩ | ⟨kl, ql, rfl, rfl⟩ <;> rcases hk with ⟨rfl, rfl⟩ | ⟨kh, qh, rfl, rfl⟩ <;> rcases hm with ⟨rfl, rfl⟩ | ⟨km, qm, rfl, rfl⟩ <;>
  simp only [aSlice, Option.some.injEq, Prod.mk.injEq, true_and, reduceCtorEq, Bool.and_eq_true, leB_iff] at hs
 ·subst hs
  exact ⟨_, run_slice_string_all w t s hu, rfl⟩
 ·obtain ⟨⟨h0, h1⟩, rfl⟩ := hs
  exact ⟨_, run_slice_string_h w t s hu kh qh h0 h1, rfl⟩
 ·obtain ⟨⟨h0, h1⟩, rfl⟩ := hs
  exact ⟨_, run_slice_string_l w t s hu kl ql h0 h1, rfl⟩
 ·obtain ⟨⟨h0, h1, h2⟩, rfl⟩ := hs
  exact ⟨_, run_slice_string_lh t s hu kl kh ql qh h0 h1 h2, rfl⟩
theorem aSlice_sn (hT : TOk P T) {t e : Nat} {ti ei : TI} (ht : T t = some ti) (hel : ti.el = some e) (hei : T e = some ei) {e' : Nat} {ty : Ty} {xs : List ty.den} {p : Option Nat} (hnc : ei.zero.length = ty.nc) {vx : Value} (hx : CRel σ E w (.sn e' ty xs p) vx)
  {lo hi mx : Option Value} {l k m : Option Int} {c : Bool} {z : Cell} (hs : aSlice σ (.sn e' ty xs p) l k m = some (c, z)) (hc : c = true)
  (hl : (l = none ∧ lo = none) ∨ ∃ kd q, l = some q ∧ lo = some (.int kd q)) (hk : (k = none ∧ hi = none) ∨ ∃ kd q, k = some q ∧ hi = some (.int kd q)) (hm : (m = none ∧ mx = none) ∨ ∃ kd q, m = some q ∧ mx = some (.int kd q)) :
  ∃ v, (Instr.sliceAt t vx lo hi mx).run P w = .ok v w ∧ CRel σ E w z v := by
 subst hc
 have hu := chk_slice hT ht hel
 have hel' := elem_of hu
 have hu' : P.underlying t = some (.slice (P.elem t)) := by rw [hel']; exact hu
 have hsz : (sizeOf (P.elem t)).run P w = .ok ty.nc w := by rw [hel', chk_size hT hei, hnc]
 have hx' : Rd w (fun k => E.lab k = labOf p) (.sl e' ty) [vx] xs := hx
 obtain ⟨A, n', c', hv, hn, hnc', hmx, _⟩ := id hx'
 injection hv with hv
 subst hv
 rw [run_sliceAt_slice (P := P) w t _ _ _ _ hu']
 rcases hl with ⟨rfl, rfl⟩ | ⟨kl, ql, rfl, rfl⟩ <;> rcases hk with ⟨rfl, rfl⟩ | ⟨kh, qh, rfl, rfl⟩ <;> rcases hm with ⟨rfl, rfl⟩ | ⟨km, qm, rfl, rfl⟩ <;>
  simp only [aSlice, Option.some.injEq, Prod.mk.injEq, true_and, reduceCtorEq, Bool.and_eq_true, leB_iff, decide_eq_true_eq] at hs
 ·obtain ⟨⟨h0, h1⟩, rfl⟩ := hs
  rw [run_slice_h w t A n' c' hu' kh qh h0 (by omega), hsz]
  have := Rd.sub hx' (l := 0) (k := qh.toNat) (q := c') (Nat.zero_le _) (by omega) (by omega) (Nat.le_refl _)
  simp only [List.drop_zero, Nat.sub_zero] at this
  exact ⟨_, rfl, this⟩
 ·obtain ⟨⟨h0, h1, rfl⟩, rfl⟩ := hs
  rw [run_slice_hm w t A n' c' hu' kh km qm qm h0 (Int.le_refl _) (by omega), hsz]
  have := Rd.sub hx' (l := 0) (k := qm.toNat) (q := qm.toNat) (Nat.zero_le _) (by omega) (Nat.le_refl _) (by omega)
  simp only [List.drop_zero, Nat.sub_zero] at this
  refine ⟨_, rfl, this, ?_⟩
  have hlen : (xs.take qm.toNat).length = qm.toNat := by rw [List.length_take]; omega
  rw [hlen]
  exact ⟨_, rfl⟩
 ·obtain ⟨⟨h0, h1⟩, rfl⟩ := hs
  rw [run_slice_l w t A n' c' hu' kl ql h0 (by omega), hsz]
  have := Rd.sub hx' (l := ql.toNat) (k := n') (q := c') (by omega) (by omega) (by omega) (Nat.le_refl _)
  rw [List.take_of_length_le (by rw [List.length_drop]; omega)] at this
  exact ⟨_, rfl, this⟩
 ·obtain ⟨⟨h0, h1, h2⟩, rfl⟩ := hs
  rw [run_slice_lh w t A n' c' hu' kl kh ql qh h0 h1 (by omega), hsz]
  have := Rd.sub hx' (l := ql.toNat) (k := qh.toNat) (q := c') (by omega) (by omega) (by omega) (Nat.le_refl _)
  have e1 : qh.toNat - ql.toNat = (qh - ql).toNat := by omega
  rw [e1] at this
  exact ⟨_, rfl, this⟩
theorem aSlice_own (hT : TOk P T) (h : R w0 lab0 oo n σ E a w) {t e : Nat} {ti ei : TI} (ht : T t = some ti) (hel : ti.el = some e) (hei : T e = some ei) {r : Nat} {row : Row} (hrow : σ.row r = some row) (hnc : ei.zero.length = row.t.nc) {vx : Value} (hx : CRel σ E w (.own r) vx)
  {lo hi mx : Option Value} {l k m : Option Int} {c : Bool} {z : Cell} (hs : aSlice σ (.own r) l k m = some (c, z)) (hc : c = true)
  (hl : (l = none ∧ lo = none) ∨ ∃ kd q, l = some q ∧ lo = some (.int kd q)) (hk : (k = none ∧ hi = none) ∨ ∃ kd q, k = some q ∧ hi = some (.int kd q)) (hm : (m = none ∧ mx = none) ∨ ∃ kd q, m = some q ∧ mx = some (.int kd q)) :
  ∃ v, (Instr.sliceAt t vx lo hi mx).run P w = .ok v w ∧ CRel σ E w z v := by
 subst hc
 have hu := chk_slice hT ht hel
 have hel' := elem_of hu
 have hu' : P.underlying t = some (.slice (P.elem t)) := by rw [hel']; exact hu
 have hsz : (sizeOf (P.elem t)).run P w = .ok row.t.nc w := by rw [hel', chk_size hT hei, hnc]
 obtain ⟨A, d, hv, h1, h2, h3⟩ := own_rv h hrow
 obtain ⟨rfl, _⟩ := hx
 rw [hv, run_sliceAt_slice (P := P) w t _ _ _ _ hu']
 have part : ∀ (q k : Nat), q ≤ k → k ≤ row.xs.length → CRel σ E w (.part r q ((k : Int) - q)) (sliced A q k d row.t.nc) := by
  intro q k hq hk
  refine ⟨row, (if d = q then A else A.map (·.add (q * row.t.nc))), d - q, hrow, by omega, by omega, by omega, ?_, ?_, ?_, fun h0 => ?_⟩
  ·unfold sliced; congr 1; omega
  ·omega
  ·simp only [maxLen] at h2 ⊢; omega
  ·obtain ⟨g, rfl⟩ := h3 (by omega)
   refine ⟨g, _, _, hv, ?_⟩
   rw [if_neg (by omega)]
   simp [add_lit]
 rcases hl with ⟨rfl, rfl⟩ | ⟨kl, ql, rfl, rfl⟩ <;> rcases hk with ⟨rfl, rfl⟩ | ⟨kh, qh, rfl, rfl⟩ <;> rcases hm with ⟨rfl, rfl⟩ | ⟨km, qm, rfl, rfl⟩ <;>
  simp only [aSlice, hrow, Option.some.injEq, Prod.mk.injEq, true_and, reduceCtorEq, Bool.and_eq_true, leB_iff, decide_eq_true_eq] at hs
 ·obtain ⟨⟨h0, h4⟩, rfl⟩ := hs
  rw [run_slice_h w t A _ d hu' kh qh h0 (by omega), hsz]
  have := part 0 qh.toNat (Nat.zero_le _) (by omega)
  rw [Int.toNat_of_nonneg h0] at this
  exact ⟨_, rfl, by simpa using this⟩
 ·obtain ⟨⟨h0, h4⟩, rfl⟩ := hs
  rw [run_slice_l w t A _ d hu' kl ql h0 (by omega), hsz]
  have := part ql.toNat row.xs.length (by omega) (Nat.le_refl _)
  rw [Int.toNat_of_nonneg h0] at this
  exact ⟨_, rfl, this⟩
 ·obtain ⟨⟨h0, h4, h5⟩, rfl⟩ := hs
  rw [run_slice_lh w t A _ d hu' kl kh ql qh h0 h4 (by omega), hsz]
  have := part ql.toNat qh.toNat (by omega) (by omega)
  rw [Int.toNat_of_nonneg h0, Int.toNat_of_nonneg (by omega)] at this
  exact ⟨_, rfl, this⟩
end
end Go.Fw
namespace Go.Fw
open Go.RowKit
section
variable {P : Program} {σ : St} {E : Env} {w : World} {w0 : World} {lab0 : Nat → Lab} {oo : Nat → Value} {n : Nat} {a : Act} {T : Tab}
theorem capsOf_rel (h : R w0 lab0 oo n σ E a w) : ∀ {xs : List Operand} {l : List (Nat × Nat)}, capsOf σ xs = some l → (xs.map a.eval) = l.map (fun p => Value.pointer (some ⟨E.bb p.1, p.2, none⟩)) ∧ ∀ p ∈ l, ∃ te cs, σ.box p.1 = some (te, cs) ∧ p.2 < cs.length
 | [], l, e => by simp only [capsOf, Option.some.injEq] at e; subst e; exact ⟨rfl, fun p hp => by simp at hp⟩
 | x :: xs, l, e => by
  simp only [capsOf] at e
  split at e
  ·rename_i b f l' h1 h2
   injection e with e
   subst e
   obtain ⟨g1, g2⟩ := capsOf_rel h h2
   have hx := ev_rel h x
   rw [h1] at hx
   obtain ⟨hx, te, cs, h3, h4⟩ := hx
   refine ⟨by simp only [List.map_cons, hx, g1], fun p hp => ?_⟩
   rcases List.mem_cons.1 hp with rfl | hp
   ·exact ⟨te, cs, h3, h4⟩
   ·exact g2 p hp
  ·cases e
theorem aLen0_rel (hT : TOk P T) (h : R w0 lab0 oo n σ E a w) {t e : Nat} {ti : TI} (ht : T t = some ti) (hel : ti.el = some e) {x : Cell} {v : Value} {m : Int} (hx : CRel σ E w x v) (hm : aLen0 σ x = some m) (ty : TypeId) : (Builtin.len_ #[t] ty #[v]).run P w = .ok (.int .i64 m) w := by
 have hu := chk_slice hT ht hel
 have key : ∀ (A : Option Addr) (k c : Nat), (Builtin.len_ #[t] ty #[.slice A k c]).run P w = .ok (goInt k) w := fun A k c => by
  refine run_len_slice w t ty A k c (by rw [elem_of hu]; exact hu)
 unfold aLen0 at hm
 split at hm
 ·injection hm with hm; subst hm
  obtain ⟨A, k, c, hv, h1, _⟩ := hx
  injection hv with hv; subst hv
  rw [key, h1]; rfl
 ·injection hm with hm; subst hm
  obtain ⟨_, A, rfl⟩ := hx
  rw [key]; rfl
 ·injection hm with hm; subst hm
  obtain rfl : v = _ := hx
  rw [key]; rfl
 ·rename_i r
  split at hm
  ·rename_i row hrow
   injection hm with hm; subst hm
   obtain ⟨rfl, _⟩ := hx
   obtain ⟨A, c, hv, _⟩ := own_rv h hrow
   rw [hv, key]; rfl
  ·cases hm
 ·injection hm with hm; subst hm
  obtain ⟨row, A, c, h1, h2, h3, h4, rfl, _⟩ := hx
  rw [key]
  simp only [goInt]
  congr 2
  omega
 ·cases hm
theorem aLen_rel (hT : TOk P T) (h : R w0 lab0 oo n σ E a w) {t e : Nat} {ti : TI} (ht : T t = some ti) (hel : ti.el = some e) {x : Cell} {v : Value} {m : Int} (hx : CRel σ E w x v) (hm : aLen σ x = some m) (ty : TypeId) : (Builtin.len_ #[t] ty #[v]).run P w = .ok (.int .i64 m) w := aLen0_rel hT h ht hel hx.weak (show aLen0 σ x.weak = some m from hm) ty
theorem all2_int {k : IntKind} : ∀ {css : List (List Value)} {xs : List Int}, All2 (fun c (y : Int) => c = [.int k y]) css xs → css.flatten = xs.map (Value.int k)
 | [], [], _ => rfl
 | c :: css, x :: xs, h => by
  obtain ⟨h1, h2⟩ := h
  rw [List.flatten_cons, show c = [.int k x] from h1, all2_int h2]; rfl
theorem aBytes_rel (hT : TOk P T) (h : R w0 lab0 oo n σ E a w) {s e d : Nat} {si ei : TI} (hs : T s = some si) (hel : si.el = some e) (hei : T e = some ei) (h1 : ei.ty = .int .u8) (h2 : ei.agg = false) (h3 : ei.el = none) (hd : P.underlying d = some .string)
  {x : Cell} {v : Value} {b : ByteArray} (hx : CRel σ E w x v) (hb : aBytes σ x = some b) : (convert s d v).run P w = .ok (.string b) w := by
 have hu := chk_slice hT hs hel
 have hue := chk_int hT hei h1 h2 h3
 unfold aBytes at hb
 split at hb
 ·rename_i r
  split at hb
  ·rename_i row hrow
   split at hb
   ·rename_i ys hy
    injection hb with hb
    subst hb
    obtain ⟨re, rt, xs, dp, nl⟩ := row
    obtain ⟨he, hxs⟩ := castL_some hy
    have he' : rt = .int .u8 := he
    subst he'
    have hxs' : xs = ys := hxs
    subst hxs'
    obtain ⟨rfl, _⟩ := hx
    have hrd := (h.rows r _ hrow).rd (S := fun _ => True) (fun _ _ => trivial) (fun _ _ => trivial)
    obtain ⟨A, k, c, hv, g1, g2, g3, g4⟩ := hrd
    injection hv with hv
    rw [hv]
    rcases g4 with g4 | ⟨ad, css, rfl, _, g6, g7⟩
    ·subst g4
     have hx0 : xs = [] := List.eq_nil_of_length_eq_zero g1
     subst hx0
     cases A with
     | none => exact run_convert_bytes_nil w s e hu hue 0 c d hd
     | some ad =>
      obtain ⟨g, hg⟩ : ∃ g, ad = ⟨g, 0, none⟩ := by
       obtain ⟨css, ho, _⟩ := h.rows r _ hrow
       rcases ho.2 with ⟨e0, _⟩ | ⟨g, cap, cur, e0, _⟩
       ·rw [hv] at e0; cases e0
       ·rw [hv] at e0; injection e0 with e0; injection e0 with e0; exact ⟨g, e0⟩
      subst hg
      exact run_convert_bytes_arg w s e hu hue g 0 0 c [] rfl (fun i hi => by omega) d hd
    ·obtain ⟨g, hg⟩ : ∃ g, ad = ⟨g, 0, none⟩ := by
      obtain ⟨css, ho, _⟩ := h.rows r _ hrow
      rcases ho.2 with ⟨e0, _⟩ | ⟨g, cap, cur, e0, _⟩
      ·rw [hv] at e0; cases e0
      ·rw [hv] at e0; injection e0 with e0; injection e0 with e0; exact ⟨g, e0⟩
     subst hg
     refine run_convert_bytes_arg w s e hu hue g 0 k c xs g1 (fun i hi => ?_) d hd
     have hf := all2_int (k := .u8) (css := css) (xs := xs) g6
     have hg1 : List.length xs = k := g1
     have := g7 i (.int .u8 (xs.getD i 0)) (by rw [hf, List.getElem?_map, List.getD_eq_getElem?_getD, List.getElem?_eq_getElem (show i < List.length xs by omega)]; rfl)
     rw [add_lit] at this
     exact this
   ·cases hb
  ·cases hb
 ·injection hb with hb; subst hb
  obtain rfl : v = _ := hx
  exact run_convert_bytes_nil w s e hu hue 0 0 d hd
 ·cases hb
theorem aLenM_rel (hT : TOk P T) (h : R w0 lab0 oo n σ E a w) {t : Nat} {ti : TI} (ht : T t = some ti) {u : Cell} {v : Value} {c : Bool} {sv : SV} (hx : CRel σ E w u v) (hm : aLenM σ ti u = some (c, sv)) (ty : TypeId) :
  c = true ∧ ∃ m, sv = .c (.int .i64 m) ∧ (Builtin.len_ #[t] ty #[v]).run P w = .ok (.int .i64 m) w := by
 unfold aLenM at hm
 split at hm
 ·split at hm
  ·rename_i te kt xs hb
   cases hq : (isMapTI ti kt && Nat.ble mapBase te)
   ·rw [hq] at hm; cases hm
   ·rw [hq] at hm
    simp only [Bool.and_eq_true] at hq
    simp only [cond_true, Option.some.injEq, Prod.mk.injEq] at hm
    obtain ⟨rfl, rfl⟩ := hm
    obtain ⟨rfl, _⟩ := hx
    exact ⟨rfl, _, rfl, run_len_set hT h ht hq.1 hb (Nat.le_of_ble_eq_true hq.2) ty⟩
  ·cases hm
 ·cases hm
theorem aLook_rel (hT : TOk P T) (h : R w0 lab0 oo n σ E a w) {t : Nat} {ti : TI} (ht : T t = some ti) {u k : Cell} {v kv : Value} {c : Bool} {sv : SV} (hx : CRel σ E w u v) (hk : CRel σ E w k kv) (hm : aLook σ ti k u = some (c, sv)) :
  ∃ b, sv = .c (.bool b) ∧ (Instr.lookup t v kv false).run P w = .ok (.bool b) w := by
 unfold aLook at hm
 split at hm
 ·split at hm
  ·rename_i te kt xs hb
   cases hq : (isMapTI ti kt && Nat.ble mapBase te)
   ·rw [hq] at hm; cases hm
   ·rw [hq] at hm
    simp only [Bool.and_eq_true] at hq
    simp only [cond_true] at hm
    split at hm
    ·rename_i y hy
     simp only [Option.some.injEq, Prod.mk.injEq] at hm
     obtain ⟨_, rfl⟩ := hm
     obtain ⟨rfl, _⟩ := hx
     exact ⟨_, rfl, run_lookup_set hT h ht hq.1 hb (Nat.le_of_ble_eq_true hq.2) hy hk⟩
    ·cases hm
  ·cases hm
 ·cases hm
theorem SRel.c_inv {x : Cell} {v : Value} (h : SRel σ E w (.c x) v) : CRel σ E w x v := h
theorem ptr_rel {u : Cell} {v : Value} (hu : isPtr u = true) (h : CRel σ E w u v) : ∃ ad, v = .pointer (some ad) := by
 cases u <;> first | (cases hu; done) | skip
 ·exact ⟨_, h.1⟩
 ·obtain ⟨row, g, n, c, _, _, _, _, _, h6⟩ := h
  exact ⟨_, h6⟩
 ·obtain ⟨ad, cs, h1, _⟩ := h
  exact ⟨_, h1⟩
theorem aVal_sound (hT : TOk P T) (h : R w0 lab0 oo n σ E a w) {o : Oper} {c : Bool} {sv : SV} (hv : aVal T σ o.op = some (c, sv)) (hc : c = true) :
  ∃ v, (execOp a.eval o).run P w = .ok (.value v) w ∧ SRel σ E w sv v := by
 obtain ⟨dst, op, oty, pos, after, guard⟩ := o
 have fin : ∀ {s : Sem Value} {sv : SV}, (∃ v, s.run P w = .ok v w ∧ SRel σ E w sv v) → ∃ v, (do pure (Next.value (← s)) : Sem Next).run P w = .ok (.value v) w ∧ SRel σ E w sv v := by
  rintro s sv ⟨v, h1, h2⟩
  exact ⟨v, by simp [h1], h2⟩
 cases op with
 | move x =>
  simp only [aVal, Option.some.injEq, Prod.mk.injEq] at hv
  obtain ⟨_, rfl⟩ := hv
  exact ⟨_, rfl, ev_rel h x⟩
 | assign x =>
  simp only [aVal, Option.some.injEq, Prod.mk.injEq] at hv
  obtain ⟨_, rfl⟩ := hv
  exact ⟨_, rfl, ev_rel h x⟩
 | load t x =>
  simp only [aVal] at hv
  split at hv
  ·rename_i i u ht hx
   split at hv
   ·rename_i z hz
    simp only [Option.some.injEq, Prod.mk.injEq] at hv
    obtain ⟨_, rfl⟩ := hv
    have := ev_rel h x
    rw [hx] at this
    exact fin (let ⟨v, h1, h2⟩ := aLoadV_sound hT h ht hz this; ⟨v, h1 w (Ext.refl w), h2⟩)
   ·cases hv
  ·cases hv
 | binOp op t x y t' =>
  simp only [aVal] at hv
  split at hv
  ·rename_i b hb
   obtain ⟨hx, rfl⟩ := errB_some hb
   have rx := ev_rel h x
   rw [hx] at rx
   have hE : ErrV (a.eval x) b := rx.c_inv
   split at hv
   ·rename_i i hi
    cases hq : decide (i.ty = .err) && (!i.agg && i.el.isNone)
    ·rw [hq] at hv; cases hv
    ·rw [hq] at hv
     simp only [cond_true] at hv
     simp only [Bool.and_eq_true, decide_eq_true_eq, Bool.not_eq_true', Option.isNone_iff_eq_none] at hq
     obtain ⟨ms, hu⟩ := chk_err hT hi hq.1 hq.2.1 hq.2.2
     have g := run_equal_err (P := P) (w := w) hu hE
     have gg := run_eqGuard_err (P := P) (w := w) (op := op) (t := t) (x := x) hE
     split at hv
     ·simp only [Option.some.injEq, Prod.mk.injEq] at hv
      obtain ⟨rfl, rfl⟩ := hv
      refine fin ⟨.bool (!b), ?_, rfl⟩
      rw [Sem.run_bind, show a.eval (.const .nilIface) = .nilIface from rfl, gg]
      have : binOp .eql t (a.eval x) .nilIface = (do pure (.bool (← Op.equal t (a.eval x) .nilIface)) : Sem Value) := by
       rcases hE with ⟨e, _⟩ | ⟨u, p, e, _⟩ <;> (rw [e]; rfl)
      simp [this, g]
     ·simp only [Option.some.injEq, Prod.mk.injEq] at hv
      obtain ⟨rfl, rfl⟩ := hv
      refine fin ⟨.bool b, ?_, rfl⟩
      rw [Sem.run_bind, show a.eval (.const .nilIface) = .nilIface from rfl, gg]
      have : binOp .neq t (a.eval x) .nilIface = (do pure (.bool (!(← Op.equal t (a.eval x) .nilIface))) : Sem Value) := by
       rcases hE with ⟨e, _⟩ | ⟨u, p, e, _⟩ <;> (rw [e]; rfl)
      simp [this, g]
     ·cases hv
   ·cases hv
  ·split at hv
   ·rename_i u v hx hy
    have rx := ev_rel h x
    have ry := ev_rel h y
    rw [hx] at rx
    rw [hy] at ry
    split at hv
    ·rename_i c' z hz
     simp only [Option.some.injEq, Prod.mk.injEq] at hv
     obtain ⟨rfl, rfl⟩ := hv
     have hu : u ≠ .undef := fun e => by subst e; unfold aBin at hz; cases hz
     have hE : ∀ b, u ≠ .err b := fun b e => by subst e; unfold aBin at hz; cases hz
     obtain ⟨p1, p2⟩ := CRel.plain hu hE rx.c_inv
     obtain ⟨v', g1, g2⟩ := aBin_sound (P := P) hz hc rx.c_inv ry.c_inv t
     refine fin ⟨v', ?_, g2⟩
     rw [Sem.run_bind, run_eqGuard p1 p2]
     exact g1
    ·split at hv
     ·rename_i i hi
      split at hv
      ·rename_i c' z hz
       have hu : u ≠ .undef := fun e => by subst e; unfold aEq at hz; cases hz
       have hE : ∀ b, u ≠ .err b := fun b e => by subst e; unfold aEq at hz; cases hz
       obtain ⟨p1, p2⟩ := CRel.plain hu hE rx.c_inv
       split at hv
       ·simp only [Option.some.injEq, Prod.mk.injEq] at hv
        obtain ⟨rfl, rfl⟩ := hv
        have g := aEq_sound hT h hi hz hc rx.c_inv ry.c_inv
        refine fin ⟨.bool z, ?_, rfl⟩
        rw [Sem.run_bind, run_eqGuard p1 p2]
        have : binOp .eql t (a.eval x) (a.eval y) = (do pure (.bool (← Op.equal t (a.eval x) (a.eval y))) : Sem Value) := by
         have rx' := rx.c_inv
         have ry' := ry.c_inv
         unfold aEq at hz
         split at hz
         ·rw [show a.eval x = _ from rx', show a.eval y = _ from ry']; rfl
         ·rw [show a.eval x = _ from rx', show a.eval y = _ from ry']; rfl
         ·obtain ⟨A, m, d, e, _⟩ := rx'
          injection e with e
          rw [e, show a.eval y = _ from ry']; rfl
         ·obtain ⟨_, _, A, m, d, e⟩ := rx'
          rw [e, show a.eval y = _ from ry']; rfl
         ·cases hz
        simp [this, g]
       ·simp only [Option.some.injEq, Prod.mk.injEq] at hv
        obtain ⟨rfl, rfl⟩ := hv
        have g := aEq_sound hT h hi hz hc rx.c_inv ry.c_inv
        refine fin ⟨.bool (!z), ?_, rfl⟩
        rw [Sem.run_bind, run_eqGuard p1 p2]
        have : binOp .neq t (a.eval x) (a.eval y) = (do pure (.bool (!(← Op.equal t (a.eval x) (a.eval y)))) : Sem Value) := by
         have rx' := rx.c_inv
         have ry' := ry.c_inv
         unfold aEq at hz
         split at hz
         ·rw [show a.eval x = _ from rx', show a.eval y = _ from ry']; rfl
         ·rw [show a.eval x = _ from rx', show a.eval y = _ from ry']; rfl
         ·obtain ⟨A, m, d, e, _⟩ := rx'
          injection e with e
          rw [e, show a.eval y = _ from ry']; rfl
         ·obtain ⟨_, _, A, m, d, e⟩ := rx'
          rw [e, show a.eval y = _ from ry']; rfl
         ·cases hz
        simp [this, g]
       ·cases hv
      ·cases hv
     ·cases hv
   ·cases hv
 | unOp op t x =>
  simp only [aVal] at hv
  split at hv
  ·rename_i u hx
   have rx := ev_rel h x
   rw [hx] at rx
   split at hv
   ·rename_i z hz
    simp only [Option.some.injEq, Prod.mk.injEq] at hv
    obtain ⟨_, rfl⟩ := hv
    exact fin (aUn_sound hz rx.c_inv)
   ·cases hv
  ·cases hv
 | fieldAddr s x f =>
  simp only [aVal] at hv
  split at hv
  ·rename_i i u hs hx
   have rx := ev_rel h x
   rw [hx] at rx
   split at hv
   ·rename_i off m ag hf
    split at hv
    ·rename_i z hz
     simp only [Option.some.injEq, Prod.mk.injEq] at hv
     obtain ⟨_, rfl⟩ := hv
     exact fin (let ⟨v, h1, h2⟩ := aField_sound hT hs hf hz rx.c_inv; ⟨v, h1 w, h2⟩)
    ·cases hv
   ·cases hv
  ·cases hv
 | indexAddr t x i =>
  simp only [aVal] at hv
  split at hv
  ·rename_i ti u v ht hx hi
   have rx := ev_rel h x
   have ri := ev_rel h i
   rw [hx] at rx
   rw [hi] at ri
   split at hv
   ·rename_i e he
    split at hv
    ·rename_i ei hei
     split at hv
     ·rename_i c' z hz
      simp only [Option.some.injEq, Prod.mk.injEq] at hv
      obtain ⟨rfl, rfl⟩ := hv
      exact fin (let ⟨v, h1, h2⟩ := aIndexAddr_sound hT h ht he hei hz hc rx.c_inv ri.c_inv; ⟨v, h1 w, h2⟩)
     ·cases hv
    ·cases hv
   ·cases hv
  ·cases hv
 | index t x i =>
  simp only [aVal] at hv
  split at hv
  ·rename_i ti s k m ht hx hi
   have rx := ev_rel h x
   have ri := ev_rel h i
   rw [hx] at rx
   rw [hi] at ri
   cases hq : (decide (ti.ty = .str) && (!ti.agg && ti.el.isNone))
   ·rw [hq] at hv; cases hv
   ·rw [hq] at hv
    simp only [cond_true, Option.some.injEq, Prod.mk.injEq] at hv
    obtain ⟨rfl, rfl⟩ := hv
    simp only [Bool.and_eq_true, decide_eq_true_eq, Bool.not_eq_true', Option.isNone_iff_eq_none] at hq hc
    have hu := chk_str hT ht hq.1 hq.2.1 hq.2.2
    have rx' : a.eval x = .string s := rx
    have ri' : a.eval i = .int k m := ri
    refine fin ⟨_, ?_, rfl⟩
    rw [rx', ri', run_index_string w t s k m hu, dif_pos hc]
    rw [bt_eq s m (by omega)]
  ·cases hv
 | lookup t x i ok =>
  cases ok with
  | true => cases hv
  | false =>
   simp only [aVal] at hv
   split at hv
   ·rename_i ti u k ht hx hk
    have rx := ev_rel h x
    have rk := ev_rel h i
    rw [hx] at rx
    rw [hk] at rk
    obtain ⟨b, rfl, g⟩ := aLook_rel hT h ht rx rk hv
    exact fin ⟨_, g, rfl⟩
   ·cases hv
 | slice t x lo hi mx =>
  simp only [aVal] at hv
  split at hv
  ·rename_i ti u l k m ht hx hl hh hm
   have rx := ev_rel h x
   rw [hx] at rx
   have rl := evO_rel h hl
   have rh := evO_rel h hh
   have rm := evO_rel h hm
   split at hv
   ·rename_i s
    cases hq : (decide (ti.ty = .str) && (!ti.agg && ti.el.isNone))
    ·rw [hq] at hv; cases hv
    ·rw [hq] at hv
     simp only [cond_true] at hv
     split at hv
     ·rename_i c' z hz
      simp only [Option.some.injEq, Prod.mk.injEq] at hv
      obtain ⟨rfl, rfl⟩ := hv
      simp only [Bool.and_eq_true, decide_eq_true_eq, Bool.not_eq_true', Option.isNone_iff_eq_none] at hq
      have hu := chk_str hT ht hq.1 hq.2.1 hq.2.2
      have rx' : a.eval x = .string s := rx
      obtain ⟨v, g1, g2⟩ := aSlice_str (P := P) (E := E) (w := w) hu hz hc rl rh rm
      exact fin ⟨v, by rw [rx']; exact g1, g2⟩
     ·cases hv
   ·rename_i e' ty xs p
    split at hv
    ·rename_i e he
     split at hv
     ·rename_i ei hei
      cases hq : Nat.beq ei.zero.length ty.nc
      ·rw [hq] at hv; cases hv
      ·rw [hq] at hv
       simp only [cond_true] at hv
       split at hv
       ·rename_i c' z hz
        simp only [Option.some.injEq, Prod.mk.injEq] at hv
        obtain ⟨rfl, rfl⟩ := hv
        exact fin (aSlice_sn hT ht he hei (Nat.eq_of_beq_eq_true hq) rx.c_inv hz hc rl rh rm)
       ·cases hv
     ·cases hv
    ·cases hv
   ·rename_i r
    split at hv
    ·rename_i e row he hrow
     split at hv
     ·rename_i ei hei
      cases hq : Nat.beq ei.zero.length row.t.nc
      ·rw [hq] at hv; cases hv
      ·rw [hq] at hv
       simp only [cond_true] at hv
       split at hv
       ·rename_i c' z hz
        simp only [Option.some.injEq, Prod.mk.injEq] at hv
        obtain ⟨rfl, rfl⟩ := hv
        exact fin (aSlice_own hT h ht he hei hrow (Nat.eq_of_beq_eq_true hq) rx.c_inv hz hc rl rh rm)
       ·cases hv
     ·cases hv
    ·cases hv
   ·cases hv
  ·cases hv
 | nilCheck x =>
  simp only [aVal] at hv
  split at hv
  ·rename_i u hx
   have rx := ev_rel h x
   rw [hx] at rx
   have rx : CRel σ E w u (a.eval x) := rx
   cases hu : isPtr u
   ·rw [hu] at hv; cases hv
   ·rw [hu] at hv
    simp only [cond_true, Option.some.injEq, Prod.mk.injEq] at hv
    obtain ⟨_, rfl⟩ := hv
    obtain ⟨ad, hv⟩ := ptr_rel hu rx
    exact ⟨a.eval x, by simp [execOp, hv], rx⟩
  ·cases hv
 | extract x i =>
  simp only [aVal] at hv
  split at hv
  ·rename_i l hx
   have rx := ev_rel h x
   rw [hx] at rx
   obtain ⟨arr, hr, hall⟩ := rx
   split at hv
   ·rename_i cs hl
    simp only [Option.some.injEq, Prod.mk.injEq] at hv
    obtain ⟨_, rfl⟩ := hv
    have : ∃ u, arr.toList[i]? = some u ∧ ∃ ar : Array Value, u = .agg ar ∧ All2 (CRel σ E w) cs ar.toList := by
     have hlt := (List.getElem?_eq_some_iff.1 hl).1
     have key : ∀ {l : List (Bool × List Cell)} {vs : List Value} {i : Nat}, All2 (fun (p : Bool × List Cell) u => cond p.1 (∃ ar : Array Value, u = .agg ar ∧ All2 (CRel σ E w) p.2 ar.toList) (All2 (CRel σ E w) p.2 [u])) l vs → ∀ {p}, l[i]? = some p → ∃ u, vs[i]? = some u ∧ cond p.1 (∃ ar : Array Value, u = .agg ar ∧ All2 (CRel σ E w) p.2 ar.toList) (All2 (CRel σ E w) p.2 [u]) := by
      intro l
      induction l with
      | nil => intro vs i h p hp; simp at hp
      | cons q l ih =>
       intro vs i h p hp
       cases vs with
       | nil => exact h.elim
       | cons v vs =>
        cases i with
        | zero => simp at hp; subst hp; exact ⟨v, rfl, h.1⟩
        | succ i => simpa using ih h.2 (i := i) (by simpa using hp)
     obtain ⟨u, k1, k2⟩ := key hall hl
     exact ⟨u, k1, k2⟩
    obtain ⟨u, k1, k2⟩ := this
    refine fin ⟨u, ?_, k2⟩
    have k1' : arr[i]? = some u := by simpa using k1
    rw [hr]
    simp [Instr.extract, k1']
   ·rename_i c0 hl
    simp only [Option.some.injEq, Prod.mk.injEq] at hv
    obtain ⟨_, rfl⟩ := hv
    have : ∃ u, arr.toList[i]? = some u ∧ All2 (CRel σ E w) [c0] [u] := by
     have key : ∀ {l : List (Bool × List Cell)} {vs : List Value} {i : Nat}, All2 (fun (p : Bool × List Cell) u => cond p.1 (∃ ar : Array Value, u = .agg ar ∧ All2 (CRel σ E w) p.2 ar.toList) (All2 (CRel σ E w) p.2 [u])) l vs → ∀ {p}, l[i]? = some p → ∃ u, vs[i]? = some u ∧ cond p.1 (∃ ar : Array Value, u = .agg ar ∧ All2 (CRel σ E w) p.2 ar.toList) (All2 (CRel σ E w) p.2 [u]) := by
      intro l
      induction l with
      | nil => intro vs i h p hp; simp at hp
      | cons q l ih =>
       intro vs i h p hp
       cases vs with
       | nil => exact h.elim
       | cons v vs =>
        cases i with
        | zero => simp at hp; subst hp; exact ⟨v, rfl, h.1⟩
        | succ i => simpa using ih h.2 (i := i) (by simpa using hp)
     obtain ⟨u, k1, k2⟩ := key hall hl
     exact ⟨u, k1, k2⟩
    obtain ⟨u, k1, k2⟩ := this
    refine fin ⟨u, ?_, k2.1⟩
    have k1' : arr[i]? = some u := by simpa using k1
    rw [hr]
    simp [Instr.extract, k1']
   ·cases hv
  ·cases hv
 | convert s d x =>
  simp only [aVal] at hv
  split at hv
  ·rename_i si di u hs hd hx
   have rx := ev_rel h x
   rw [hx] at rx
   obtain ⟨ds, hds⟩ := chk_some hT hs
   split at hv
   ·rename_i k0 m
    have rx' : a.eval x = .int k0 m := rx
    split at hv
    ·rename_i k hk
     cases hq : (!di.agg && di.el.isNone)
     ·rw [hq] at hv; cases hv
     ·rw [hq] at hv
      simp only [cond_true, Option.some.injEq, Prod.mk.injEq] at hv
      obtain ⟨_, rfl⟩ := hv
      simp only [Bool.and_eq_true, Bool.not_eq_true', Option.isNone_iff_eq_none] at hq
      have hu := chk_int hT hd hk hq.1 hq.2
      refine fin ⟨_, ?_, rfl⟩
      rw [rx']
      simp [convert, run_underlying hds, run_underlying hu, Conv.intToInt]
    ·cases hv
   ·rename_i b
    have rx' : a.eval x = .string b := rx
    cases hq : (decide (si.ty = .str) && (decide (di.ty = .str) && (!di.agg && (di.el.isNone && (!si.agg && si.el.isNone)))))
    ·rw [hq] at hv; cases hv
    ·rw [hq] at hv
     simp only [cond_true, Option.some.injEq, Prod.mk.injEq] at hv
     obtain ⟨_, rfl⟩ := hv
     simp only [Bool.and_eq_true, decide_eq_true_eq, Bool.not_eq_true', Option.isNone_iff_eq_none] at hq
     have hu := chk_str hT hd hq.2.1 hq.2.2.1 hq.2.2.2.1
     have hu2 := chk_str hT hs hq.1 hq.2.2.2.2.1 hq.2.2.2.2.2
     refine fin ⟨_, ?_, rfl⟩
     rw [rx']
     simp [convert, run_underlying hu2, run_underlying hu]
   ·split at hv
    ·rename_i e he
     split at hv
     ·rename_i ei hei
      cases hq : (decide (di.ty = .str) && (!di.agg && (di.el.isNone && (decide (ei.ty = .int .u8) && (!ei.agg && ei.el.isNone)))))
      ·rw [hq] at hv; cases hv
      ·rw [hq] at hv
       simp only [cond_true] at hv
       split at hv
       ·rename_i b hb
        simp only [Option.some.injEq, Prod.mk.injEq] at hv
        obtain ⟨_, rfl⟩ := hv
        simp only [Bool.and_eq_true, decide_eq_true_eq, Bool.not_eq_true', Option.isNone_iff_eq_none] at hq
        have hu := chk_str hT hd hq.1 hq.2.1 hq.2.2.1
        exact fin ⟨_, aBytes_rel hT h hs he hei hq.2.2.2.1 hq.2.2.2.2.1 hq.2.2.2.2.2 hu rx.c_inv hb, rfl⟩
       ·cases hv
     ·cases hv
    ·cases hv
  ·cases hv
 | makeFunc fn first captured =>
  cases fn with
  | func f =>
   simp only [aVal] at hv
   cases hq : Nat.beq first.size 0
   ·rw [hq] at hv; cases hv
   ·rw [hq] at hv
    simp only [cond_true] at hv
    split at hv
    ·rename_i l hl
     simp only [Option.some.injEq, Prod.mk.injEq] at hv
     obtain ⟨_, rfl⟩ := hv
     have hf : first = #[] := Array.eq_empty_of_size_eq_zero (Nat.eq_of_beq_eq_true hq)
     subst hf
     obtain ⟨g1, g2⟩ := capsOf_rel h hl
     have e3 : captured.map a.eval = (l.map fun p => Value.pointer (some ⟨E.bb p.1, p.2, none⟩)).toArray := by
      apply Array.ext'
      rw [Array.toList_map]
      exact g1
     exact fin ⟨_, rfl, by rw [e3]; simp, g2⟩
    ·cases hv
  | _ => cases hv
 | build t parts =>
  simp only [aVal] at hv
  split at hv
  ·rename_i ti ps ht hps
   cases hag : ti.agg
   ·rw [hag] at hv; cases hv
   ·rw [hag] at hv
    simp only [cond_true] at hv
    split at hv
    ·rename_i cs hcs
     simp only [Option.some.injEq, Prod.mk.injEq] at hv
     obtain ⟨_, rfl⟩ := hv
     obtain ⟨inf, d, z, i1, i2, i3, i4, i5, i6, i7, i8⟩ := chk_all hT ht
     cases d with
     | struct fs =>
      have hz := (zcs_rel (σ := σ) (E := E) (w := w) i6).1
      obtain ⟨arr', k1, k2⟩ := fillA_sound hcs (partsOf_rel h hps) hz
      simp only [descOk, Bool.and_eq_true] at i8
      have hpl : ∃ places : Array (Nat × Nat), (fs.mapM fun f => do pure (f.offset, ← sizeOf f.type) : Sem (Array (Nat × Nat))).run P w = .ok places w ∧ ∀ i, places[i]? = placeOf ti i := by
       have e0 : (fun f : Field => (do pure (f.offset, ← sizeOf f.type) : Sem (Nat × Nat))) = fun f => Prod.mk f.offset <$> sizeOf f.type := by
        funext f
        exact bind_pure_comp (Prod.mk f.offset) (sizeOf f.type)
       rw [e0]
       have key : ∀ (l : List Field) (gs : List (Nat × Nat × Bool)), fieldsOk P l gs = true → ∃ pl : List (Nat × Nat), (l.mapM fun f => Prod.mk f.offset <$> sizeOf f.type : Sem (List (Nat × Nat))).run P w = .ok pl w ∧ pl = gs.map fun g => (g.1, g.2.1) := by
        intro l
        induction l with
        | nil => intro gs hg; cases gs with
         | nil => exact ⟨[], by simp, rfl⟩
         | cons _ _ => cases hg
        | cons f l ih =>
         intro gs hg
         cases gs with
         | nil => cases hg
         | cons g gs =>
          have hg' := hg
          simp only [fieldsOk, Bool.and_eq_true] at hg
          obtain ⟨pl, k1, k2⟩ := ih gs hg.2
          obtain ⟨fd, e1, e2, _, e4⟩ := fields_key (P := P) (f :: l) (g :: gs) 0 hg' (off := g.1) (n := g.2.1) (ag := g.2.2) rfl
          simp only [List.getElem?_cons_zero, Option.some.injEq] at e1
          subst e1
          refine ⟨(g.1, g.2.1) :: pl, ?_, by rw [k2]; rfl⟩
          simp [List.mapM_cons, (e4 w).1, k1, e2]
       obtain ⟨pl, k1, k2⟩ := key fs.toList ti.fields i8.2.2
       refine ⟨pl.toArray, ?_, fun i => ?_⟩
       ·rw [Array.mapM_eq_mapM_toList]
        simp [k1]
       ·subst k2
        simp only [List.getElem?_toArray, List.getElem?_map, placeOf]
        cases ti.fields[i]? <;> rfl
      obtain ⟨places, p1, p2⟩ := hpl
      refine fin ⟨.agg arr', ?_, arr', rfl, k2⟩
      have hzv : (zeroValue t).run P w = .ok z w := by simp [zeroValue, typeInfo, i1, i5]
      have hfn : (fun i => places[i]?) = placeOf ti := funext p2
      have e3 : (parts.map fun (i, x) => (i, a.eval x)).toList = parts.toList.map fun q => (q.1, a.eval q.2) := by simp
      simp only [Instr.build, Sem.run_bind, hzv, Result.andThen_ok, run_underlying i2, p1, hfn, e3, k1]
      rfl
     | _ => simp [descOk, hag] at i8
    ·cases hv
  ·cases hv
 | call cl =>
  obtain ⟨callee, args, ats⟩ := cl
  cases callee with
  | builtin b =>
   cases b with
   | len =>
    simp only [aVal] at hv
    split at hv
    ·rename_i x t ha ht0
     have ea : args = #[x] := by apply Array.ext'; simpa using ha
     have et : ats = #[t] := by apply Array.ext'; simpa using ht0
     subst ea et
     have rx := ev_rel h x
     split at hv
     ·rename_i ti u ht hx
      rw [hx] at rx
      split at hv
      ·rename_i s hs
       have eu : u = .str s := by
        unfold strOf at hs
        split at hs
        ·injection hs with hs; rw [hs]
        ·cases hs
       subst eu
       have rx' : a.eval x = .string s := rx
       cases hq : (decide (ti.ty = .str) && (!ti.agg && ti.el.isNone))
       ·rw [hq] at hv; cases hv
       ·rw [hq] at hv
        simp only [cond_true, Option.some.injEq, Prod.mk.injEq] at hv
        obtain ⟨_, rfl⟩ := hv
        simp only [Bool.and_eq_true, decide_eq_true_eq, Bool.not_eq_true', Option.isNone_iff_eq_none] at hq
        have hu := chk_str hT ht hq.1 hq.2.1 hq.2.2
        refine ⟨.int .i64 s.size, ?_, rfl⟩
        simp [execOp, resolve, invoke, builtin, rx', run_len_string w t oty s hu, goInt]
      ·cases hel : ti.el with
       | none =>
        rw [hel] at hv
        obtain ⟨g1, m, rfl, g2⟩ := aLenM_rel hT h ht rx.c_inv hv oty
        exact ⟨.int .i64 m, by simp [execOp, resolve, invoke, builtin, g2], rfl⟩
       | some e =>
        rw [hel] at hv
        simp only [Option.isSome_some, cond_true] at hv
        split at hv
        ·rename_i m hm
         simp only [Option.some.injEq, Prod.mk.injEq] at hv
         obtain ⟨_, rfl⟩ := hv
         refine ⟨.int .i64 m, ?_, rfl⟩
         simp [execOp, resolve, invoke, builtin, aLen_rel hT h ht hel rx.c_inv hm oty]
        ·cases hv
     ·cases hv
    ·cases hv
   | max =>
    simp only [aVal] at hv
    split at hv
    ·rename_i x y ha
     have ea : args = #[x, y] := by apply Array.ext'; simpa using ha
     subst ea
     have rx := ev_rel h x
     have ry := ev_rel h y
     split at hv
     ·rename_i k p k' q hx hy
      rw [hx] at rx
      rw [hy] at ry
      simp only [Option.some.injEq, Prod.mk.injEq] at hv
      obtain ⟨_, rfl⟩ := hv
      have rx' : a.eval x = .int k p := rx
      have ry' : a.eval y = .int k' q := ry
      refine ⟨.int k (mx p q), ?_, rfl⟩
      simp [execOp, resolve, invoke, builtin, rx', ry', run_max_int2, mx]
     ·cases hv
    ·cases hv
   | min =>
    simp only [aVal] at hv
    split at hv
    ·rename_i x y ha
     have ea : args = #[x, y] := by apply Array.ext'; simpa using ha
     subst ea
     have rx := ev_rel h x
     have ry := ev_rel h y
     split at hv
     ·rename_i k p k' q hx hy
      rw [hx] at rx
      rw [hy] at ry
      simp only [Option.some.injEq, Prod.mk.injEq] at hv
      obtain ⟨_, rfl⟩ := hv
      have rx' : a.eval x = .int k p := rx
      have ry' : a.eval y = .int k' q := ry
      refine ⟨.int k (mn p q), ?_, rfl⟩
      simp [execOp, resolve, invoke, builtin, rx', ry', run_min_int2, mn]
     ·cases hv
    ·cases hv
   | _ => cases hv
  | _ => cases hv
 | _ => cases hv
end
end Go.Fw
