/- A scope without jumps inside: its code in a context of its own. Conditions: none. -/
import Derived.Scope
import Derived.Test.YtjgpdbkkpomhjaaYB
namespace Go.Proofs.YtjgpdbkkpomhjaaX
open Go.RowKit
def scopeOf : Code → Code
  | .scope c => c
  | c => c
abbrev scopeCtx (C : Ctx) (k : List CK) : Ctx := ⟨C.P, Exit.noGoto (den C k), C.w0, C.M⟩
section
variable {C : Ctx} {k : List CK} {s : S} {R : List (Nat × Row)} {G : Mem}
theorem X.scope {c c' : Code} (h : c = .scope c') (H : X (scopeCtx C k) (.code c') [] s R G) : X C (.code c) k s R G := by
  subst h
  intro ρ a w hs
  refine wp_scope_straight ?_
  have e : den (scopeCtx C k) [] = Exit.noGoto (den C k) := by
    funext e a w
    rfl
  have h := H ρ a w hs
  rw [← e]
  exact h
theorem X.scopeEnd {e : Exit} (he : ∀ l, e ≠ .goto l) (H : X C (.ex e) k s R G) : X (scopeCtx C k) (.ex e) [] s R G := by
  intro ρ a w hs
  have h := H ρ a w hs
  show Exit.noGoto (den C k) e a w
  cases e with
  | goto l => exact absurd rfl (he l)
  | normal => exact h
  | exit i => exact h
  | ret => exact h
  | panic c => exact h
  | outgrown => exact h
end
theorem QOk.scope {C : Ctx} {k : List CK} (h : QOk C) : QOk (scopeCtx C k) := fun c a w d v h' => den_panic h k c a w d v h'
end Go.Proofs.YtjgpdbkkpomhjaaX
