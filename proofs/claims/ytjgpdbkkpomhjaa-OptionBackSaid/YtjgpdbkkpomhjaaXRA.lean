/- Small arrays read element by element. Conditions: none. -/
import Derived.Test.YtjgpdbkkpomhjaaXR
namespace Go.Proofs.YtjgpdbkkpomhjaaX
set_option linter.unusedVariables false
theorem arr2 {α : Type} {d : D α} {G : Mem} {xs : List α} {cs : List Value} (h : (D.arr 2 d).rep G xs cs) : ∃ ax ay kx ky, xs = [ax, ay] ∧ cs = kx ++ ky ∧ d.rep G ax kx ∧ d.rep G ay ky := by
  obtain ⟨hl, hr⟩ := h
  match xs, hl, hr with
  | [ax, ay], _, h1 =>
    obtain ⟨kx, tx, rfl, rx, ky, ty, rfl, ry, h0_⟩ := h1
    have h0_ : ty = [] := h0_
    subst h0_
    exact ⟨ax, ay, kx, ky, rfl, by simp, rx, ry⟩
theorem arr3 {α : Type} {d : D α} {G : Mem} {xs : List α} {cs : List Value} (h : (D.arr 3 d).rep G xs cs) : ∃ ax ay az kx ky kz, xs = [ax, ay, az] ∧ cs = kx ++ (ky ++ kz) ∧ d.rep G ax kx ∧ d.rep G ay ky ∧ d.rep G az kz := by
  obtain ⟨hl, hr⟩ := h
  match xs, hl, hr with
  | [ax, ay, az], _, h1 =>
    obtain ⟨kx, tx, rfl, rx, ky, ty, rfl, ry, kz, tz, rfl, rz, h0_⟩ := h1
    have h0_ : tz = [] := h0_
    subst h0_
    exact ⟨ax, ay, az, kx, ky, kz, rfl, by simp, rx, ry, rz⟩
theorem arr4 {α : Type} {d : D α} {G : Mem} {xs : List α} {cs : List Value} (h : (D.arr 4 d).rep G xs cs) : ∃ ax ay az au kx ky kz ku, xs = [ax, ay, az, au] ∧ cs = kx ++ (ky ++ (kz ++ ku)) ∧ d.rep G ax kx ∧ d.rep G ay ky ∧ d.rep G az kz ∧ d.rep G au ku := by
  obtain ⟨hl, hr⟩ := h
  match xs, hl, hr with
  | [ax, ay, az, au], _, h1 =>
    obtain ⟨kx, tx, rfl, rx, ky, ty, rfl, ry, kz, tz, rfl, rz, ku, tu, rfl, ru, h0_⟩ := h1
    have h0_ : tu = [] := h0_
    subst h0_
    exact ⟨ax, ay, az, au, kx, ky, kz, ku, rfl, by simp, rx, ry, rz, ru⟩
end Go.Proofs.YtjgpdbkkpomhjaaX
