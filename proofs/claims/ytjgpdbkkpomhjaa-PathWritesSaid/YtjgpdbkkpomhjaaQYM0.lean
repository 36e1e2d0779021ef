/- A part of a law's proof. Conditions: none. -/
import Derived.Test.YtjgpdbkkpomhjaaQYPK
import Derived.Test.YtjgpdbkkpomhjaaQYGL
import Derived.Test.YtjgpdbkkpomhjaaQYK0
namespace Go.Proofs.YtjgpdbkkpomhjaaX
open Go.RowKit
set_option linter.unusedVariables false
def exW : Ad := ⟨10, 0, 0, 2, 10, 0, 0, 1⟩
theorem exW_ok : exW.ok := by unfold Ad.ok exW; decide
def hdW (f u a : Int) : Hd := ⟨80, f % 65536, 0, u % 4294967296, 0, a, 16, 65535, 0, 0⟩
theorem hdW_ok {f u a : Int} (ha : 0 ≤ a ∧ a ≤ 255) : (hdW f u a).ok := by constructor <;> (simp only [hdW]; omega)
def opW (s x y z : Int) : List Opt := if 0 ≤ x ∧ 0 ≤ y ∧ 0 ≤ z then [(8, [s, 0], ⟨#[]⟩), (172, al 172 x y z 3, ⟨#[]⟩)] else [(8, [s, 0], ⟨#[]⟩)]
theorem opW_two {s x y z : Int} (h : 0 ≤ x ∧ 0 ≤ y ∧ 0 ≤ z) : opW s x y z = [(8, [s, 0], ⟨#[]⟩), (172, al 172 x y z 3, ⟨#[]⟩)] := if_pos h
theorem opW_one {s x y z : Int} (h : ¬ (0 ≤ x ∧ 0 ≤ y ∧ 0 ≤ z)) : opW s x y z = [(8, [s, 0], ⟨#[]⟩)] := if_neg h
theorem al_range {k x y z m : Int} : ∀ n ∈ al k x y z m, IntKind.lo .u32 ≤ n ∧ n ≤ IntKind.hi .u32 := by
  intro n hn
  unfold al at hn
  obtain ⟨v, _, rfl⟩ := List.mem_map.mp hn
  simp only [IntKind.lo, IntKind.hi]
  omega
theorem al_172 (x y z : Int) : al 172 x y z 3 = [x % 16777216, y % 16777216, z % 16777216] := rfl
theorem empty_rep (G : Mem) : D.str.rep G (⟨#[]⟩ : ByteArray) [.string ⟨#[]⟩] := ⟨rfl, by show (0 : Nat) ≤ _; exact Nat.zero_le _⟩
structure Ak where
  u : Int
  s : Int
  a : Int
  x : Int
  y : Int
  z : Int
def wrP (f : Int) (k : Ak) : List Int × Int := encS exW (hdW f k.u k.a) (opW k.s k.x k.y k.z) ⟨#[]⟩
def ackOf (g : Hd) (os : List Opt) (last : Int) : Ak :=
  ⟨unw last g.s3, (findO os 8).1.2.1.getD 0 0, g.s5, ct (if (findO os 172).2 = true then findO os 172 else findO os 174).1.1 (if (findO os 172).2 = true then findO os 172 else findO os 174).1.2.1 0, ct (if (findO os 172).2 = true then findO os 172 else findO os 174).1.1 (if (findO os 172).2 = true then findO os 172 else findO os 174).1.2.1 1, ct (if (findO os 172).2 = true then findO os 172 else findO os 174).1.1 (if (findO os 172).2 = true then findO os 172 else findO os 174).1.2.1 2⟩
def ak0 : Ak := ⟨0, 0, 0, 0, 0, 0⟩
def okA (f : Int) (g : Hd) (os : List Opt) : Bool := decide (g.s1 = f % 65536) && (decide (g.s6 / 16 % 2 = 1) && (findO os 8).2)
def rdP (f : Int) (b : List Int) (last : Int) : Ak × Int :=
  if (decS exW b).2 ≠ 0 then (ak0, (decS exW b).2) else if okA f (decS exW b).1.1 (decS exW b).1.2.1 = false then (ak0, 5) else (ackOf (decS exW b).1.1 (decS exW b).1.2.1 last, 0)
section
variable {f last : Int} {b : List Int} {g : Hd} {os : List Opt} {d : ByteArray} {e : Int}
theorem rdP_err (h : decS exW b = ((g, os, d), e)) (he : e ≠ 0) : rdP f b last = (ak0, e) := by unfold rdP; rw [h]; exact if_pos he
theorem rdP_form (h : decS exW b = ((g, os, d), e)) (he : e = 0) (hk : okA f g os = false) : rdP f b last = (ak0, 5) := by unfold rdP; rw [h, if_neg (fun h_ => h_ he)]; exact if_pos hk
theorem rdP_fine (h : decS exW b = ((g, os, d), e)) (he : e = 0) (hk : okA f g os = true) : rdP f b last = (ackOf g os last, 0) := by unfold rdP; rw [h, if_neg (fun h_ => h_ he), if_neg (by rw [hk]; decide)]
end
end Go.Proofs.YtjgpdbkkpomhjaaX
