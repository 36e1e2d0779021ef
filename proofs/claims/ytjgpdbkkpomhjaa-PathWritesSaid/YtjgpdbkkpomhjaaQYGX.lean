/- A part of a law's proof. Conditions: none. -/
import Derived.Test.YtjgpdbkkpomhjaaQYGW
import Derived.Test.YtjgpdbkkpomhjaaQYI3
namespace Go.Proofs.YtjgpdbkkpomhjaaX
open Go.RowKit
set_option linter.unusedVariables false
def hdOf (b : List Int) : Hd := ⟨bor .u16 (bshl .u16 (IntKind.u16.wrap (b.getD 0 0)) 8) (IntKind.u16.wrap (b.getD 1 0)), bor .u16 (bshl .u16 (IntKind.u16.wrap (b.getD 2 0)) 8) (IntKind.u16.wrap (b.getD 3 0)),
  bor .u32 (bshl .u32 (IntKind.u32.wrap (bor .u16 (bshl .u16 (IntKind.u16.wrap (b.getD 4 0)) 8) (IntKind.u16.wrap (b.getD 5 0)))) 16) (IntKind.u32.wrap (bor .u16 (bshl .u16 (IntKind.u16.wrap (b.getD 6 0)) 8) (IntKind.u16.wrap (b.getD 7 0)))),
  bor .u32 (bshl .u32 (IntKind.u32.wrap (bor .u16 (bshl .u16 (IntKind.u16.wrap (b.getD 8 0)) 8) (IntKind.u16.wrap (b.getD 9 0)))) 16) (IntKind.u32.wrap (bor .u16 (bshl .u16 (IntKind.u16.wrap (b.getD 10 0)) 8) (IntKind.u16.wrap (b.getD 11 0)))),
  bshr .u8 (b.getD 12 0) 4, bor .u8 (bshl .u8 (band .u8 (b.getD 12 0) 1) 2) (bshr .u8 (b.getD 13 0) 6), band .u8 (b.getD 13 0) 63, bor .u16 (bshl .u16 (IntKind.u16.wrap (b.getD 14 0)) 8) (IntKind.u16.wrap (b.getD 15 0)),
  bor .u16 (bshl .u16 (IntKind.u16.wrap (b.getD 16 0)) 8) (IntKind.u16.wrap (b.getD 17 0)), bor .u16 (bshl .u16 (IntKind.u16.wrap (b.getD 18 0)) 8) (IntKind.u16.wrap (b.getD 19 0))⟩
def badH (b : List Int) : Prop := bshr .u8 (b.getD 12 0) 4 < 5 ∨ band .u8 (bshr .u8 (b.getD 12 0) 1) 7 ≠ 0
instance (b : List Int) : Decidable (badH b) := by unfold badH; exact inferInstance
def hd0 : Hd := ⟨0, 0, 0, 0, 0, 0, 0, 0, 0, 0⟩
abbrev Seg := Hd × List Opt × ByteArray
def seg0 : Seg := (hd0, [], ⟨#[]⟩)
def offB (b : List Int) : Nat := (4 * (hdOf b).s4).toNat
def optB (b : List Int) : List Opt × Int := optP ((b.take (offB b)).drop 20)
def decS (a : Ad) (b : List Int) : Seg × Int :=
  if b.length < 20 then (seg0, 3) else if badH b then (seg0, 5) else if b.length < offB b then (seg0, 3) else if 65535 < b.length then (seg0, 4)
  else if cks (psd a b.length ++ b) ≠ 0 then (seg0, 6) else if (optB b).2 ≠ 0 then (seg0, (optB b).2) else ((hdOf b, (optB b).1, strOf (b.drop (offB b))), 0)
section
variable {a : Ad} {b : List Int}
theorem decS_short (h : b.length < 20) : decS a b = (seg0, 3) := if_pos h
theorem decS_form (h : 20 ≤ b.length) (h1 : badH b) : decS a b = (seg0, 5) := by unfold decS; rw [if_neg (by omega), if_pos h1]
theorem decS_cut (h : 20 ≤ b.length) (h1 : ¬ badH b) (h2 : b.length < offB b) : decS a b = (seg0, 3) := by unfold decS; rw [if_neg (by omega), if_neg h1, if_pos h2]
theorem decS_long (h : 20 ≤ b.length) (h1 : ¬ badH b) (h2 : ¬ b.length < offB b) (h3 : 65535 < b.length) : decS a b = (seg0, 4) := by unfold decS; rw [if_neg (by omega), if_neg h1, if_neg h2, if_pos h3]
theorem decS_sum (h : 20 ≤ b.length) (h1 : ¬ badH b) (h2 : ¬ b.length < offB b) (h3 : ¬ 65535 < b.length) (h4 : cks (psd a b.length ++ b) ≠ 0) : decS a b = (seg0, 6) := by unfold decS; rw [if_neg (by omega), if_neg h1, if_neg h2, if_neg h3, if_pos h4]
theorem decS_opt (h : 20 ≤ b.length) (h1 : ¬ badH b) (h2 : ¬ b.length < offB b) (h3 : ¬ 65535 < b.length) (h4 : cks (psd a b.length ++ b) = 0) (h5 : (optB b).2 ≠ 0) : decS a b = (seg0, (optB b).2) := by unfold decS; rw [if_neg (by omega), if_neg h1, if_neg h2, if_neg h3, if_neg (by omega), if_pos h5]
theorem decS_fine (h : 20 ≤ b.length) (h1 : ¬ badH b) (h2 : ¬ b.length < offB b) (h3 : ¬ 65535 < b.length) (h4 : cks (psd a b.length ++ b) = 0) (h5 : (optB b).2 = 0) : decS a b = ((hdOf b, (optB b).1, strOf (b.drop (offB b))), 0) := by unfold decS; rw [if_neg (by omega), if_neg h1, if_neg h2, if_neg h3, if_neg (by omega), if_neg (by omega)]
theorem hd_off (hby : isBytes b) (h : 20 ≤ b.length) (h1 : ¬ badH b) : 5 ≤ (hdOf b).s4 ∧ (hdOf b).s4 ≤ 15 := by
  have h2 := decIn hby h h1
  exact ⟨h2.1, h2.2.1⟩
end
end Go.Proofs.YtjgpdbkkpomhjaaX
