/- Contracts of the program's functions, and a law's row over its pure statement: written by this session's own program (wip/pr-patch.py over a copy of the kit's print). -/
import Derived.Test.YtdfbnbhhjhfdaaaPSatMulsx0
import Derived.Test.YtdfbnbhhjhfdaaaPSatMulsx1
namespace Go.Proofs.Ytdfbnbhhjhfdaaa.PSatMuls
open Go.RowKit Go.Proofs.YtdfbnbhhjhfdaaaW.PrintWords Go.Proofs.YtdfbnbhhjhfdaaaW.PrintLast Go.Proofs.YtdfbnbhhjhfdaaaW.PrintMore
attribute [local go_sem] max2_int min2_int max_two min_two max_three min_three max_four min_four   -- for this text's walks alone
set_option linter.unusedVariables false
set_option linter.unusedSimpArgs false

/-! ### leatref01_Mul: function 33 -/
mutual
def leatref01_Mul.j0 : Nat → Int → Int → Bool → Option (Int)
  | 0, _, _, _ => none
  | k + 1, x0, x1, x17 => if x17 = true then (some 0) else (if x0 < 0 then (if x1 < 0 then (if x0 > 0 then (leatref01_Mul.j1 k false (wrap64 (-x0)) x1) else (leatref01_Mul.j1 k false x0 x1)) else (if x0 > 0 then (leatref01_Mul.j6 k true (wrap64 (-x0)) x1) else (leatref01_Mul.j6 k true x0 x1))) else (if x1 < 0 then (if x0 > 0 then (leatref01_Mul.j8 k true (wrap64 (-x0)) x1) else (leatref01_Mul.j8 k true x0 x1)) else (if x0 > 0 then (leatref01_Mul.j10 k false (wrap64 (-x0)) x1) else (leatref01_Mul.j10 k false x0 x1))))
def leatref01_Mul.j1 : Nat → Bool → Int → Int → Option (Int)
  | 0, _, _, _ => none
  | k + 1, x5, x6, x7 => if x7 > 0 then (leatref01_Mul.j2 k x5 x6 (wrap64 (-x7))) else (leatref01_Mul.j2 k x5 x6 x7)
def leatref01_Mul.j2 : Nat → Bool → Int → Int → Option (Int)
  | 0, _, _, _ => none
  | k + 1, x5, x6, x7 => leatref01_Mul.l0 k x5 x7 0 x6 false false
def leatref01_Mul.l0 : Nat → Bool → Int → Int → Int → Bool → Bool → Option (Int)
  | 0, _, _, _, _, _, _ => none
  | k + 1, x5, x7, x8, x9, x10, x11 => if x7 < 0 then (if (Int.tmod x7 2) = 0 then (if x11 = true then (leatref01_Mul.l0 k x5 (wrap64 (Int.tdiv x7 2)) x8 x9 x10 true) else (if (x9 < (-4611686018427387904)) then (leatref01_Mul.l0 k x5 (wrap64 (Int.tdiv x7 2)) x8 x9 x10 (decide (x9 < (-4611686018427387904)))) else (leatref01_Mul.l0 k x5 (wrap64 (Int.tdiv x7 2)) x8 (wrap64 (x9 * 2)) x10 (decide (x9 < (-4611686018427387904)))))) else (if x10 = true then (leatref01_Mul.j4 k x5 x7 x8 x9 true x11) else (if x11 = true then (leatref01_Mul.j4 k x5 x7 x8 x9 true x11) else (leatref01_Mul.j4 k x5 x7 x8 x9 (decide (x8 < (wrap64 ((-9223372036854775808) - x9)))) x11)))) else (if x10 = true then (leatref01_Mul.j5 k x5 x8 x10 x5) else (leatref01_Mul.j5 k x5 x8 x10 false))
def leatref01_Mul.j4 : Nat → Bool → Int → Int → Int → Bool → Bool → Option (Int)
  | 0, _, _, _, _, _, _ => none
  | k + 1, x5, x7, x8, x9, x10, x11 => if x10 = true then (if x11 = true then (leatref01_Mul.l0 k x5 (wrap64 (Int.tdiv x7 2)) x8 x9 x10 true) else (if (x9 < (-4611686018427387904)) then (leatref01_Mul.l0 k x5 (wrap64 (Int.tdiv x7 2)) x8 x9 x10 (decide (x9 < (-4611686018427387904)))) else (leatref01_Mul.l0 k x5 (wrap64 (Int.tdiv x7 2)) x8 (wrap64 (x9 * 2)) x10 (decide (x9 < (-4611686018427387904)))))) else (if x11 = true then (leatref01_Mul.l0 k x5 (wrap64 (Int.tdiv x7 2)) (wrap64 (x8 + x9)) x9 x10 true) else (if (x9 < (-4611686018427387904)) then (leatref01_Mul.l0 k x5 (wrap64 (Int.tdiv x7 2)) (wrap64 (x8 + x9)) x9 x10 (decide (x9 < (-4611686018427387904)))) else (leatref01_Mul.l0 k x5 (wrap64 (Int.tdiv x7 2)) (wrap64 (x8 + x9)) (wrap64 (x9 * 2)) x10 (decide (x9 < (-4611686018427387904))))))
def leatref01_Mul.j5 : Nat → Bool → Int → Bool → Bool → Option (Int)
  | 0, _, _, _, _ => none
  | k + 1, x5, x8, x10, x68 => if x68 = true then (some (-9223372036854775808)) else (if x10 = true then (some 9223372036854775807) else (if x5 = true then (some x8) else ((leatref01_Neg.f x8).bind fun t117 => (some t117))))
def leatref01_Mul.j6 : Nat → Bool → Int → Int → Option (Int)
  | 0, _, _, _ => none
  | k + 1, x5, x6, x7 => if x7 > 0 then (leatref01_Mul.j7 k x5 x6 (wrap64 (-x7))) else (leatref01_Mul.j7 k x5 x6 x7)
def leatref01_Mul.j7 : Nat → Bool → Int → Int → Option (Int)
  | 0, _, _, _ => none
  | k + 1, x5, x6, x7 => leatref01_Mul.l0 k x5 x7 0 x6 false false
def leatref01_Mul.j8 : Nat → Bool → Int → Int → Option (Int)
  | 0, _, _, _ => none
  | k + 1, x5, x6, x7 => if x7 > 0 then (leatref01_Mul.j9 k x5 x6 (wrap64 (-x7))) else (leatref01_Mul.j9 k x5 x6 x7)
def leatref01_Mul.j9 : Nat → Bool → Int → Int → Option (Int)
  | 0, _, _, _ => none
  | k + 1, x5, x6, x7 => leatref01_Mul.l0 k x5 x7 0 x6 false false
def leatref01_Mul.j10 : Nat → Bool → Int → Int → Option (Int)
  | 0, _, _, _ => none
  | k + 1, x5, x6, x7 => if x7 > 0 then (leatref01_Mul.j11 k x5 x6 (wrap64 (-x7))) else (leatref01_Mul.j11 k x5 x6 x7)
def leatref01_Mul.j11 : Nat → Bool → Int → Int → Option (Int)
  | 0, _, _, _ => none
  | k + 1, x5, x6, x7 => leatref01_Mul.l0 k x5 x7 0 x6 false false
end
def leatref01_Mul.f (k : Nat) (a0 : Int) (a1 : Int) : Option (Int) := if a0 = 0 then (leatref01_Mul.j0 k a0 a1 true) else (leatref01_Mul.j0 k a0 a1 (a1 == 0))
theorem leatref01_Mul.mono_l : ∀ k, (∀ y0 y1 y2, LeO (leatref01_Mul.j0 k y0 y1 y2) (leatref01_Mul.j0 (k + 1) y0 y1 y2)) ∧ (∀ y0 y1 y2, LeO (leatref01_Mul.j1 k y0 y1 y2) (leatref01_Mul.j1 (k + 1) y0 y1 y2)) ∧ (∀ y0 y1 y2, LeO (leatref01_Mul.j2 k y0 y1 y2) (leatref01_Mul.j2 (k + 1) y0 y1 y2)) ∧ (∀ y0 y1 y2 y3 y4 y5, LeO (leatref01_Mul.l0 k y0 y1 y2 y3 y4 y5) (leatref01_Mul.l0 (k + 1) y0 y1 y2 y3 y4 y5)) ∧ (∀ y0 y1 y2 y3 y4 y5, LeO (leatref01_Mul.j4 k y0 y1 y2 y3 y4 y5) (leatref01_Mul.j4 (k + 1) y0 y1 y2 y3 y4 y5)) ∧ (∀ y0 y1 y2 y3, LeO (leatref01_Mul.j5 k y0 y1 y2 y3) (leatref01_Mul.j5 (k + 1) y0 y1 y2 y3)) ∧ (∀ y0 y1 y2, LeO (leatref01_Mul.j6 k y0 y1 y2) (leatref01_Mul.j6 (k + 1) y0 y1 y2)) ∧ (∀ y0 y1 y2, LeO (leatref01_Mul.j7 k y0 y1 y2) (leatref01_Mul.j7 (k + 1) y0 y1 y2)) ∧ (∀ y0 y1 y2, LeO (leatref01_Mul.j8 k y0 y1 y2) (leatref01_Mul.j8 (k + 1) y0 y1 y2)) ∧ (∀ y0 y1 y2, LeO (leatref01_Mul.j9 k y0 y1 y2) (leatref01_Mul.j9 (k + 1) y0 y1 y2)) ∧ (∀ y0 y1 y2, LeO (leatref01_Mul.j10 k y0 y1 y2) (leatref01_Mul.j10 (k + 1) y0 y1 y2)) ∧ (∀ y0 y1 y2, LeO (leatref01_Mul.j11 k y0 y1 y2) (leatref01_Mul.j11 (k + 1) y0 y1 y2))
  | 0 => ⟨fun _ _ _ r h => by simp [leatref01_Mul.j0] at h, fun _ _ _ r h => by simp [leatref01_Mul.j1] at h, fun _ _ _ r h => by simp [leatref01_Mul.j2] at h, fun _ _ _ _ _ _ r h => by simp [leatref01_Mul.l0] at h, fun _ _ _ _ _ _ r h => by simp [leatref01_Mul.j4] at h, fun _ _ _ _ r h => by simp [leatref01_Mul.j5] at h, fun _ _ _ r h => by simp [leatref01_Mul.j6] at h, fun _ _ _ r h => by simp [leatref01_Mul.j7] at h, fun _ _ _ r h => by simp [leatref01_Mul.j8] at h, fun _ _ _ r h => by simp [leatref01_Mul.j9] at h, fun _ _ _ r h => by simp [leatref01_Mul.j10] at h, fun _ _ _ r h => by simp [leatref01_Mul.j11] at h⟩
  | k + 1 => by
    obtain ⟨ih0, ih1, ih2, ih3, ih4, ih5, ih6, ih7, ih8, ih9, ih10, ih11⟩ := leatref01_Mul.mono_l k
    refine ⟨?_, ?_, ?_, ?_, ?_, ?_, ?_, ?_, ?_, ?_, ?_, ?_⟩
    · intro y0 y1 y2
      unfold leatref01_Mul.j0
      repeat' first
      | (with_reducible exact ih0 _ _ _)
      | (with_reducible exact ih1 _ _ _)
      | (with_reducible exact ih2 _ _ _)
      | (with_reducible exact ih3 _ _ _ _ _ _)
      | (with_reducible exact ih4 _ _ _ _ _ _)
      | (with_reducible exact ih5 _ _ _ _)
      | (with_reducible exact ih6 _ _ _)
      | (with_reducible exact ih7 _ _ _)
      | (with_reducible exact ih8 _ _ _)
      | (with_reducible exact ih9 _ _ _)
      | (with_reducible exact ih10 _ _ _)
      | (with_reducible exact ih11 _ _ _)
      | (with_reducible exact LeO.refl _)
      | (with_reducible exact LeO.none _)
      | (with_reducible refine LeO.ite ?_ ?_)
      | (with_reducible refine LeO.bind ?_ (fun _ => ?_))
      | exact ih0 _ _ _
      | exact ih1 _ _ _
      | exact ih2 _ _ _
      | exact ih3 _ _ _ _ _ _
      | exact ih4 _ _ _ _ _ _
      | exact ih5 _ _ _ _
      | exact ih6 _ _ _
      | exact ih7 _ _ _
      | exact ih8 _ _ _
      | exact ih9 _ _ _
      | exact ih10 _ _ _
      | exact ih11 _ _ _
      | exact LeO.none _
      | refine LeO.ite ?_ ?_
      | refine LeO.bind ?_ (fun _ => ?_)
    · intro y0 y1 y2
      unfold leatref01_Mul.j1
      repeat' first
      | (with_reducible exact ih0 _ _ _)
      | (with_reducible exact ih1 _ _ _)
      | (with_reducible exact ih2 _ _ _)
      | (with_reducible exact ih3 _ _ _ _ _ _)
      | (with_reducible exact ih4 _ _ _ _ _ _)
      | (with_reducible exact ih5 _ _ _ _)
      | (with_reducible exact ih6 _ _ _)
      | (with_reducible exact ih7 _ _ _)
      | (with_reducible exact ih8 _ _ _)
      | (with_reducible exact ih9 _ _ _)
      | (with_reducible exact ih10 _ _ _)
      | (with_reducible exact ih11 _ _ _)
      | (with_reducible exact LeO.refl _)
      | (with_reducible exact LeO.none _)
      | (with_reducible refine LeO.ite ?_ ?_)
      | (with_reducible refine LeO.bind ?_ (fun _ => ?_))
      | exact ih0 _ _ _
      | exact ih1 _ _ _
      | exact ih2 _ _ _
      | exact ih3 _ _ _ _ _ _
      | exact ih4 _ _ _ _ _ _
      | exact ih5 _ _ _ _
      | exact ih6 _ _ _
      | exact ih7 _ _ _
      | exact ih8 _ _ _
      | exact ih9 _ _ _
      | exact ih10 _ _ _
      | exact ih11 _ _ _
      | exact LeO.none _
      | refine LeO.ite ?_ ?_
      | refine LeO.bind ?_ (fun _ => ?_)
    · intro y0 y1 y2
      unfold leatref01_Mul.j2
      repeat' first
      | (with_reducible exact ih0 _ _ _)
      | (with_reducible exact ih1 _ _ _)
      | (with_reducible exact ih2 _ _ _)
      | (with_reducible exact ih3 _ _ _ _ _ _)
      | (with_reducible exact ih4 _ _ _ _ _ _)
      | (with_reducible exact ih5 _ _ _ _)
      | (with_reducible exact ih6 _ _ _)
      | (with_reducible exact ih7 _ _ _)
      | (with_reducible exact ih8 _ _ _)
      | (with_reducible exact ih9 _ _ _)
      | (with_reducible exact ih10 _ _ _)
      | (with_reducible exact ih11 _ _ _)
      | (with_reducible exact LeO.refl _)
      | (with_reducible exact LeO.none _)
      | (with_reducible refine LeO.ite ?_ ?_)
      | (with_reducible refine LeO.bind ?_ (fun _ => ?_))
      | exact ih0 _ _ _
      | exact ih1 _ _ _
      | exact ih2 _ _ _
      | exact ih3 _ _ _ _ _ _
      | exact ih4 _ _ _ _ _ _
      | exact ih5 _ _ _ _
      | exact ih6 _ _ _
      | exact ih7 _ _ _
      | exact ih8 _ _ _
      | exact ih9 _ _ _
      | exact ih10 _ _ _
      | exact ih11 _ _ _
      | exact LeO.none _
      | refine LeO.ite ?_ ?_
      | refine LeO.bind ?_ (fun _ => ?_)
    · intro y0 y1 y2 y3 y4 y5
      unfold leatref01_Mul.l0
      repeat' first
      | (with_reducible exact ih0 _ _ _)
      | (with_reducible exact ih1 _ _ _)
      | (with_reducible exact ih2 _ _ _)
      | (with_reducible exact ih3 _ _ _ _ _ _)
      | (with_reducible exact ih4 _ _ _ _ _ _)
      | (with_reducible exact ih5 _ _ _ _)
      | (with_reducible exact ih6 _ _ _)
      | (with_reducible exact ih7 _ _ _)
      | (with_reducible exact ih8 _ _ _)
      | (with_reducible exact ih9 _ _ _)
      | (with_reducible exact ih10 _ _ _)
      | (with_reducible exact ih11 _ _ _)
      | (with_reducible exact LeO.refl _)
      | (with_reducible exact LeO.none _)
      | (with_reducible refine LeO.ite ?_ ?_)
      | (with_reducible refine LeO.bind ?_ (fun _ => ?_))
      | exact ih0 _ _ _
      | exact ih1 _ _ _
      | exact ih2 _ _ _
      | exact ih3 _ _ _ _ _ _
      | exact ih4 _ _ _ _ _ _
      | exact ih5 _ _ _ _
      | exact ih6 _ _ _
      | exact ih7 _ _ _
      | exact ih8 _ _ _
      | exact ih9 _ _ _
      | exact ih10 _ _ _
      | exact ih11 _ _ _
      | exact LeO.none _
      | refine LeO.ite ?_ ?_
      | refine LeO.bind ?_ (fun _ => ?_)
    · intro y0 y1 y2 y3 y4 y5
      unfold leatref01_Mul.j4
      repeat' first
      | (with_reducible exact ih0 _ _ _)
      | (with_reducible exact ih1 _ _ _)
      | (with_reducible exact ih2 _ _ _)
      | (with_reducible exact ih3 _ _ _ _ _ _)
      | (with_reducible exact ih4 _ _ _ _ _ _)
      | (with_reducible exact ih5 _ _ _ _)
      | (with_reducible exact ih6 _ _ _)
      | (with_reducible exact ih7 _ _ _)
      | (with_reducible exact ih8 _ _ _)
      | (with_reducible exact ih9 _ _ _)
      | (with_reducible exact ih10 _ _ _)
      | (with_reducible exact ih11 _ _ _)
      | (with_reducible exact LeO.refl _)
      | (with_reducible exact LeO.none _)
      | (with_reducible refine LeO.ite ?_ ?_)
      | (with_reducible refine LeO.bind ?_ (fun _ => ?_))
      | exact ih0 _ _ _
      | exact ih1 _ _ _
      | exact ih2 _ _ _
      | exact ih3 _ _ _ _ _ _
      | exact ih4 _ _ _ _ _ _
      | exact ih5 _ _ _ _
      | exact ih6 _ _ _
      | exact ih7 _ _ _
      | exact ih8 _ _ _
      | exact ih9 _ _ _
      | exact ih10 _ _ _
      | exact ih11 _ _ _
      | exact LeO.none _
      | refine LeO.ite ?_ ?_
      | refine LeO.bind ?_ (fun _ => ?_)
    · intro y0 y1 y2 y3
      unfold leatref01_Mul.j5
      repeat' first
      | (with_reducible exact ih0 _ _ _)
      | (with_reducible exact ih1 _ _ _)
      | (with_reducible exact ih2 _ _ _)
      | (with_reducible exact ih3 _ _ _ _ _ _)
      | (with_reducible exact ih4 _ _ _ _ _ _)
      | (with_reducible exact ih5 _ _ _ _)
      | (with_reducible exact ih6 _ _ _)
      | (with_reducible exact ih7 _ _ _)
      | (with_reducible exact ih8 _ _ _)
      | (with_reducible exact ih9 _ _ _)
      | (with_reducible exact ih10 _ _ _)
      | (with_reducible exact ih11 _ _ _)
      | (with_reducible exact LeO.refl _)
      | (with_reducible exact LeO.none _)
      | (with_reducible refine LeO.ite ?_ ?_)
      | (with_reducible refine LeO.bind ?_ (fun _ => ?_))
      | exact ih0 _ _ _
      | exact ih1 _ _ _
      | exact ih2 _ _ _
      | exact ih3 _ _ _ _ _ _
      | exact ih4 _ _ _ _ _ _
      | exact ih5 _ _ _ _
      | exact ih6 _ _ _
      | exact ih7 _ _ _
      | exact ih8 _ _ _
      | exact ih9 _ _ _
      | exact ih10 _ _ _
      | exact ih11 _ _ _
      | exact LeO.none _
      | refine LeO.ite ?_ ?_
      | refine LeO.bind ?_ (fun _ => ?_)
    · intro y0 y1 y2
      unfold leatref01_Mul.j6
      repeat' first
      | (with_reducible exact ih0 _ _ _)
      | (with_reducible exact ih1 _ _ _)
      | (with_reducible exact ih2 _ _ _)
      | (with_reducible exact ih3 _ _ _ _ _ _)
      | (with_reducible exact ih4 _ _ _ _ _ _)
      | (with_reducible exact ih5 _ _ _ _)
      | (with_reducible exact ih6 _ _ _)
      | (with_reducible exact ih7 _ _ _)
      | (with_reducible exact ih8 _ _ _)
      | (with_reducible exact ih9 _ _ _)
      | (with_reducible exact ih10 _ _ _)
      | (with_reducible exact ih11 _ _ _)
      | (with_reducible exact LeO.refl _)
      | (with_reducible exact LeO.none _)
      | (with_reducible refine LeO.ite ?_ ?_)
      | (with_reducible refine LeO.bind ?_ (fun _ => ?_))
      | exact ih0 _ _ _
      | exact ih1 _ _ _
      | exact ih2 _ _ _
      | exact ih3 _ _ _ _ _ _
      | exact ih4 _ _ _ _ _ _
      | exact ih5 _ _ _ _
      | exact ih6 _ _ _
      | exact ih7 _ _ _
      | exact ih8 _ _ _
      | exact ih9 _ _ _
      | exact ih10 _ _ _
      | exact ih11 _ _ _
      | exact LeO.none _
      | refine LeO.ite ?_ ?_
      | refine LeO.bind ?_ (fun _ => ?_)
    · intro y0 y1 y2
      unfold leatref01_Mul.j7
      repeat' first
      | (with_reducible exact ih0 _ _ _)
      | (with_reducible exact ih1 _ _ _)
      | (with_reducible exact ih2 _ _ _)
      | (with_reducible exact ih3 _ _ _ _ _ _)
      | (with_reducible exact ih4 _ _ _ _ _ _)
      | (with_reducible exact ih5 _ _ _ _)
      | (with_reducible exact ih6 _ _ _)
      | (with_reducible exact ih7 _ _ _)
      | (with_reducible exact ih8 _ _ _)
      | (with_reducible exact ih9 _ _ _)
      | (with_reducible exact ih10 _ _ _)
      | (with_reducible exact ih11 _ _ _)
      | (with_reducible exact LeO.refl _)
      | (with_reducible exact LeO.none _)
      | (with_reducible refine LeO.ite ?_ ?_)
      | (with_reducible refine LeO.bind ?_ (fun _ => ?_))
      | exact ih0 _ _ _
      | exact ih1 _ _ _
      | exact ih2 _ _ _
      | exact ih3 _ _ _ _ _ _
      | exact ih4 _ _ _ _ _ _
      | exact ih5 _ _ _ _
      | exact ih6 _ _ _
      | exact ih7 _ _ _
      | exact ih8 _ _ _
      | exact ih9 _ _ _
      | exact ih10 _ _ _
      | exact ih11 _ _ _
      | exact LeO.none _
      | refine LeO.ite ?_ ?_
      | refine LeO.bind ?_ (fun _ => ?_)
    · intro y0 y1 y2
      unfold leatref01_Mul.j8
      repeat' first
      | (with_reducible exact ih0 _ _ _)
      | (with_reducible exact ih1 _ _ _)
      | (with_reducible exact ih2 _ _ _)
      | (with_reducible exact ih3 _ _ _ _ _ _)
      | (with_reducible exact ih4 _ _ _ _ _ _)
      | (with_reducible exact ih5 _ _ _ _)
      | (with_reducible exact ih6 _ _ _)
      | (with_reducible exact ih7 _ _ _)
      | (with_reducible exact ih8 _ _ _)
      | (with_reducible exact ih9 _ _ _)
      | (with_reducible exact ih10 _ _ _)
      | (with_reducible exact ih11 _ _ _)
      | (with_reducible exact LeO.refl _)
      | (with_reducible exact LeO.none _)
      | (with_reducible refine LeO.ite ?_ ?_)
      | (with_reducible refine LeO.bind ?_ (fun _ => ?_))
      | exact ih0 _ _ _
      | exact ih1 _ _ _
      | exact ih2 _ _ _
      | exact ih3 _ _ _ _ _ _
      | exact ih4 _ _ _ _ _ _
      | exact ih5 _ _ _ _
      | exact ih6 _ _ _
      | exact ih7 _ _ _
      | exact ih8 _ _ _
      | exact ih9 _ _ _
      | exact ih10 _ _ _
      | exact ih11 _ _ _
      | exact LeO.none _
      | refine LeO.ite ?_ ?_
      | refine LeO.bind ?_ (fun _ => ?_)
    · intro y0 y1 y2
      unfold leatref01_Mul.j9
      repeat' first
      | (with_reducible exact ih0 _ _ _)
      | (with_reducible exact ih1 _ _ _)
      | (with_reducible exact ih2 _ _ _)
      | (with_reducible exact ih3 _ _ _ _ _ _)
      | (with_reducible exact ih4 _ _ _ _ _ _)
      | (with_reducible exact ih5 _ _ _ _)
      | (with_reducible exact ih6 _ _ _)
      | (with_reducible exact ih7 _ _ _)
      | (with_reducible exact ih8 _ _ _)
      | (with_reducible exact ih9 _ _ _)
      | (with_reducible exact ih10 _ _ _)
      | (with_reducible exact ih11 _ _ _)
      | (with_reducible exact LeO.refl _)
      | (with_reducible exact LeO.none _)
      | (with_reducible refine LeO.ite ?_ ?_)
      | (with_reducible refine LeO.bind ?_ (fun _ => ?_))
      | exact ih0 _ _ _
      | exact ih1 _ _ _
      | exact ih2 _ _ _
      | exact ih3 _ _ _ _ _ _
      | exact ih4 _ _ _ _ _ _
      | exact ih5 _ _ _ _
      | exact ih6 _ _ _
      | exact ih7 _ _ _
      | exact ih8 _ _ _
      | exact ih9 _ _ _
      | exact ih10 _ _ _
      | exact ih11 _ _ _
      | exact LeO.none _
      | refine LeO.ite ?_ ?_
      | refine LeO.bind ?_ (fun _ => ?_)
    · intro y0 y1 y2
      unfold leatref01_Mul.j10
      repeat' first
      | (with_reducible exact ih0 _ _ _)
      | (with_reducible exact ih1 _ _ _)
      | (with_reducible exact ih2 _ _ _)
      | (with_reducible exact ih3 _ _ _ _ _ _)
      | (with_reducible exact ih4 _ _ _ _ _ _)
      | (with_reducible exact ih5 _ _ _ _)
      | (with_reducible exact ih6 _ _ _)
      | (with_reducible exact ih7 _ _ _)
      | (with_reducible exact ih8 _ _ _)
      | (with_reducible exact ih9 _ _ _)
      | (with_reducible exact ih10 _ _ _)
      | (with_reducible exact ih11 _ _ _)
      | (with_reducible exact LeO.refl _)
      | (with_reducible exact LeO.none _)
      | (with_reducible refine LeO.ite ?_ ?_)
      | (with_reducible refine LeO.bind ?_ (fun _ => ?_))
      | exact ih0 _ _ _
      | exact ih1 _ _ _
      | exact ih2 _ _ _
      | exact ih3 _ _ _ _ _ _
      | exact ih4 _ _ _ _ _ _
      | exact ih5 _ _ _ _
      | exact ih6 _ _ _
      | exact ih7 _ _ _
      | exact ih8 _ _ _
      | exact ih9 _ _ _
      | exact ih10 _ _ _
      | exact ih11 _ _ _
      | exact LeO.none _
      | refine LeO.ite ?_ ?_
      | refine LeO.bind ?_ (fun _ => ?_)
    · intro y0 y1 y2
      unfold leatref01_Mul.j11
      repeat' first
      | (with_reducible exact ih0 _ _ _)
      | (with_reducible exact ih1 _ _ _)
      | (with_reducible exact ih2 _ _ _)
      | (with_reducible exact ih3 _ _ _ _ _ _)
      | (with_reducible exact ih4 _ _ _ _ _ _)
      | (with_reducible exact ih5 _ _ _ _)
      | (with_reducible exact ih6 _ _ _)
      | (with_reducible exact ih7 _ _ _)
      | (with_reducible exact ih8 _ _ _)
      | (with_reducible exact ih9 _ _ _)
      | (with_reducible exact ih10 _ _ _)
      | (with_reducible exact ih11 _ _ _)
      | (with_reducible exact LeO.refl _)
      | (with_reducible exact LeO.none _)
      | (with_reducible refine LeO.ite ?_ ?_)
      | (with_reducible refine LeO.bind ?_ (fun _ => ?_))
      | exact ih0 _ _ _
      | exact ih1 _ _ _
      | exact ih2 _ _ _
      | exact ih3 _ _ _ _ _ _
      | exact ih4 _ _ _ _ _ _
      | exact ih5 _ _ _ _
      | exact ih6 _ _ _
      | exact ih7 _ _ _
      | exact ih8 _ _ _
      | exact ih9 _ _ _
      | exact ih10 _ _ _
      | exact ih11 _ _ _
      | exact LeO.none _
      | refine LeO.ite ?_ ?_
      | refine LeO.bind ?_ (fun _ => ?_)
theorem leatref01_Mul.mono : ∀ a0 a1 k, LeO (leatref01_Mul.f k a0 a1) (leatref01_Mul.f (k + 1) a0 a1) := by
  intro a0 a1 k
  obtain ⟨ih0, ih1, ih2, ih3, ih4, ih5, ih6, ih7, ih8, ih9, ih10, ih11⟩ := leatref01_Mul.mono_l k
  unfold leatref01_Mul.f
  repeat' first
      | (with_reducible exact ih0 _ _ _)
      | (with_reducible exact ih1 _ _ _)
      | (with_reducible exact ih2 _ _ _)
      | (with_reducible exact ih3 _ _ _ _ _ _)
      | (with_reducible exact ih4 _ _ _ _ _ _)
      | (with_reducible exact ih5 _ _ _ _)
      | (with_reducible exact ih6 _ _ _)
      | (with_reducible exact ih7 _ _ _)
      | (with_reducible exact ih8 _ _ _)
      | (with_reducible exact ih9 _ _ _)
      | (with_reducible exact ih10 _ _ _)
      | (with_reducible exact ih11 _ _ _)
      | (with_reducible exact LeO.refl _)
      | (with_reducible exact LeO.none _)
      | (with_reducible refine LeO.ite ?_ ?_)
      | (with_reducible refine LeO.bind ?_ (fun _ => ?_))
      | exact ih0 _ _ _
      | exact ih1 _ _ _
      | exact ih2 _ _ _
      | exact ih3 _ _ _ _ _ _
      | exact ih4 _ _ _ _ _ _
      | exact ih5 _ _ _ _
      | exact ih6 _ _ _
      | exact ih7 _ _ _
      | exact ih8 _ _ _
      | exact ih9 _ _ _
      | exact ih10 _ _ _
      | exact ih11 _ _ _
      | exact LeO.none _
      | refine LeO.ite ?_ ?_
      | refine LeO.bind ?_ (fun _ => ?_)
set_option maxHeartbeats 8000000 in
set_option maxRecDepth 100000 in
theorem leatref01_Mul.calls (k : Nat) (a0 : Int) (a1 : Int) (r : Int) (w : World) (h : leatref01_Mul.f k a0 a1 = some r) :
    Calls Try.prog 33 #[.int .i64 a0, .int .i64 a1] w fun e w' => e = .returned (.int .i64 r) ∧ Drawn0 w w' := by
  have H : (if a0 = 0 then (leatref01_Mul.j0 k a0 a1 true) else (leatref01_Mul.j0 k a0 a1 (a1 == 0))) = some r := h
  clear h
  have HC3 := Aside0.mk H
  clear H
  go_enter Try.func33, Try.ntmps33
  go_upto_region 1 with (fail)
  go_cut [17] (fun v17 wc => ∃ (kq : Nat) (x17_2 : Bool), v17 = .bool x17_2 ∧ Aside0 (leatref01_Mul.j0 kq a0 a1 x17_2 = some r) ∧ Aside0 (kq ≤ k) ∧ Drawn0 w wc)
  case first =>
    have H := HC3.out
    clear HC3
    by_cases c4 : a0 = 0
    · rw [if_pos c4] at H
      have c4b0 : (a0 == 0) = true := beq_iff_eq.mpr c4
      have c4b1 : (a0 != 0) = false := bne_eq_false_iff_eq.mpr c4
      clear c4
      (first | rw [c4b0] | (simp only [i64_w, i32_w]; rw [c4b0]) | skip)
      have H' := Aside0.mk H
      clear H
      go_wp2
      go_meet
      case rel => exact ⟨_, (true), (by first | rfl | (simp; done) | (simp [*]; done)), H', ⟨by first | omega | exact Nat.le_refl _⟩, by repeat (first | exact Drawn0.refl _ | apply Drawn0.step)⟩
    · rw [if_neg c4] at H
      have c4b0 : (a0 == 0) = false := beq_eq_false_iff_ne.mpr c4
      have c4b1 : (a0 != 0) = true := bne_iff_ne.mpr c4
      (first | rw [c4b0] | (simp only [i64_w, i32_w]; rw [c4b0]) | skip)
      have H' := Aside0.mk H
      clear H
      go_wp2
      go_meet
      case rel => exact ⟨_, ((a1 == 0)), (by first | rfl | (simp; done) | (simp [*]; done)), H', ⟨by first | omega | exact Nat.le_refl _⟩, by repeat (first | exact Drawn0.refl _ | apply Drawn0.step)⟩
  case rest =>
    clear HC3
    try clear p2
    try clear c3
    try clear c4
    try clear c4b0
    try clear c4b1
    obtain ⟨kq, x17_2, rfl, HA, HJ2, ⟨mc2, rfl⟩⟩ := hcut
    cases kq with
    | zero => exact absurd HA.out (by simp [leatref01_Mul.j0])
    | succ kj2 =>
      have H := HA.out
      clear HA
      simp only [leatref01_Mul.j0] at H
      by_cases c5 : x17_2 = true
      · subst c5
        have H1 : (some 0) = some r := by rw [if_pos rfl] at H; exact H
        clear H
        have H := H1
        clear H1
        obtain rfl := Option.some.inj H
        go_wp2
        go_ret
        exact ⟨by first | rfl | (simp; done) | (simp [*]; done), by repeat (first | exact Drawn0.refl _ | apply Drawn0.step)⟩
      · replace c5 := Bool.eq_false_iff.mpr c5
        subst c5
        have H1 : (if a0 < 0 then (if a1 < 0 then (if a0 > 0 then (leatref01_Mul.j1 kj2 false (wrap64 (-a0)) a1) else (leatref01_Mul.j1 kj2 false a0 a1)) else (if a0 > 0 then (leatref01_Mul.j6 kj2 true (wrap64 (-a0)) a1) else (leatref01_Mul.j6 kj2 true a0 a1))) else (if a1 < 0 then (if a0 > 0 then (leatref01_Mul.j8 kj2 true (wrap64 (-a0)) a1) else (leatref01_Mul.j8 kj2 true a0 a1)) else (if a0 > 0 then (leatref01_Mul.j10 kj2 false (wrap64 (-a0)) a1) else (leatref01_Mul.j10 kj2 false a0 a1)))) = some r := by rw [if_neg (show ¬ (false = true) by decide)] at H; exact H
        clear H
        have H := H1
        clear H1
        by_cases c6 : a0 < 0
        · rw [if_pos c6] at H
          have c6b0 : decide (a0 < 0) = true := decide_eq_true c6
          clear c6
          by_cases c7 : a1 < 0
          · rw [if_pos c7] at H
            have c7b0 : decide (a1 < 0) = true := decide_eq_true c7
            clear c7
            have HC8 := Aside0.mk H
            clear H
            go_upto_if 26 with (fail)
            go_cut [6] (fun v6 wc => ∃ (kq : Nat) (x6_7 : Int), v6 = .int .i64 x6_7 ∧ Aside0 (leatref01_Mul.j1 kq false x6_7 a1 = some r) ∧ Aside0 (kq ≤ kj2) ∧ Drawn0 w wc)
            case first =>
              have H := HC8.out
              clear HC8
              by_cases c9 : a0 > 0
              · rw [if_pos c9] at H
                have c9b0 : decide (0 < a0) = true := decide_eq_true c9
                clear c9
                (first | rw [c9b0] | (simp only [i64_w, i32_w]; rw [c9b0]) | skip)
                have H' := Aside0.mk H
                clear H
                go_wp2
                go_meet
                case rel => exact ⟨_, (wrap64 (-a0)), (by first | rfl | (simp; done) | (simp [*]; done)), H', ⟨by have := HJ2.out; first | omega | exact Nat.le_refl _⟩, by repeat (first | exact Drawn0.refl _ | apply Drawn0.step)⟩
              · rw [if_neg c9] at H
                have c9b0 : decide (0 < a0) = false := decide_eq_false c9
                clear c9
                (first | rw [c9b0] | (simp only [i64_w, i32_w]; rw [c9b0]) | skip)
                have H' := Aside0.mk H
                clear H
                go_wp2
                go_meet
                case rel => exact ⟨_, (a0), (by first | rfl | (simp; done) | (simp [*]; done)), H', ⟨by have := HJ2.out; first | omega | exact Nat.le_refl _⟩, by repeat (first | exact Drawn0.refl _ | apply Drawn0.step)⟩
            case rest =>
              clear HC8
              try clear c2
              try clear p2
              try clear c3
              try clear c4
              try clear c4b0
              try clear c4b1
              try clear c5
              try clear c6
              try clear c6b0
              try clear p6
              try clear c7
              try clear c7b0
              try clear c9
              try clear c9b0
              try clear p2
              obtain ⟨kq, x6_7, rfl, HA, HJ7, ⟨mc7, rfl⟩⟩ := hcut
              cases kq with
              | zero => exact absurd HA.out (by simp [leatref01_Mul.j1])
              | succ kj7 =>
                have H := HA.out
                clear HA
                simp only [leatref01_Mul.j1] at H
                have HC10 := Aside0.mk H
                clear H
                go_upto_if 30 with (fail)
                go_cut [7] (fun v7 wc => ∃ (kq : Nat) (x7_9 : Int), v7 = .int .i64 x7_9 ∧ Aside0 (leatref01_Mul.j2 kq false x6_7 x7_9 = some r) ∧ Aside0 (kq ≤ kj7) ∧ Drawn0 w wc)
                case first =>
                  have H := HC10.out
                  clear HC10
                  by_cases c11 : a1 > 0
                  · rw [if_pos c11] at H
                    have c11b0 : decide (0 < a1) = true := decide_eq_true c11
                    clear c11
                    (first | rw [c11b0] | (simp only [i64_w, i32_w]; rw [c11b0]) | skip)
                    have H' := Aside0.mk H
                    clear H
                    go_wp2
                    go_meet
                    case rel => exact ⟨_, (wrap64 (-a1)), (by first | rfl | (simp; done) | (simp [*]; done)), H', ⟨by have := HJ2.out; have := HJ7.out; first | omega | exact Nat.le_refl _⟩, by repeat (first | exact Drawn0.refl _ | apply Drawn0.step)⟩
                  · rw [if_neg c11] at H
                    have c11b0 : decide (0 < a1) = false := decide_eq_false c11
                    clear c11
                    (first | rw [c11b0] | (simp only [i64_w, i32_w]; rw [c11b0]) | skip)
                    have H' := Aside0.mk H
                    clear H
                    go_wp2
                    go_meet
                    case rel => exact ⟨_, (a1), (by first | rfl | (simp; done) | (simp [*]; done)), H', ⟨by have := HJ2.out; have := HJ7.out; first | omega | exact Nat.le_refl _⟩, by repeat (first | exact Drawn0.refl _ | apply Drawn0.step)⟩
                case rest =>
                  clear HC10
                  try clear c1
                  try clear c2
                  try clear p2
                  try clear c3
                  try clear c4
                  try clear c4b0
                  try clear c4b1
                  try clear c5
                  try clear c6
                  try clear c6b0
                  try clear p6
                  try clear c7
                  try clear c7b0
                  try clear c9
                  try clear c9b0
                  try clear c11
                  try clear c11b0
                  try clear p2
                  try clear p6
                  obtain ⟨kq, x7_9, rfl, HA, HJ9, ⟨mc9, rfl⟩⟩ := hcut
                  cases kq with
                  | zero => exact absurd HA.out (by simp [leatref01_Mul.j2])
                  | succ kj9 =>
                    have H := HA.out
                    clear HA
                    simp only [leatref01_Mul.j2] at H
                    have H' := Aside0.mk H
                    clear H
                    go_wp2
                    go_loopg [7, 8, 9, 10, 11] kj9 (fun kq v7 v8 v9 v10 v11 w' => ∃ (x7_4 : Int) (x8_4 : Int) (x9_4 : Int) (x10_4 : Bool) (x11_4 : Bool), v7 = .int .i64 x7_4 ∧ v8 = .int .i64 x8_4 ∧ v9 = .int .i64 x9_4 ∧ v10 = .bool x10_4 ∧ v11 = .bool x11_4 ∧ Aside0 (leatref01_Mul.l0 kq false x7_4 x8_4 x9_4 x10_4 x11_4 = some r) ∧ Aside0 (kq ≤ kj9) ∧ Drawn0 w w')
                    case atStart => exact ⟨(x7_9), (0), (x6_7), (false), (false), (by first | rfl | (simp; done) | (simp [*]; done)), (by first | rfl | (simp; done) | (simp [*]; done)), (by first | rfl | (simp; done) | (simp [*]; done)), (by first | rfl | (simp; done) | (simp [*]; done)), (by first | rfl | (simp; done) | (simp [*]; done)), H', ⟨Nat.le_refl _⟩, by repeat (first | exact Drawn0.refl _ | apply Drawn0.step)⟩
                    case round =>
                      clear H'
                      try clear c1
                      try clear c2
                      try clear p2
                      try clear c3
                      try clear c4
                      try clear c4b0
                      try clear c4b1
                      try clear c5
                      try clear c6
                      try clear c6b0
                      try clear p6
                      try clear c7
                      try clear c7b0
                      try clear c9
                      try clear c9b0
                      try clear c11
                      try clear c11b0
                      try clear p2
                      try clear p6
                      obtain ⟨x7_4, x8_4, x9_4, x10_4, x11_4, rfl, rfl, rfl, rfl, rfl, HA, HK4, ⟨m4, rfl⟩⟩ := hrel
                      cases gk with
                      | zero => exact absurd HA.out (by simp [leatref01_Mul.l0])
                      | succ k4 =>
                        have H := HA.out
                        clear HA
                        simp only [leatref01_Mul.l0] at H
                        by_cases c12 : x7_4 < 0
                        · rw [if_pos c12] at H
                          have c12b0 : decide (x7_4 < 0) = true := decide_eq_true c12
                          clear c12
                          by_cases c13 : (Int.tmod x7_4 2) = 0
                          · rw [if_pos c13] at H
                            have c13b0 : ((Int.tmod x7_4 2) == 0) = true := beq_iff_eq.mpr c13
                            have c13b1 : ((Int.tmod x7_4 2) != 0) = false := bne_eq_false_iff_eq.mpr c13
                            clear c13
                            by_cases c14 : x11_4 = true
                            · subst c14
                              have H1 : (leatref01_Mul.l0 k4 false (wrap64 (Int.tdiv x7_4 2)) x8_4 x9_4 x10_4 true) = some r := by rw [if_pos rfl] at H; exact H
                              clear H
                              have H := H1
                              clear H1
                              have H' := Aside0.mk H
                              clear H
                              go_wp2
                              go_roundg k4
                              case measure => have := HJ2.out; have := HJ7.out; have := HJ9.out; have := HK4.out; omega
                              case rel => exact ⟨(wrap64 (Int.tdiv x7_4 2)), (x8_4), (x9_4), (x10_4), (true), (by first | rfl | (simp; done) | (simp [*]; done)), (by first | rfl | (simp; done) | (simp [*]; done)), (by first | rfl | (simp; done) | (simp [*]; done)), (by first | rfl | (simp; done) | (simp [*]; done)), (by first | rfl | (simp; done) | (simp [*]; done)), H', ⟨by have := HJ2.out; have := HJ7.out; have := HJ9.out; have := HK4.out; omega⟩, by repeat (first | exact Drawn0.refl _ | apply Drawn0.step)⟩
                            · replace c14 := Bool.eq_false_iff.mpr c14
                              subst c14
                              have H1 : (if (x9_4 < (-4611686018427387904)) then (leatref01_Mul.l0 k4 false (wrap64 (Int.tdiv x7_4 2)) x8_4 x9_4 x10_4 (decide (x9_4 < (-4611686018427387904)))) else (leatref01_Mul.l0 k4 false (wrap64 (Int.tdiv x7_4 2)) x8_4 (wrap64 (x9_4 * 2)) x10_4 (decide (x9_4 < (-4611686018427387904))))) = some r := by rw [if_neg (show ¬ (false = true) by decide)] at H; exact H
                              clear H
                              have H := H1
                              clear H1
                              by_cases c15 : (x9_4 < (-4611686018427387904))
                              · rw [if_pos c15] at H
                                have c15b0 : decide (x9_4 < (-4611686018427387904)) = true := decide_eq_true c15
                                clear c15
                                have H' := Aside0.mk H
                                clear H
                                go_wp2
                                go_roundg k4
                                case measure => have := HJ2.out; have := HJ7.out; have := HJ9.out; have := HK4.out; omega
                                case rel => exact ⟨(wrap64 (Int.tdiv x7_4 2)), (x8_4), (x9_4), (x10_4), (decide (x9_4 < (-4611686018427387904))), (by first | rfl | (simp; done) | (simp [*]; done)), (by first | rfl | (simp; done) | (simp [*]; done)), (by first | rfl | (simp; done) | (simp [*]; done)), (by first | rfl | (simp; done) | (simp [*]; done)), (by first | rfl | (simp; done) | (simp [*]; done)), H', ⟨by have := HJ2.out; have := HJ7.out; have := HJ9.out; have := HK4.out; omega⟩, by repeat (first | exact Drawn0.refl _ | apply Drawn0.step)⟩
                              · rw [if_neg c15] at H
                                have c15b0 : decide (x9_4 < (-4611686018427387904)) = false := decide_eq_false c15
                                clear c15
                                have H' := Aside0.mk H
                                clear H
                                go_wp2
                                go_roundg k4
                                case measure => have := HJ2.out; have := HJ7.out; have := HJ9.out; have := HK4.out; omega
                                case rel => exact ⟨(wrap64 (Int.tdiv x7_4 2)), (x8_4), (wrap64 (x9_4 * 2)), (x10_4), (decide (x9_4 < (-4611686018427387904))), (by first | rfl | (simp; done) | (simp [*]; done)), (by first | rfl | (simp; done) | (simp [*]; done)), (by first | rfl | (simp; done) | (simp [*]; done)), (by first | rfl | (simp; done) | (simp [*]; done)), (by first | rfl | (simp; done) | (simp [*]; done)), H', ⟨by have := HJ2.out; have := HJ7.out; have := HJ9.out; have := HK4.out; omega⟩, by repeat (first | exact Drawn0.refl _ | apply Drawn0.step)⟩
                          · rw [if_neg c13] at H
                            have c13b0 : ((Int.tmod x7_4 2) == 0) = false := beq_eq_false_iff_ne.mpr c13
                            have c13b1 : ((Int.tmod x7_4 2) != 0) = true := bne_iff_ne.mpr c13
                            have HC16 := Aside0.mk H
                            clear H
                            go_upto_region 13 with (fail)
                            go_cut [10] (fun v10 wc => ∃ (kq : Nat) (x10_15 : Bool), v10 = .bool x10_15 ∧ Aside0 (leatref01_Mul.j4 kq false x7_4 x8_4 x9_4 x10_15 x11_4 = some r) ∧ Aside0 (kq ≤ k4) ∧ Drawn0 w wc)
                            case first =>
                              have H := HC16.out
                              clear HC16
                              by_cases c17 : x10_4 = true
                              · subst c17
                                have H1 : (leatref01_Mul.j4 k4 false x7_4 x8_4 x9_4 true x11_4) = some r := by rw [if_pos rfl] at H; exact H
                                clear H
                                have H := H1
                                clear H1
                                have H' := Aside0.mk H
                                clear H
                                go_wp2
                                go_meet
                                case rel => exact ⟨_, (true), (by first | rfl | (simp; done) | (simp [*]; done)), H', ⟨by have := HJ2.out; have := HJ7.out; have := HJ9.out; have := HK4.out; first | omega | exact Nat.le_refl _⟩, by repeat (first | exact Drawn0.refl _ | apply Drawn0.step)⟩
                              · replace c17 := Bool.eq_false_iff.mpr c17
                                subst c17
                                have H1 : (if x11_4 = true then (leatref01_Mul.j4 k4 false x7_4 x8_4 x9_4 true x11_4) else (leatref01_Mul.j4 k4 false x7_4 x8_4 x9_4 (decide (x8_4 < (wrap64 ((-9223372036854775808) - x9_4)))) x11_4)) = some r := by rw [if_neg (show ¬ (false = true) by decide)] at H; exact H
                                clear H
                                have H := H1
                                clear H1
                                by_cases c18 : x11_4 = true
                                · subst c18
                                  have H1 : (leatref01_Mul.j4 k4 false x7_4 x8_4 x9_4 true true) = some r := by rw [if_pos rfl] at H; exact H
                                  clear H
                                  have H := H1
                                  clear H1
                                  have H' := Aside0.mk H
                                  clear H
                                  go_wp2
                                  go_meet
                                  case rel => exact ⟨_, (true), (by first | rfl | (simp; done) | (simp [*]; done)), H', ⟨by have := HJ2.out; have := HJ7.out; have := HJ9.out; have := HK4.out; first | omega | exact Nat.le_refl _⟩, by repeat (first | exact Drawn0.refl _ | apply Drawn0.step)⟩
                                · replace c18 := Bool.eq_false_iff.mpr c18
                                  subst c18
                                  have H1 : (leatref01_Mul.j4 k4 false x7_4 x8_4 x9_4 (decide (x8_4 < (wrap64 ((-9223372036854775808) - x9_4)))) false) = some r := by rw [if_neg (show ¬ (false = true) by decide)] at H; exact H
                                  clear H
                                  have H := H1
                                  clear H1
                                  have H' := Aside0.mk H
                                  clear H
                                  go_wp2
                                  go_meet
                                  case rel => exact ⟨_, (decide (x8_4 < (wrap64 ((-9223372036854775808) - x9_4)))), (by first | rfl | (simp; done) | (simp [*]; done)), H', ⟨by have := HJ2.out; have := HJ7.out; have := HJ9.out; have := HK4.out; first | omega | exact Nat.le_refl _⟩, by repeat (first | exact Drawn0.refl _ | apply Drawn0.step)⟩
                            case rest =>
                              clear HC16
                              try clear c1
                              try clear c2
                              try clear p2
                              try clear c3
                              try clear c4
                              try clear c4b0
                              try clear c4b1
                              try clear c5
                              try clear c6
                              try clear c6b0
                              try clear p6
                              try clear c7
                              try clear c7b0
                              try clear c9
                              try clear c9b0
                              try clear c11
                              try clear c11b0
                              try clear c12
                              try clear c12b0
                              try clear c13
                              try clear c13b0
                              try clear c13b1
                              try clear c14
                              try clear c15
                              try clear c15b0
                              try clear c17
                              try clear c18
                              try clear p2
                              try clear p6
                              obtain ⟨kq, x10_15, rfl, HA, HJ15, ⟨mc15, rfl⟩⟩ := hcut
                              cases kq with
                              | zero => exact absurd HA.out (by simp [leatref01_Mul.j4])
                              | succ kj15 =>
                                have H := HA.out
                                clear HA
                                simp only [leatref01_Mul.j4] at H
                                by_cases c19 : x10_15 = true
                                · subst c19
                                  have H1 : (if x11_4 = true then (leatref01_Mul.l0 kj15 false (wrap64 (Int.tdiv x7_4 2)) x8_4 x9_4 true true) else (if (x9_4 < (-4611686018427387904)) then (leatref01_Mul.l0 kj15 false (wrap64 (Int.tdiv x7_4 2)) x8_4 x9_4 true (decide (x9_4 < (-4611686018427387904)))) else (leatref01_Mul.l0 kj15 false (wrap64 (Int.tdiv x7_4 2)) x8_4 (wrap64 (x9_4 * 2)) true (decide (x9_4 < (-4611686018427387904)))))) = some r := by rw [if_pos rfl] at H; exact H
                                  clear H
                                  have H := H1
                                  clear H1
                                  by_cases c20 : x11_4 = true
                                  · subst c20
                                    have H1 : (leatref01_Mul.l0 kj15 false (wrap64 (Int.tdiv x7_4 2)) x8_4 x9_4 true true) = some r := by rw [if_pos rfl] at H; exact H
                                    clear H
                                    have H := H1
                                    clear H1
                                    have H' := Aside0.mk H
                                    clear H
                                    go_wp2
                                    go_roundg kj15
                                    case measure => have := HJ2.out; have := HJ7.out; have := HJ9.out; have := HK4.out; have := HJ15.out; omega
                                    case rel => exact ⟨(wrap64 (Int.tdiv x7_4 2)), (x8_4), (x9_4), (true), (true), (by first | rfl | (simp; done) | (simp [*]; done)), (by first | rfl | (simp; done) | (simp [*]; done)), (by first | rfl | (simp; done) | (simp [*]; done)), (by first | rfl | (simp; done) | (simp [*]; done)), (by first | rfl | (simp; done) | (simp [*]; done)), H', ⟨by have := HJ2.out; have := HJ7.out; have := HJ9.out; have := HK4.out; have := HJ15.out; omega⟩, by repeat (first | exact Drawn0.refl _ | apply Drawn0.step)⟩
                                  · replace c20 := Bool.eq_false_iff.mpr c20
                                    subst c20
                                    have H1 : (if (x9_4 < (-4611686018427387904)) then (leatref01_Mul.l0 kj15 false (wrap64 (Int.tdiv x7_4 2)) x8_4 x9_4 true (decide (x9_4 < (-4611686018427387904)))) else (leatref01_Mul.l0 kj15 false (wrap64 (Int.tdiv x7_4 2)) x8_4 (wrap64 (x9_4 * 2)) true (decide (x9_4 < (-4611686018427387904))))) = some r := by rw [if_neg (show ¬ (false = true) by decide)] at H; exact H
                                    clear H
                                    have H := H1
                                    clear H1
                                    by_cases c21 : (x9_4 < (-4611686018427387904))
                                    · rw [if_pos c21] at H
                                      have c21b0 : decide (x9_4 < (-4611686018427387904)) = true := decide_eq_true c21
                                      clear c21
                                      have H' := Aside0.mk H
                                      clear H
                                      go_wp2
                                      go_roundg kj15
                                      case measure => have := HJ2.out; have := HJ7.out; have := HJ9.out; have := HK4.out; have := HJ15.out; omega
                                      case rel => exact ⟨(wrap64 (Int.tdiv x7_4 2)), (x8_4), (x9_4), (true), (decide (x9_4 < (-4611686018427387904))), (by first | rfl | (simp; done) | (simp [*]; done)), (by first | rfl | (simp; done) | (simp [*]; done)), (by first | rfl | (simp; done) | (simp [*]; done)), (by first | rfl | (simp; done) | (simp [*]; done)), (by first | rfl | (simp; done) | (simp [*]; done)), H', ⟨by have := HJ2.out; have := HJ7.out; have := HJ9.out; have := HK4.out; have := HJ15.out; omega⟩, by repeat (first | exact Drawn0.refl _ | apply Drawn0.step)⟩
                                    · rw [if_neg c21] at H
                                      have c21b0 : decide (x9_4 < (-4611686018427387904)) = false := decide_eq_false c21
                                      clear c21
                                      have H' := Aside0.mk H
                                      clear H
                                      go_wp2
                                      go_roundg kj15
                                      case measure => have := HJ2.out; have := HJ7.out; have := HJ9.out; have := HK4.out; have := HJ15.out; omega
                                      case rel => exact ⟨(wrap64 (Int.tdiv x7_4 2)), (x8_4), (wrap64 (x9_4 * 2)), (true), (decide (x9_4 < (-4611686018427387904))), (by first | rfl | (simp; done) | (simp [*]; done)), (by first | rfl | (simp; done) | (simp [*]; done)), (by first | rfl | (simp; done) | (simp [*]; done)), (by first | rfl | (simp; done) | (simp [*]; done)), (by first | rfl | (simp; done) | (simp [*]; done)), H', ⟨by have := HJ2.out; have := HJ7.out; have := HJ9.out; have := HK4.out; have := HJ15.out; omega⟩, by repeat (first | exact Drawn0.refl _ | apply Drawn0.step)⟩
                                · replace c19 := Bool.eq_false_iff.mpr c19
                                  subst c19
                                  have H1 : (if x11_4 = true then (leatref01_Mul.l0 kj15 false (wrap64 (Int.tdiv x7_4 2)) (wrap64 (x8_4 + x9_4)) x9_4 false true) else (if (x9_4 < (-4611686018427387904)) then (leatref01_Mul.l0 kj15 false (wrap64 (Int.tdiv x7_4 2)) (wrap64 (x8_4 + x9_4)) x9_4 false (decide (x9_4 < (-4611686018427387904)))) else (leatref01_Mul.l0 kj15 false (wrap64 (Int.tdiv x7_4 2)) (wrap64 (x8_4 + x9_4)) (wrap64 (x9_4 * 2)) false (decide (x9_4 < (-4611686018427387904)))))) = some r := by rw [if_neg (show ¬ (false = true) by decide)] at H; exact H
                                  clear H
                                  have H := H1
                                  clear H1
                                  by_cases c22 : x11_4 = true
                                  · subst c22
                                    have H1 : (leatref01_Mul.l0 kj15 false (wrap64 (Int.tdiv x7_4 2)) (wrap64 (x8_4 + x9_4)) x9_4 false true) = some r := by rw [if_pos rfl] at H; exact H
                                    clear H
                                    have H := H1
                                    clear H1
                                    have H' := Aside0.mk H
                                    clear H
                                    go_wp2
                                    go_roundg kj15
                                    case measure => have := HJ2.out; have := HJ7.out; have := HJ9.out; have := HK4.out; have := HJ15.out; omega
                                    case rel => exact ⟨(wrap64 (Int.tdiv x7_4 2)), (wrap64 (x8_4 + x9_4)), (x9_4), (false), (true), (by first | rfl | (simp; done) | (simp [*]; done)), (by first | rfl | (simp; done) | (simp [*]; done)), (by first | rfl | (simp; done) | (simp [*]; done)), (by first | rfl | (simp; done) | (simp [*]; done)), (by first | rfl | (simp; done) | (simp [*]; done)), H', ⟨by have := HJ2.out; have := HJ7.out; have := HJ9.out; have := HK4.out; have := HJ15.out; omega⟩, by repeat (first | exact Drawn0.refl _ | apply Drawn0.step)⟩
                                  · replace c22 := Bool.eq_false_iff.mpr c22
                                    subst c22
                                    have H1 : (if (x9_4 < (-4611686018427387904)) then (leatref01_Mul.l0 kj15 false (wrap64 (Int.tdiv x7_4 2)) (wrap64 (x8_4 + x9_4)) x9_4 false (decide (x9_4 < (-4611686018427387904)))) else (leatref01_Mul.l0 kj15 false (wrap64 (Int.tdiv x7_4 2)) (wrap64 (x8_4 + x9_4)) (wrap64 (x9_4 * 2)) false (decide (x9_4 < (-4611686018427387904))))) = some r := by rw [if_neg (show ¬ (false = true) by decide)] at H; exact H
                                    clear H
                                    have H := H1
                                    clear H1
                                    by_cases c23 : (x9_4 < (-4611686018427387904))
                                    · rw [if_pos c23] at H
                                      have c23b0 : decide (x9_4 < (-4611686018427387904)) = true := decide_eq_true c23
                                      clear c23
                                      have H' := Aside0.mk H
                                      clear H
                                      go_wp2
                                      go_roundg kj15
                                      case measure => have := HJ2.out; have := HJ7.out; have := HJ9.out; have := HK4.out; have := HJ15.out; omega
                                      case rel => exact ⟨(wrap64 (Int.tdiv x7_4 2)), (wrap64 (x8_4 + x9_4)), (x9_4), (false), (decide (x9_4 < (-4611686018427387904))), (by first | rfl | (simp; done) | (simp [*]; done)), (by first | rfl | (simp; done) | (simp [*]; done)), (by first | rfl | (simp; done) | (simp [*]; done)), (by first | rfl | (simp; done) | (simp [*]; done)), (by first | rfl | (simp; done) | (simp [*]; done)), H', ⟨by have := HJ2.out; have := HJ7.out; have := HJ9.out; have := HK4.out; have := HJ15.out; omega⟩, by repeat (first | exact Drawn0.refl _ | apply Drawn0.step)⟩
                                    · rw [if_neg c23] at H
                                      have c23b0 : decide (x9_4 < (-4611686018427387904)) = false := decide_eq_false c23
                                      clear c23
                                      have H' := Aside0.mk H
                                      clear H
                                      go_wp2
                                      go_roundg kj15
                                      case measure => have := HJ2.out; have := HJ7.out; have := HJ9.out; have := HK4.out; have := HJ15.out; omega
                                      case rel => exact ⟨(wrap64 (Int.tdiv x7_4 2)), (wrap64 (x8_4 + x9_4)), (wrap64 (x9_4 * 2)), (false), (decide (x9_4 < (-4611686018427387904))), (by first | rfl | (simp; done) | (simp [*]; done)), (by first | rfl | (simp; done) | (simp [*]; done)), (by first | rfl | (simp; done) | (simp [*]; done)), (by first | rfl | (simp; done) | (simp [*]; done)), (by first | rfl | (simp; done) | (simp [*]; done)), H', ⟨by have := HJ2.out; have := HJ7.out; have := HJ9.out; have := HK4.out; have := HJ15.out; omega⟩, by repeat (first | exact Drawn0.refl _ | apply Drawn0.step)⟩
                        · rw [if_neg c12] at H
                          have c12b0 : decide (x7_4 < 0) = false := decide_eq_false c12
                          clear c12
                          have HC24 := Aside0.mk H
                          clear H
                          go_upto_region 20 with (fail)
                          go_cut [68] (fun v68 wc => ∃ (kq : Nat) (x68_23 : Bool), v68 = .bool x68_23 ∧ Aside0 (leatref01_Mul.j5 kq false x8_4 x10_4 x68_23 = some r) ∧ Aside0 (kq ≤ k4) ∧ Drawn0 w wc)
                          case first =>
                            have H := HC24.out
                            clear HC24
                            by_cases c25 : x10_4 = true
                            · subst c25
                              have H1 : (leatref01_Mul.j5 k4 false x8_4 true false) = some r := by rw [if_pos rfl] at H; exact H
                              clear H
                              have H := H1
                              clear H1
                              have H' := Aside0.mk H
                              clear H
                              go_wp2
                              go_meet
                              case rel => exact ⟨_, (false), (by first | rfl | (simp; done) | (simp [*]; done)), H', ⟨by have := HJ2.out; have := HJ7.out; have := HJ9.out; have := HK4.out; first | omega | exact Nat.le_refl _⟩, by repeat (first | exact Drawn0.refl _ | apply Drawn0.step)⟩
                            · replace c25 := Bool.eq_false_iff.mpr c25
                              subst c25
                              have H1 : (leatref01_Mul.j5 k4 false x8_4 false false) = some r := by rw [if_neg (show ¬ (false = true) by decide)] at H; exact H
                              clear H
                              have H := H1
                              clear H1
                              have H' := Aside0.mk H
                              clear H
                              go_wp2
                              go_meet
                              case rel => exact ⟨_, (false), (by first | rfl | (simp; done) | (simp [*]; done)), H', ⟨by have := HJ2.out; have := HJ7.out; have := HJ9.out; have := HK4.out; first | omega | exact Nat.le_refl _⟩, by repeat (first | exact Drawn0.refl _ | apply Drawn0.step)⟩
                          case rest =>
                            clear HC24
                            try clear c1
                            try clear c2
                            try clear p2
                            try clear c3
                            try clear c4
                            try clear c4b0
                            try clear c4b1
                            try clear c5
                            try clear c6
                            try clear c6b0
                            try clear p6
                            try clear c7
                            try clear c7b0
                            try clear c9
                            try clear c9b0
                            try clear c11
                            try clear c11b0
                            try clear c12
                            try clear c12b0
                            try clear c13
                            try clear c13b0
                            try clear c13b1
                            try clear c14
                            try clear c15
                            try clear c15b0
                            try clear c17
                            try clear c18
                            try clear c19
                            try clear c20
                            try clear c21
                            try clear c21b0
                            try clear c22
                            try clear c23
                            try clear c23b0
                            try clear c25
                            try clear p2
                            try clear p6
                            obtain ⟨kq, x68_23, rfl, HA, HJ23, ⟨mc23, rfl⟩⟩ := hcut
                            cases kq with
                            | zero => exact absurd HA.out (by simp [leatref01_Mul.j5])
                            | succ kj23 =>
                              have H := HA.out
                              clear HA
                              simp only [leatref01_Mul.j5] at H
                              by_cases c26 : x68_23 = true
                              · subst c26
                                have H1 : (some (-9223372036854775808)) = some r := by rw [if_pos rfl] at H; exact H
                                clear H
                                have H := H1
                                clear H1
                                obtain rfl := Option.some.inj H
                                go_wp2
                                go_ret
                                exact ⟨by first | rfl | (simp; done) | (simp [*]; done), by repeat (first | exact Drawn0.refl _ | apply Drawn0.step)⟩
                              · replace c26 := Bool.eq_false_iff.mpr c26
                                subst c26
                                have H1 : (if x10_4 = true then (some 9223372036854775807) else (if false = true then (some x8_4) else ((leatref01_Neg.f x8_4).bind fun t117 => (some t117)))) = some r := by rw [if_neg (show ¬ (false = true) by decide)] at H; exact H
                                clear H
                                have H := H1
                                clear H1
                                by_cases c27 : x10_4 = true
                                · subst c27
                                  have H1 : (some 9223372036854775807) = some r := by rw [if_pos rfl] at H; exact H
                                  clear H
                                  have H := H1
                                  clear H1
                                  obtain rfl := Option.some.inj H
                                  go_wp2
                                  go_ret
                                  exact ⟨by first | rfl | (simp; done) | (simp [*]; done), by repeat (first | exact Drawn0.refl _ | apply Drawn0.step)⟩
                                · replace c27 := Bool.eq_false_iff.mpr c27
                                  subst c27
                                  have H1 : (if false = true then (some x8_4) else ((leatref01_Neg.f x8_4).bind fun t117 => (some t117))) = some r := by rw [if_neg (show ¬ (false = true) by decide)] at H; exact H
                                  clear H
                                  have H := H1
                                  clear H1
                                  have H1 : ((leatref01_Neg.f x8_4).bind fun t117 => (some t117)) = some r := by rw [if_neg (show ¬ (false = true) by decide)] at H; exact H
                                  clear H
                                  have H := H1
                                  clear H1
                                  replace H := Option.bind_eq_some_iff.mp H
                                  obtain ⟨t117, A280, H⟩ := H
                                  replace H : (some t117) = some r := H
                                  have A28 := Aside0.mk A280
                                  clear A280
                                  obtain rfl := Option.some.inj H
                                  go_wp2_with (first | ((with_reducible refine gate_callee (f := 29) rfl ?_); refine goesL_ (some 73) rfl rfl Try.func29 (by kernel_rfl) rfl #[.int .i64 x8_4] rfl (by (try simp only [List.map_toArray, List.map_cons, List.map_nil]); first | done | rfl | (simp only [List.length_drop, List.length_take]; rfl)) ?_; (with_reducible refine (leatref01_Neg.calls x8_4 t117 _ A28.out).mono ?_); rintro e w' ⟨rfl, ⟨nd, rfl⟩⟩; refine ⟨_, rfl, ?_⟩))
                                  go_ret
                                  exact ⟨by first | rfl | (simp; done) | (simp [*]; done), by repeat (first | exact Drawn0.refl _ | apply Drawn0.step)⟩
          · rw [if_neg c7] at H
            have c7b0 : decide (a1 < 0) = false := decide_eq_false c7
            clear c7
            have HC29 := Aside0.mk H
            clear H
            go_upto_if 26 with (fail)
            go_cut [6] (fun v6 wc => ∃ (kq : Nat) (x6_28 : Int), v6 = .int .i64 x6_28 ∧ Aside0 (leatref01_Mul.j6 kq true x6_28 a1 = some r) ∧ Aside0 (kq ≤ kj2) ∧ Drawn0 w wc)
            case first =>
              have H := HC29.out
              clear HC29
              by_cases c30 : a0 > 0
              · rw [if_pos c30] at H
                have c30b0 : decide (0 < a0) = true := decide_eq_true c30
                clear c30
                (first | rw [c30b0] | (simp only [i64_w, i32_w]; rw [c30b0]) | skip)
                have H' := Aside0.mk H
                clear H
                go_wp2
                go_meet
                case rel => exact ⟨_, (wrap64 (-a0)), (by first | rfl | (simp; done) | (simp [*]; done)), H', ⟨by have := HJ2.out; first | omega | exact Nat.le_refl _⟩, by repeat (first | exact Drawn0.refl _ | apply Drawn0.step)⟩
              · rw [if_neg c30] at H
                have c30b0 : decide (0 < a0) = false := decide_eq_false c30
                clear c30
                (first | rw [c30b0] | (simp only [i64_w, i32_w]; rw [c30b0]) | skip)
                have H' := Aside0.mk H
                clear H
                go_wp2
                go_meet
                case rel => exact ⟨_, (a0), (by first | rfl | (simp; done) | (simp [*]; done)), H', ⟨by have := HJ2.out; first | omega | exact Nat.le_refl _⟩, by repeat (first | exact Drawn0.refl _ | apply Drawn0.step)⟩
            case rest =>
              clear HC29
              try clear c1
              try clear c2
              try clear p2
              try clear c3
              try clear c4
              try clear c4b0
              try clear c4b1
              try clear c5
              try clear c6
              try clear c6b0
              try clear p6
              try clear c7
              try clear c7b0
              try clear c9
              try clear c9b0
              try clear c11
              try clear c11b0
              try clear c12
              try clear c12b0
              try clear c13
              try clear c13b0
              try clear c13b1
              try clear c14
              try clear c15
              try clear c15b0
              try clear c17
              try clear c18
              try clear c19
              try clear c20
              try clear c21
              try clear c21b0
              try clear c22
              try clear c23
              try clear c23b0
              try clear c25
              try clear c26
              try clear c27
              try clear c29
              try clear c30
              try clear c30b0
              try clear p2
              try clear p6
              obtain ⟨kq, x6_28, rfl, HA, HJ28, ⟨mc28, rfl⟩⟩ := hcut
              cases kq with
              | zero => exact absurd HA.out (by simp [leatref01_Mul.j6])
              | succ kj28 =>
                have H := HA.out
                clear HA
                simp only [leatref01_Mul.j6] at H
                have HC31 := Aside0.mk H
                clear H
                go_upto_if 30 with (fail)
                go_cut [7] (fun v7 wc => ∃ (kq : Nat) (x7_30 : Int), v7 = .int .i64 x7_30 ∧ Aside0 (leatref01_Mul.j7 kq true x6_28 x7_30 = some r) ∧ Aside0 (kq ≤ kj28) ∧ Drawn0 w wc)
                case first =>
                  have H := HC31.out
                  clear HC31
                  by_cases c32 : a1 > 0
                  · rw [if_pos c32] at H
                    have c32b0 : decide (0 < a1) = true := decide_eq_true c32
                    clear c32
                    (first | rw [c32b0] | (simp only [i64_w, i32_w]; rw [c32b0]) | skip)
                    have H' := Aside0.mk H
                    clear H
                    go_wp2
                    go_meet
                    case rel => exact ⟨_, (wrap64 (-a1)), (by first | rfl | (simp; done) | (simp [*]; done)), H', ⟨by have := HJ2.out; have := HJ28.out; first | omega | exact Nat.le_refl _⟩, by repeat (first | exact Drawn0.refl _ | apply Drawn0.step)⟩
                  · rw [if_neg c32] at H
                    have c32b0 : decide (0 < a1) = false := decide_eq_false c32
                    clear c32
                    (first | rw [c32b0] | (simp only [i64_w, i32_w]; rw [c32b0]) | skip)
                    have H' := Aside0.mk H
                    clear H
                    go_wp2
                    go_meet
                    case rel => exact ⟨_, (a1), (by first | rfl | (simp; done) | (simp [*]; done)), H', ⟨by have := HJ2.out; have := HJ28.out; first | omega | exact Nat.le_refl _⟩, by repeat (first | exact Drawn0.refl _ | apply Drawn0.step)⟩
                case rest =>
                  clear HC31
                  try clear c1
                  try clear c2
                  try clear p2
                  try clear c3
                  try clear c4
                  try clear c4b0
                  try clear c4b1
                  try clear c5
                  try clear c6
                  try clear c6b0
                  try clear p6
                  try clear c7
                  try clear c7b0
                  try clear c9
                  try clear c9b0
                  try clear c11
                  try clear c11b0
                  try clear c12
                  try clear c12b0
                  try clear c13
                  try clear c13b0
                  try clear c13b1
                  try clear c14
                  try clear c15
                  try clear c15b0
                  try clear c17
                  try clear c18
                  try clear c19
                  try clear c20
                  try clear c21
                  try clear c21b0
                  try clear c22
                  try clear c23
                  try clear c23b0
                  try clear c25
                  try clear c26
                  try clear c27
                  try clear c28
                  try clear c29
                  try clear c30
                  try clear c30b0
                  try clear c32
                  try clear c32b0
                  try clear p2
                  try clear p6
                  obtain ⟨kq, x7_30, rfl, HA, HJ30, ⟨mc30, rfl⟩⟩ := hcut
                  cases kq with
                  | zero => exact absurd HA.out (by simp [leatref01_Mul.j7])
                  | succ kj30 =>
                    have H := HA.out
                    clear HA
                    simp only [leatref01_Mul.j7] at H
                    have H' := Aside0.mk H
                    clear H
                    go_wp2
                    go_loopg [7, 8, 9, 10, 11] kj30 (fun kq v7 v8 v9 v10 v11 w' => ∃ (x7_4 : Int) (x8_4 : Int) (x9_4 : Int) (x10_4 : Bool) (x11_4 : Bool), v7 = .int .i64 x7_4 ∧ v8 = .int .i64 x8_4 ∧ v9 = .int .i64 x9_4 ∧ v10 = .bool x10_4 ∧ v11 = .bool x11_4 ∧ Aside0 (leatref01_Mul.l0 kq true x7_4 x8_4 x9_4 x10_4 x11_4 = some r) ∧ Aside0 (kq ≤ kj30) ∧ Drawn0 w w')
                    case atStart => exact ⟨(x7_30), (0), (x6_28), (false), (false), (by first | rfl | (simp; done) | (simp [*]; done)), (by first | rfl | (simp; done) | (simp [*]; done)), (by first | rfl | (simp; done) | (simp [*]; done)), (by first | rfl | (simp; done) | (simp [*]; done)), (by first | rfl | (simp; done) | (simp [*]; done)), H', ⟨Nat.le_refl _⟩, by repeat (first | exact Drawn0.refl _ | apply Drawn0.step)⟩
                    case round =>
                      clear H'
                      try clear c1
                      try clear c2
                      try clear p2
                      try clear c3
                      try clear c4
                      try clear c4b0
                      try clear c4b1
                      try clear c5
                      try clear c6
                      try clear c6b0
                      try clear p6
                      try clear c7
                      try clear c7b0
                      try clear c9
                      try clear c9b0
                      try clear c11
                      try clear c11b0
                      try clear c12
                      try clear c12b0
                      try clear c13
                      try clear c13b0
                      try clear c13b1
                      try clear c14
                      try clear c15
                      try clear c15b0
                      try clear c17
                      try clear c18
                      try clear c19
                      try clear c20
                      try clear c21
                      try clear c21b0
                      try clear c22
                      try clear c23
                      try clear c23b0
                      try clear c25
                      try clear c26
                      try clear c27
                      try clear c28
                      try clear c29
                      try clear c30
                      try clear c30b0
                      try clear c32
                      try clear c32b0
                      try clear p2
                      try clear p6
                      obtain ⟨x7_4, x8_4, x9_4, x10_4, x11_4, rfl, rfl, rfl, rfl, rfl, HA, HK4, ⟨m4, rfl⟩⟩ := hrel
                      cases gk with
                      | zero => exact absurd HA.out (by simp [leatref01_Mul.l0])
                      | succ k4 =>
                        have H := HA.out
                        clear HA
                        simp only [leatref01_Mul.l0] at H
                        by_cases c33 : x7_4 < 0
                        · rw [if_pos c33] at H
                          have c33b0 : decide (x7_4 < 0) = true := decide_eq_true c33
                          clear c33
                          by_cases c34 : (Int.tmod x7_4 2) = 0
                          · rw [if_pos c34] at H
                            have c34b0 : ((Int.tmod x7_4 2) == 0) = true := beq_iff_eq.mpr c34
                            have c34b1 : ((Int.tmod x7_4 2) != 0) = false := bne_eq_false_iff_eq.mpr c34
                            clear c34
                            by_cases c35 : x11_4 = true
                            · subst c35
                              have H1 : (leatref01_Mul.l0 k4 true (wrap64 (Int.tdiv x7_4 2)) x8_4 x9_4 x10_4 true) = some r := by rw [if_pos rfl] at H; exact H
                              clear H
                              have H := H1
                              clear H1
                              have H' := Aside0.mk H
                              clear H
                              go_wp2
                              go_roundg k4
                              case measure => have := HJ2.out; have := HJ28.out; have := HJ30.out; have := HK4.out; omega
                              case rel => exact ⟨(wrap64 (Int.tdiv x7_4 2)), (x8_4), (x9_4), (x10_4), (true), (by first | rfl | (simp; done) | (simp [*]; done)), (by first | rfl | (simp; done) | (simp [*]; done)), (by first | rfl | (simp; done) | (simp [*]; done)), (by first | rfl | (simp; done) | (simp [*]; done)), (by first | rfl | (simp; done) | (simp [*]; done)), H', ⟨by have := HJ2.out; have := HJ28.out; have := HJ30.out; have := HK4.out; omega⟩, by repeat (first | exact Drawn0.refl _ | apply Drawn0.step)⟩
                            · replace c35 := Bool.eq_false_iff.mpr c35
                              subst c35
                              have H1 : (if (x9_4 < (-4611686018427387904)) then (leatref01_Mul.l0 k4 true (wrap64 (Int.tdiv x7_4 2)) x8_4 x9_4 x10_4 (decide (x9_4 < (-4611686018427387904)))) else (leatref01_Mul.l0 k4 true (wrap64 (Int.tdiv x7_4 2)) x8_4 (wrap64 (x9_4 * 2)) x10_4 (decide (x9_4 < (-4611686018427387904))))) = some r := by rw [if_neg (show ¬ (false = true) by decide)] at H; exact H
                              clear H
                              have H := H1
                              clear H1
                              by_cases c36 : (x9_4 < (-4611686018427387904))
                              · rw [if_pos c36] at H
                                have c36b0 : decide (x9_4 < (-4611686018427387904)) = true := decide_eq_true c36
                                clear c36
                                have H' := Aside0.mk H
                                clear H
                                go_wp2
                                go_roundg k4
                                case measure => have := HJ2.out; have := HJ28.out; have := HJ30.out; have := HK4.out; omega
                                case rel => exact ⟨(wrap64 (Int.tdiv x7_4 2)), (x8_4), (x9_4), (x10_4), (decide (x9_4 < (-4611686018427387904))), (by first | rfl | (simp; done) | (simp [*]; done)), (by first | rfl | (simp; done) | (simp [*]; done)), (by first | rfl | (simp; done) | (simp [*]; done)), (by first | rfl | (simp; done) | (simp [*]; done)), (by first | rfl | (simp; done) | (simp [*]; done)), H', ⟨by have := HJ2.out; have := HJ28.out; have := HJ30.out; have := HK4.out; omega⟩, by repeat (first | exact Drawn0.refl _ | apply Drawn0.step)⟩
                              · rw [if_neg c36] at H
                                have c36b0 : decide (x9_4 < (-4611686018427387904)) = false := decide_eq_false c36
                                clear c36
                                have H' := Aside0.mk H
                                clear H
                                go_wp2
                                go_roundg k4
                                case measure => have := HJ2.out; have := HJ28.out; have := HJ30.out; have := HK4.out; omega
                                case rel => exact ⟨(wrap64 (Int.tdiv x7_4 2)), (x8_4), (wrap64 (x9_4 * 2)), (x10_4), (decide (x9_4 < (-4611686018427387904))), (by first | rfl | (simp; done) | (simp [*]; done)), (by first | rfl | (simp; done) | (simp [*]; done)), (by first | rfl | (simp; done) | (simp [*]; done)), (by first | rfl | (simp; done) | (simp [*]; done)), (by first | rfl | (simp; done) | (simp [*]; done)), H', ⟨by have := HJ2.out; have := HJ28.out; have := HJ30.out; have := HK4.out; omega⟩, by repeat (first | exact Drawn0.refl _ | apply Drawn0.step)⟩
                          · rw [if_neg c34] at H
                            have c34b0 : ((Int.tmod x7_4 2) == 0) = false := beq_eq_false_iff_ne.mpr c34
                            have c34b1 : ((Int.tmod x7_4 2) != 0) = true := bne_iff_ne.mpr c34
                            have HC37 := Aside0.mk H
                            clear H
                            go_upto_region 13 with (fail)
                            go_cut [10] (fun v10 wc => ∃ (kq : Nat) (x10_36 : Bool), v10 = .bool x10_36 ∧ Aside0 (leatref01_Mul.j4 kq true x7_4 x8_4 x9_4 x10_36 x11_4 = some r) ∧ Aside0 (kq ≤ k4) ∧ Drawn0 w wc)
                            case first =>
                              have H := HC37.out
                              clear HC37
                              by_cases c38 : x10_4 = true
                              · subst c38
                                have H1 : (leatref01_Mul.j4 k4 true x7_4 x8_4 x9_4 true x11_4) = some r := by rw [if_pos rfl] at H; exact H
                                clear H
                                have H := H1
                                clear H1
                                have H' := Aside0.mk H
                                clear H
                                go_wp2
                                go_meet
                                case rel => exact ⟨_, (true), (by first | rfl | (simp; done) | (simp [*]; done)), H', ⟨by have := HJ2.out; have := HJ28.out; have := HJ30.out; have := HK4.out; first | omega | exact Nat.le_refl _⟩, by repeat (first | exact Drawn0.refl _ | apply Drawn0.step)⟩
                              · replace c38 := Bool.eq_false_iff.mpr c38
                                subst c38
                                have H1 : (if x11_4 = true then (leatref01_Mul.j4 k4 true x7_4 x8_4 x9_4 true x11_4) else (leatref01_Mul.j4 k4 true x7_4 x8_4 x9_4 (decide (x8_4 < (wrap64 ((-9223372036854775808) - x9_4)))) x11_4)) = some r := by rw [if_neg (show ¬ (false = true) by decide)] at H; exact H
                                clear H
                                have H := H1
                                clear H1
                                by_cases c39 : x11_4 = true
                                · subst c39
                                  have H1 : (leatref01_Mul.j4 k4 true x7_4 x8_4 x9_4 true true) = some r := by rw [if_pos rfl] at H; exact H
                                  clear H
                                  have H := H1
                                  clear H1
                                  have H' := Aside0.mk H
                                  clear H
                                  go_wp2
                                  go_meet
                                  case rel => exact ⟨_, (true), (by first | rfl | (simp; done) | (simp [*]; done)), H', ⟨by have := HJ2.out; have := HJ28.out; have := HJ30.out; have := HK4.out; first | omega | exact Nat.le_refl _⟩, by repeat (first | exact Drawn0.refl _ | apply Drawn0.step)⟩
                                · replace c39 := Bool.eq_false_iff.mpr c39
                                  subst c39
                                  have H1 : (leatref01_Mul.j4 k4 true x7_4 x8_4 x9_4 (decide (x8_4 < (wrap64 ((-9223372036854775808) - x9_4)))) false) = some r := by rw [if_neg (show ¬ (false = true) by decide)] at H; exact H
                                  clear H
                                  have H := H1
                                  clear H1
                                  have H' := Aside0.mk H
                                  clear H
                                  go_wp2
                                  go_meet
                                  case rel => exact ⟨_, (decide (x8_4 < (wrap64 ((-9223372036854775808) - x9_4)))), (by first | rfl | (simp; done) | (simp [*]; done)), H', ⟨by have := HJ2.out; have := HJ28.out; have := HJ30.out; have := HK4.out; first | omega | exact Nat.le_refl _⟩, by repeat (first | exact Drawn0.refl _ | apply Drawn0.step)⟩
                            case rest =>
                              clear HC37
                              try clear c1
                              try clear c2
                              try clear p2
                              try clear c3
                              try clear c4
                              try clear c4b0
                              try clear c4b1
                              try clear c5
                              try clear c6
                              try clear c6b0
                              try clear p6
                              try clear c7
                              try clear c7b0
                              try clear c9
                              try clear c9b0
                              try clear c11
                              try clear c11b0
                              try clear c12
                              try clear c12b0
                              try clear c13
                              try clear c13b0
                              try clear c13b1
                              try clear c14
                              try clear c15
                              try clear c15b0
                              try clear c17
                              try clear c18
                              try clear c19
                              try clear c20
                              try clear c21
                              try clear c21b0
                              try clear c22
                              try clear c23
                              try clear c23b0
                              try clear c25
                              try clear c26
                              try clear c27
                              try clear c28
                              try clear c29
                              try clear c30
                              try clear c30b0
                              try clear c32
                              try clear c32b0
                              try clear c33
                              try clear c33b0
                              try clear c34
                              try clear c34b0
                              try clear c34b1
                              try clear c35
                              try clear c36
                              try clear c36b0
                              try clear c38
                              try clear c39
                              try clear p2
                              try clear p6
                              obtain ⟨kq, x10_36, rfl, HA, HJ36, ⟨mc36, rfl⟩⟩ := hcut
                              cases kq with
                              | zero => exact absurd HA.out (by simp [leatref01_Mul.j4])
                              | succ kj36 =>
                                have H := HA.out
                                clear HA
                                simp only [leatref01_Mul.j4] at H
                                by_cases c40 : x10_36 = true
                                · subst c40
                                  have H1 : (if x11_4 = true then (leatref01_Mul.l0 kj36 true (wrap64 (Int.tdiv x7_4 2)) x8_4 x9_4 true true) else (if (x9_4 < (-4611686018427387904)) then (leatref01_Mul.l0 kj36 true (wrap64 (Int.tdiv x7_4 2)) x8_4 x9_4 true (decide (x9_4 < (-4611686018427387904)))) else (leatref01_Mul.l0 kj36 true (wrap64 (Int.tdiv x7_4 2)) x8_4 (wrap64 (x9_4 * 2)) true (decide (x9_4 < (-4611686018427387904)))))) = some r := by rw [if_pos rfl] at H; exact H
                                  clear H
                                  have H := H1
                                  clear H1
                                  by_cases c41 : x11_4 = true
                                  · subst c41
                                    have H1 : (leatref01_Mul.l0 kj36 true (wrap64 (Int.tdiv x7_4 2)) x8_4 x9_4 true true) = some r := by rw [if_pos rfl] at H; exact H
                                    clear H
                                    have H := H1
                                    clear H1
                                    have H' := Aside0.mk H
                                    clear H
                                    go_wp2
                                    go_roundg kj36
                                    case measure => have := HJ2.out; have := HJ28.out; have := HJ30.out; have := HK4.out; have := HJ36.out; omega
                                    case rel => exact ⟨(wrap64 (Int.tdiv x7_4 2)), (x8_4), (x9_4), (true), (true), (by first | rfl | (simp; done) | (simp [*]; done)), (by first | rfl | (simp; done) | (simp [*]; done)), (by first | rfl | (simp; done) | (simp [*]; done)), (by first | rfl | (simp; done) | (simp [*]; done)), (by first | rfl | (simp; done) | (simp [*]; done)), H', ⟨by have := HJ2.out; have := HJ28.out; have := HJ30.out; have := HK4.out; have := HJ36.out; omega⟩, by repeat (first | exact Drawn0.refl _ | apply Drawn0.step)⟩
                                  · replace c41 := Bool.eq_false_iff.mpr c41
                                    subst c41
                                    have H1 : (if (x9_4 < (-4611686018427387904)) then (leatref01_Mul.l0 kj36 true (wrap64 (Int.tdiv x7_4 2)) x8_4 x9_4 true (decide (x9_4 < (-4611686018427387904)))) else (leatref01_Mul.l0 kj36 true (wrap64 (Int.tdiv x7_4 2)) x8_4 (wrap64 (x9_4 * 2)) true (decide (x9_4 < (-4611686018427387904))))) = some r := by rw [if_neg (show ¬ (false = true) by decide)] at H; exact H
                                    clear H
                                    have H := H1
                                    clear H1
                                    by_cases c42 : (x9_4 < (-4611686018427387904))
                                    · rw [if_pos c42] at H
                                      have c42b0 : decide (x9_4 < (-4611686018427387904)) = true := decide_eq_true c42
                                      clear c42
                                      have H' := Aside0.mk H
                                      clear H
                                      go_wp2
                                      go_roundg kj36
                                      case measure => have := HJ2.out; have := HJ28.out; have := HJ30.out; have := HK4.out; have := HJ36.out; omega
                                      case rel => exact ⟨(wrap64 (Int.tdiv x7_4 2)), (x8_4), (x9_4), (true), (decide (x9_4 < (-4611686018427387904))), (by first | rfl | (simp; done) | (simp [*]; done)), (by first | rfl | (simp; done) | (simp [*]; done)), (by first | rfl | (simp; done) | (simp [*]; done)), (by first | rfl | (simp; done) | (simp [*]; done)), (by first | rfl | (simp; done) | (simp [*]; done)), H', ⟨by have := HJ2.out; have := HJ28.out; have := HJ30.out; have := HK4.out; have := HJ36.out; omega⟩, by repeat (first | exact Drawn0.refl _ | apply Drawn0.step)⟩
                                    · rw [if_neg c42] at H
                                      have c42b0 : decide (x9_4 < (-4611686018427387904)) = false := decide_eq_false c42
                                      clear c42
                                      have H' := Aside0.mk H
                                      clear H
                                      go_wp2
                                      go_roundg kj36
                                      case measure => have := HJ2.out; have := HJ28.out; have := HJ30.out; have := HK4.out; have := HJ36.out; omega
                                      case rel => exact ⟨(wrap64 (Int.tdiv x7_4 2)), (x8_4), (wrap64 (x9_4 * 2)), (true), (decide (x9_4 < (-4611686018427387904))), (by first | rfl | (simp; done) | (simp [*]; done)), (by first | rfl | (simp; done) | (simp [*]; done)), (by first | rfl | (simp; done) | (simp [*]; done)), (by first | rfl | (simp; done) | (simp [*]; done)), (by first | rfl | (simp; done) | (simp [*]; done)), H', ⟨by have := HJ2.out; have := HJ28.out; have := HJ30.out; have := HK4.out; have := HJ36.out; omega⟩, by repeat (first | exact Drawn0.refl _ | apply Drawn0.step)⟩
                                · replace c40 := Bool.eq_false_iff.mpr c40
                                  subst c40
                                  have H1 : (if x11_4 = true then (leatref01_Mul.l0 kj36 true (wrap64 (Int.tdiv x7_4 2)) (wrap64 (x8_4 + x9_4)) x9_4 false true) else (if (x9_4 < (-4611686018427387904)) then (leatref01_Mul.l0 kj36 true (wrap64 (Int.tdiv x7_4 2)) (wrap64 (x8_4 + x9_4)) x9_4 false (decide (x9_4 < (-4611686018427387904)))) else (leatref01_Mul.l0 kj36 true (wrap64 (Int.tdiv x7_4 2)) (wrap64 (x8_4 + x9_4)) (wrap64 (x9_4 * 2)) false (decide (x9_4 < (-4611686018427387904)))))) = some r := by rw [if_neg (show ¬ (false = true) by decide)] at H; exact H
                                  clear H
                                  have H := H1
                                  clear H1
                                  by_cases c43 : x11_4 = true
                                  · subst c43
                                    have H1 : (leatref01_Mul.l0 kj36 true (wrap64 (Int.tdiv x7_4 2)) (wrap64 (x8_4 + x9_4)) x9_4 false true) = some r := by rw [if_pos rfl] at H; exact H
                                    clear H
                                    have H := H1
                                    clear H1
                                    have H' := Aside0.mk H
                                    clear H
                                    go_wp2
                                    go_roundg kj36
                                    case measure => have := HJ2.out; have := HJ28.out; have := HJ30.out; have := HK4.out; have := HJ36.out; omega
                                    case rel => exact ⟨(wrap64 (Int.tdiv x7_4 2)), (wrap64 (x8_4 + x9_4)), (x9_4), (false), (true), (by first | rfl | (simp; done) | (simp [*]; done)), (by first | rfl | (simp; done) | (simp [*]; done)), (by first | rfl | (simp; done) | (simp [*]; done)), (by first | rfl | (simp; done) | (simp [*]; done)), (by first | rfl | (simp; done) | (simp [*]; done)), H', ⟨by have := HJ2.out; have := HJ28.out; have := HJ30.out; have := HK4.out; have := HJ36.out; omega⟩, by repeat (first | exact Drawn0.refl _ | apply Drawn0.step)⟩
                                  · replace c43 := Bool.eq_false_iff.mpr c43
                                    subst c43
                                    have H1 : (if (x9_4 < (-4611686018427387904)) then (leatref01_Mul.l0 kj36 true (wrap64 (Int.tdiv x7_4 2)) (wrap64 (x8_4 + x9_4)) x9_4 false (decide (x9_4 < (-4611686018427387904)))) else (leatref01_Mul.l0 kj36 true (wrap64 (Int.tdiv x7_4 2)) (wrap64 (x8_4 + x9_4)) (wrap64 (x9_4 * 2)) false (decide (x9_4 < (-4611686018427387904))))) = some r := by rw [if_neg (show ¬ (false = true) by decide)] at H; exact H
                                    clear H
                                    have H := H1
                                    clear H1
                                    by_cases c44 : (x9_4 < (-4611686018427387904))
                                    · rw [if_pos c44] at H
                                      have c44b0 : decide (x9_4 < (-4611686018427387904)) = true := decide_eq_true c44
                                      clear c44
                                      have H' := Aside0.mk H
                                      clear H
                                      go_wp2
                                      go_roundg kj36
                                      case measure => have := HJ2.out; have := HJ28.out; have := HJ30.out; have := HK4.out; have := HJ36.out; omega
                                      case rel => exact ⟨(wrap64 (Int.tdiv x7_4 2)), (wrap64 (x8_4 + x9_4)), (x9_4), (false), (decide (x9_4 < (-4611686018427387904))), (by first | rfl | (simp; done) | (simp [*]; done)), (by first | rfl | (simp; done) | (simp [*]; done)), (by first | rfl | (simp; done) | (simp [*]; done)), (by first | rfl | (simp; done) | (simp [*]; done)), (by first | rfl | (simp; done) | (simp [*]; done)), H', ⟨by have := HJ2.out; have := HJ28.out; have := HJ30.out; have := HK4.out; have := HJ36.out; omega⟩, by repeat (first | exact Drawn0.refl _ | apply Drawn0.step)⟩
                                    · rw [if_neg c44] at H
                                      have c44b0 : decide (x9_4 < (-4611686018427387904)) = false := decide_eq_false c44
                                      clear c44
                                      have H' := Aside0.mk H
                                      clear H
                                      go_wp2
                                      go_roundg kj36
                                      case measure => have := HJ2.out; have := HJ28.out; have := HJ30.out; have := HK4.out; have := HJ36.out; omega
                                      case rel => exact ⟨(wrap64 (Int.tdiv x7_4 2)), (wrap64 (x8_4 + x9_4)), (wrap64 (x9_4 * 2)), (false), (decide (x9_4 < (-4611686018427387904))), (by first | rfl | (simp; done) | (simp [*]; done)), (by first | rfl | (simp; done) | (simp [*]; done)), (by first | rfl | (simp; done) | (simp [*]; done)), (by first | rfl | (simp; done) | (simp [*]; done)), (by first | rfl | (simp; done) | (simp [*]; done)), H', ⟨by have := HJ2.out; have := HJ28.out; have := HJ30.out; have := HK4.out; have := HJ36.out; omega⟩, by repeat (first | exact Drawn0.refl _ | apply Drawn0.step)⟩
                        · rw [if_neg c33] at H
                          have c33b0 : decide (x7_4 < 0) = false := decide_eq_false c33
                          clear c33
                          have HC45 := Aside0.mk H
                          clear H
                          go_upto_region 20 with (fail)
                          go_cut [68] (fun v68 wc => ∃ (kq : Nat) (x68_44 : Bool), v68 = .bool x68_44 ∧ Aside0 (leatref01_Mul.j5 kq true x8_4 x10_4 x68_44 = some r) ∧ Aside0 (kq ≤ k4) ∧ Drawn0 w wc)
                          case first =>
                            have H := HC45.out
                            clear HC45
                            by_cases c46 : x10_4 = true
                            · subst c46
                              have H1 : (leatref01_Mul.j5 k4 true x8_4 true true) = some r := by rw [if_pos rfl] at H; exact H
                              clear H
                              have H := H1
                              clear H1
                              have H' := Aside0.mk H
                              clear H
                              go_wp2
                              go_meet
                              case rel => exact ⟨_, (true), (by first | rfl | (simp; done) | (simp [*]; done)), H', ⟨by have := HJ2.out; have := HJ28.out; have := HJ30.out; have := HK4.out; first | omega | exact Nat.le_refl _⟩, by repeat (first | exact Drawn0.refl _ | apply Drawn0.step)⟩
                            · replace c46 := Bool.eq_false_iff.mpr c46
                              subst c46
                              have H1 : (leatref01_Mul.j5 k4 true x8_4 false false) = some r := by rw [if_neg (show ¬ (false = true) by decide)] at H; exact H
                              clear H
                              have H := H1
                              clear H1
                              have H' := Aside0.mk H
                              clear H
                              go_wp2
                              go_meet
                              case rel => exact ⟨_, (false), (by first | rfl | (simp; done) | (simp [*]; done)), H', ⟨by have := HJ2.out; have := HJ28.out; have := HJ30.out; have := HK4.out; first | omega | exact Nat.le_refl _⟩, by repeat (first | exact Drawn0.refl _ | apply Drawn0.step)⟩
                          case rest =>
                            clear HC45
                            try clear c1
                            try clear c2
                            try clear p2
                            try clear c3
                            try clear c4
                            try clear c4b0
                            try clear c4b1
                            try clear c5
                            try clear c6
                            try clear c6b0
                            try clear p6
                            try clear c7
                            try clear c7b0
                            try clear c9
                            try clear c9b0
                            try clear c11
                            try clear c11b0
                            try clear c12
                            try clear c12b0
                            try clear c13
                            try clear c13b0
                            try clear c13b1
                            try clear c14
                            try clear c15
                            try clear c15b0
                            try clear c17
                            try clear c18
                            try clear c19
                            try clear c20
                            try clear c21
                            try clear c21b0
                            try clear c22
                            try clear c23
                            try clear c23b0
                            try clear c25
                            try clear c26
                            try clear c27
                            try clear c28
                            try clear c29
                            try clear c30
                            try clear c30b0
                            try clear c32
                            try clear c32b0
                            try clear c33
                            try clear c33b0
                            try clear c34
                            try clear c34b0
                            try clear c34b1
                            try clear c35
                            try clear c36
                            try clear c36b0
                            try clear c38
                            try clear c39
                            try clear c40
                            try clear c41
                            try clear c42
                            try clear c42b0
                            try clear c43
                            try clear c44
                            try clear c44b0
                            try clear c46
                            try clear p2
                            try clear p6
                            obtain ⟨kq, x68_44, rfl, HA, HJ44, ⟨mc44, rfl⟩⟩ := hcut
                            cases kq with
                            | zero => exact absurd HA.out (by simp [leatref01_Mul.j5])
                            | succ kj44 =>
                              have H := HA.out
                              clear HA
                              simp only [leatref01_Mul.j5] at H
                              by_cases c47 : x68_44 = true
                              · subst c47
                                have H1 : (some (-9223372036854775808)) = some r := by rw [if_pos rfl] at H; exact H
                                clear H
                                have H := H1
                                clear H1
                                obtain rfl := Option.some.inj H
                                go_wp2
                                go_ret
                                exact ⟨by first | rfl | (simp; done) | (simp [*]; done), by repeat (first | exact Drawn0.refl _ | apply Drawn0.step)⟩
                              · replace c47 := Bool.eq_false_iff.mpr c47
                                subst c47
                                have H1 : (if x10_4 = true then (some 9223372036854775807) else (if true = true then (some x8_4) else ((leatref01_Neg.f x8_4).bind fun t117 => (some t117)))) = some r := by rw [if_neg (show ¬ (false = true) by decide)] at H; exact H
                                clear H
                                have H := H1
                                clear H1
                                by_cases c48 : x10_4 = true
                                · subst c48
                                  have H1 : (some 9223372036854775807) = some r := by rw [if_pos rfl] at H; exact H
                                  clear H
                                  have H := H1
                                  clear H1
                                  obtain rfl := Option.some.inj H
                                  go_wp2
                                  go_ret
                                  exact ⟨by first | rfl | (simp; done) | (simp [*]; done), by repeat (first | exact Drawn0.refl _ | apply Drawn0.step)⟩
                                · replace c48 := Bool.eq_false_iff.mpr c48
                                  subst c48
                                  have H1 : (if true = true then (some x8_4) else ((leatref01_Neg.f x8_4).bind fun t117 => (some t117))) = some r := by rw [if_neg (show ¬ (false = true) by decide)] at H; exact H
                                  clear H
                                  have H := H1
                                  clear H1
                                  have H1 : (some x8_4) = some r := by rw [if_pos rfl] at H; exact H
                                  clear H
                                  have H := H1
                                  clear H1
                                  obtain rfl := Option.some.inj H
                                  go_wp2
                                  go_ret
                                  exact ⟨by first | rfl | (simp; done) | (simp [*]; done), by repeat (first | exact Drawn0.refl _ | apply Drawn0.step)⟩
        · rw [if_neg c6] at H
          have c6b0 : decide (a0 < 0) = false := decide_eq_false c6
          clear c6
          by_cases c49 : a1 < 0
          · rw [if_pos c49] at H
            have c49b0 : decide (a1 < 0) = true := decide_eq_true c49
            clear c49
            have HC50 := Aside0.mk H
            clear H
            go_upto_if 26 with (fail)
            go_cut [6] (fun v6 wc => ∃ (kq : Nat) (x6_49 : Int), v6 = .int .i64 x6_49 ∧ Aside0 (leatref01_Mul.j8 kq true x6_49 a1 = some r) ∧ Aside0 (kq ≤ kj2) ∧ Drawn0 w wc)
            case first =>
              have H := HC50.out
              clear HC50
              by_cases c51 : a0 > 0
              · rw [if_pos c51] at H
                have c51b0 : decide (0 < a0) = true := decide_eq_true c51
                clear c51
                (first | rw [c51b0] | (simp only [i64_w, i32_w]; rw [c51b0]) | skip)
                have H' := Aside0.mk H
                clear H
                go_wp2
                go_meet
                case rel => exact ⟨_, (wrap64 (-a0)), (by first | rfl | (simp; done) | (simp [*]; done)), H', ⟨by have := HJ2.out; first | omega | exact Nat.le_refl _⟩, by repeat (first | exact Drawn0.refl _ | apply Drawn0.step)⟩
              · rw [if_neg c51] at H
                have c51b0 : decide (0 < a0) = false := decide_eq_false c51
                clear c51
                (first | rw [c51b0] | (simp only [i64_w, i32_w]; rw [c51b0]) | skip)
                have H' := Aside0.mk H
                clear H
                go_wp2
                go_meet
                case rel => exact ⟨_, (a0), (by first | rfl | (simp; done) | (simp [*]; done)), H', ⟨by have := HJ2.out; first | omega | exact Nat.le_refl _⟩, by repeat (first | exact Drawn0.refl _ | apply Drawn0.step)⟩
            case rest =>
              clear HC50
              try clear c1
              try clear c2
              try clear p2
              try clear c3
              try clear c4
              try clear c4b0
              try clear c4b1
              try clear c5
              try clear c6
              try clear c6b0
              try clear p6
              try clear c7
              try clear c7b0
              try clear c9
              try clear c9b0
              try clear c11
              try clear c11b0
              try clear c12
              try clear c12b0
              try clear c13
              try clear c13b0
              try clear c13b1
              try clear c14
              try clear c15
              try clear c15b0
              try clear c17
              try clear c18
              try clear c19
              try clear c20
              try clear c21
              try clear c21b0
              try clear c22
              try clear c23
              try clear c23b0
              try clear c25
              try clear c26
              try clear c27
              try clear c28
              try clear c29
              try clear c30
              try clear c30b0
              try clear c32
              try clear c32b0
              try clear c33
              try clear c33b0
              try clear c34
              try clear c34b0
              try clear c34b1
              try clear c35
              try clear c36
              try clear c36b0
              try clear c38
              try clear c39
              try clear c40
              try clear c41
              try clear c42
              try clear c42b0
              try clear c43
              try clear c44
              try clear c44b0
              try clear c46
              try clear c47
              try clear c48
              try clear c49
              try clear c49b0
              try clear c51
              try clear c51b0
              try clear p2
              try clear p6
              obtain ⟨kq, x6_49, rfl, HA, HJ49, ⟨mc49, rfl⟩⟩ := hcut
              cases kq with
              | zero => exact absurd HA.out (by simp [leatref01_Mul.j8])
              | succ kj49 =>
                have H := HA.out
                clear HA
                simp only [leatref01_Mul.j8] at H
                have HC52 := Aside0.mk H
                clear H
                go_upto_if 30 with (fail)
                go_cut [7] (fun v7 wc => ∃ (kq : Nat) (x7_51 : Int), v7 = .int .i64 x7_51 ∧ Aside0 (leatref01_Mul.j9 kq true x6_49 x7_51 = some r) ∧ Aside0 (kq ≤ kj49) ∧ Drawn0 w wc)
                case first =>
                  have H := HC52.out
                  clear HC52
                  by_cases c53 : a1 > 0
                  · rw [if_pos c53] at H
                    have c53b0 : decide (0 < a1) = true := decide_eq_true c53
                    clear c53
                    (first | rw [c53b0] | (simp only [i64_w, i32_w]; rw [c53b0]) | skip)
                    have H' := Aside0.mk H
                    clear H
                    go_wp2
                    go_meet
                    case rel => exact ⟨_, (wrap64 (-a1)), (by first | rfl | (simp; done) | (simp [*]; done)), H', ⟨by have := HJ2.out; have := HJ49.out; first | omega | exact Nat.le_refl _⟩, by repeat (first | exact Drawn0.refl _ | apply Drawn0.step)⟩
                  · rw [if_neg c53] at H
                    have c53b0 : decide (0 < a1) = false := decide_eq_false c53
                    clear c53
                    (first | rw [c53b0] | (simp only [i64_w, i32_w]; rw [c53b0]) | skip)
                    have H' := Aside0.mk H
                    clear H
                    go_wp2
                    go_meet
                    case rel => exact ⟨_, (a1), (by first | rfl | (simp; done) | (simp [*]; done)), H', ⟨by have := HJ2.out; have := HJ49.out; first | omega | exact Nat.le_refl _⟩, by repeat (first | exact Drawn0.refl _ | apply Drawn0.step)⟩
                case rest =>
                  clear HC52
                  try clear c1
                  try clear c2
                  try clear p2
                  try clear c3
                  try clear c4
                  try clear c4b0
                  try clear c4b1
                  try clear c5
                  try clear c6
                  try clear c6b0
                  try clear p6
                  try clear c7
                  try clear c7b0
                  try clear c9
                  try clear c9b0
                  try clear c11
                  try clear c11b0
                  try clear c12
                  try clear c12b0
                  try clear c13
                  try clear c13b0
                  try clear c13b1
                  try clear c14
                  try clear c15
                  try clear c15b0
                  try clear c17
                  try clear c18
                  try clear c19
                  try clear c20
                  try clear c21
                  try clear c21b0
                  try clear c22
                  try clear c23
                  try clear c23b0
                  try clear c25
                  try clear c26
                  try clear c27
                  try clear c28
                  try clear c29
                  try clear c30
                  try clear c30b0
                  try clear c32
                  try clear c32b0
                  try clear c33
                  try clear c33b0
                  try clear c34
                  try clear c34b0
                  try clear c34b1
                  try clear c35
                  try clear c36
                  try clear c36b0
                  try clear c38
                  try clear c39
                  try clear c40
                  try clear c41
                  try clear c42
                  try clear c42b0
                  try clear c43
                  try clear c44
                  try clear c44b0
                  try clear c46
                  try clear c47
                  try clear c48
                  try clear c49
                  try clear c49b0
                  try clear c51
                  try clear c51b0
                  try clear c53
                  try clear c53b0
                  try clear p2
                  try clear p6
                  obtain ⟨kq, x7_51, rfl, HA, HJ51, ⟨mc51, rfl⟩⟩ := hcut
                  cases kq with
                  | zero => exact absurd HA.out (by simp [leatref01_Mul.j9])
                  | succ kj51 =>
                    have H := HA.out
                    clear HA
                    simp only [leatref01_Mul.j9] at H
                    have H' := Aside0.mk H
                    clear H
                    go_wp2
                    go_loopg [7, 8, 9, 10, 11] kj51 (fun kq v7 v8 v9 v10 v11 w' => ∃ (x7_4 : Int) (x8_4 : Int) (x9_4 : Int) (x10_4 : Bool) (x11_4 : Bool), v7 = .int .i64 x7_4 ∧ v8 = .int .i64 x8_4 ∧ v9 = .int .i64 x9_4 ∧ v10 = .bool x10_4 ∧ v11 = .bool x11_4 ∧ Aside0 (leatref01_Mul.l0 kq true x7_4 x8_4 x9_4 x10_4 x11_4 = some r) ∧ Aside0 (kq ≤ kj51) ∧ Drawn0 w w')
                    case atStart => exact ⟨(x7_51), (0), (x6_49), (false), (false), (by first | rfl | (simp; done) | (simp [*]; done)), (by first | rfl | (simp; done) | (simp [*]; done)), (by first | rfl | (simp; done) | (simp [*]; done)), (by first | rfl | (simp; done) | (simp [*]; done)), (by first | rfl | (simp; done) | (simp [*]; done)), H', ⟨Nat.le_refl _⟩, by repeat (first | exact Drawn0.refl _ | apply Drawn0.step)⟩
                    case round =>
                      clear H'
                      try clear c1
                      try clear c2
                      try clear p2
                      try clear c3
                      try clear c4
                      try clear c4b0
                      try clear c4b1
                      try clear c5
                      try clear c6
                      try clear c6b0
                      try clear p6
                      try clear c7
                      try clear c7b0
                      try clear c9
                      try clear c9b0
                      try clear c11
                      try clear c11b0
                      try clear c12
                      try clear c12b0
                      try clear c13
                      try clear c13b0
                      try clear c13b1
                      try clear c14
                      try clear c15
                      try clear c15b0
                      try clear c17
                      try clear c18
                      try clear c19
                      try clear c20
                      try clear c21
                      try clear c21b0
                      try clear c22
                      try clear c23
                      try clear c23b0
                      try clear c25
                      try clear c26
                      try clear c27
                      try clear c28
                      try clear c29
                      try clear c30
                      try clear c30b0
                      try clear c32
                      try clear c32b0
                      try clear c33
                      try clear c33b0
                      try clear c34
                      try clear c34b0
                      try clear c34b1
                      try clear c35
                      try clear c36
                      try clear c36b0
                      try clear c38
                      try clear c39
                      try clear c40
                      try clear c41
                      try clear c42
                      try clear c42b0
                      try clear c43
                      try clear c44
                      try clear c44b0
                      try clear c46
                      try clear c47
                      try clear c48
                      try clear c49
                      try clear c49b0
                      try clear c51
                      try clear c51b0
                      try clear c53
                      try clear c53b0
                      try clear p2
                      try clear p6
                      obtain ⟨x7_4, x8_4, x9_4, x10_4, x11_4, rfl, rfl, rfl, rfl, rfl, HA, HK4, ⟨m4, rfl⟩⟩ := hrel
                      cases gk with
                      | zero => exact absurd HA.out (by simp [leatref01_Mul.l0])
                      | succ k4 =>
                        have H := HA.out
                        clear HA
                        simp only [leatref01_Mul.l0] at H
                        by_cases c54 : x7_4 < 0
                        · rw [if_pos c54] at H
                          have c54b0 : decide (x7_4 < 0) = true := decide_eq_true c54
                          clear c54
                          by_cases c55 : (Int.tmod x7_4 2) = 0
                          · rw [if_pos c55] at H
                            have c55b0 : ((Int.tmod x7_4 2) == 0) = true := beq_iff_eq.mpr c55
                            have c55b1 : ((Int.tmod x7_4 2) != 0) = false := bne_eq_false_iff_eq.mpr c55
                            clear c55
                            by_cases c56 : x11_4 = true
                            · subst c56
                              have H1 : (leatref01_Mul.l0 k4 true (wrap64 (Int.tdiv x7_4 2)) x8_4 x9_4 x10_4 true) = some r := by rw [if_pos rfl] at H; exact H
                              clear H
                              have H := H1
                              clear H1
                              have H' := Aside0.mk H
                              clear H
                              go_wp2
                              go_roundg k4
                              case measure => have := HJ2.out; have := HJ49.out; have := HJ51.out; have := HK4.out; omega
                              case rel => exact ⟨(wrap64 (Int.tdiv x7_4 2)), (x8_4), (x9_4), (x10_4), (true), (by first | rfl | (simp; done) | (simp [*]; done)), (by first | rfl | (simp; done) | (simp [*]; done)), (by first | rfl | (simp; done) | (simp [*]; done)), (by first | rfl | (simp; done) | (simp [*]; done)), (by first | rfl | (simp; done) | (simp [*]; done)), H', ⟨by have := HJ2.out; have := HJ49.out; have := HJ51.out; have := HK4.out; omega⟩, by repeat (first | exact Drawn0.refl _ | apply Drawn0.step)⟩
                            · replace c56 := Bool.eq_false_iff.mpr c56
                              subst c56
                              have H1 : (if (x9_4 < (-4611686018427387904)) then (leatref01_Mul.l0 k4 true (wrap64 (Int.tdiv x7_4 2)) x8_4 x9_4 x10_4 (decide (x9_4 < (-4611686018427387904)))) else (leatref01_Mul.l0 k4 true (wrap64 (Int.tdiv x7_4 2)) x8_4 (wrap64 (x9_4 * 2)) x10_4 (decide (x9_4 < (-4611686018427387904))))) = some r := by rw [if_neg (show ¬ (false = true) by decide)] at H; exact H
                              clear H
                              have H := H1
                              clear H1
                              by_cases c57 : (x9_4 < (-4611686018427387904))
                              · rw [if_pos c57] at H
                                have c57b0 : decide (x9_4 < (-4611686018427387904)) = true := decide_eq_true c57
                                clear c57
                                have H' := Aside0.mk H
                                clear H
                                go_wp2
                                go_roundg k4
                                case measure => have := HJ2.out; have := HJ49.out; have := HJ51.out; have := HK4.out; omega
                                case rel => exact ⟨(wrap64 (Int.tdiv x7_4 2)), (x8_4), (x9_4), (x10_4), (decide (x9_4 < (-4611686018427387904))), (by first | rfl | (simp; done) | (simp [*]; done)), (by first | rfl | (simp; done) | (simp [*]; done)), (by first | rfl | (simp; done) | (simp [*]; done)), (by first | rfl | (simp; done) | (simp [*]; done)), (by first | rfl | (simp; done) | (simp [*]; done)), H', ⟨by have := HJ2.out; have := HJ49.out; have := HJ51.out; have := HK4.out; omega⟩, by repeat (first | exact Drawn0.refl _ | apply Drawn0.step)⟩
                              · rw [if_neg c57] at H
                                have c57b0 : decide (x9_4 < (-4611686018427387904)) = false := decide_eq_false c57
                                clear c57
                                have H' := Aside0.mk H
                                clear H
                                go_wp2
                                go_roundg k4
                                case measure => have := HJ2.out; have := HJ49.out; have := HJ51.out; have := HK4.out; omega
                                case rel => exact ⟨(wrap64 (Int.tdiv x7_4 2)), (x8_4), (wrap64 (x9_4 * 2)), (x10_4), (decide (x9_4 < (-4611686018427387904))), (by first | rfl | (simp; done) | (simp [*]; done)), (by first | rfl | (simp; done) | (simp [*]; done)), (by first | rfl | (simp; done) | (simp [*]; done)), (by first | rfl | (simp; done) | (simp [*]; done)), (by first | rfl | (simp; done) | (simp [*]; done)), H', ⟨by have := HJ2.out; have := HJ49.out; have := HJ51.out; have := HK4.out; omega⟩, by repeat (first | exact Drawn0.refl _ | apply Drawn0.step)⟩
                          · rw [if_neg c55] at H
                            have c55b0 : ((Int.tmod x7_4 2) == 0) = false := beq_eq_false_iff_ne.mpr c55
                            have c55b1 : ((Int.tmod x7_4 2) != 0) = true := bne_iff_ne.mpr c55
                            have HC58 := Aside0.mk H
                            clear H
                            go_upto_region 13 with (fail)
                            go_cut [10] (fun v10 wc => ∃ (kq : Nat) (x10_57 : Bool), v10 = .bool x10_57 ∧ Aside0 (leatref01_Mul.j4 kq true x7_4 x8_4 x9_4 x10_57 x11_4 = some r) ∧ Aside0 (kq ≤ k4) ∧ Drawn0 w wc)
                            case first =>
                              have H := HC58.out
                              clear HC58
                              by_cases c59 : x10_4 = true
                              · subst c59
                                have H1 : (leatref01_Mul.j4 k4 true x7_4 x8_4 x9_4 true x11_4) = some r := by rw [if_pos rfl] at H; exact H
                                clear H
                                have H := H1
                                clear H1
                                have H' := Aside0.mk H
                                clear H
                                go_wp2
                                go_meet
                                case rel => exact ⟨_, (true), (by first | rfl | (simp; done) | (simp [*]; done)), H', ⟨by have := HJ2.out; have := HJ49.out; have := HJ51.out; have := HK4.out; first | omega | exact Nat.le_refl _⟩, by repeat (first | exact Drawn0.refl _ | apply Drawn0.step)⟩
                              · replace c59 := Bool.eq_false_iff.mpr c59
                                subst c59
                                have H1 : (if x11_4 = true then (leatref01_Mul.j4 k4 true x7_4 x8_4 x9_4 true x11_4) else (leatref01_Mul.j4 k4 true x7_4 x8_4 x9_4 (decide (x8_4 < (wrap64 ((-9223372036854775808) - x9_4)))) x11_4)) = some r := by rw [if_neg (show ¬ (false = true) by decide)] at H; exact H
                                clear H
                                have H := H1
                                clear H1
                                by_cases c60 : x11_4 = true
                                · subst c60
                                  have H1 : (leatref01_Mul.j4 k4 true x7_4 x8_4 x9_4 true true) = some r := by rw [if_pos rfl] at H; exact H
                                  clear H
                                  have H := H1
                                  clear H1
                                  have H' := Aside0.mk H
                                  clear H
                                  go_wp2
                                  go_meet
                                  case rel => exact ⟨_, (true), (by first | rfl | (simp; done) | (simp [*]; done)), H', ⟨by have := HJ2.out; have := HJ49.out; have := HJ51.out; have := HK4.out; first | omega | exact Nat.le_refl _⟩, by repeat (first | exact Drawn0.refl _ | apply Drawn0.step)⟩
                                · replace c60 := Bool.eq_false_iff.mpr c60
                                  subst c60
                                  have H1 : (leatref01_Mul.j4 k4 true x7_4 x8_4 x9_4 (decide (x8_4 < (wrap64 ((-9223372036854775808) - x9_4)))) false) = some r := by rw [if_neg (show ¬ (false = true) by decide)] at H; exact H
                                  clear H
                                  have H := H1
                                  clear H1
                                  have H' := Aside0.mk H
                                  clear H
                                  go_wp2
                                  go_meet
                                  case rel => exact ⟨_, (decide (x8_4 < (wrap64 ((-9223372036854775808) - x9_4)))), (by first | rfl | (simp; done) | (simp [*]; done)), H', ⟨by have := HJ2.out; have := HJ49.out; have := HJ51.out; have := HK4.out; first | omega | exact Nat.le_refl _⟩, by repeat (first | exact Drawn0.refl _ | apply Drawn0.step)⟩
                            case rest =>
                              clear HC58
                              try clear c1
                              try clear c2
                              try clear p2
                              try clear c3
                              try clear c4
                              try clear c4b0
                              try clear c4b1
                              try clear c5
                              try clear c6
                              try clear c6b0
                              try clear p6
                              try clear c7
                              try clear c7b0
                              try clear c9
                              try clear c9b0
                              try clear c11
                              try clear c11b0
                              try clear c12
                              try clear c12b0
                              try clear c13
                              try clear c13b0
                              try clear c13b1
                              try clear c14
                              try clear c15
                              try clear c15b0
                              try clear c17
                              try clear c18
                              try clear c19
                              try clear c20
                              try clear c21
                              try clear c21b0
                              try clear c22
                              try clear c23
                              try clear c23b0
                              try clear c25
                              try clear c26
                              try clear c27
                              try clear c28
                              try clear c29
                              try clear c30
                              try clear c30b0
                              try clear c32
                              try clear c32b0
                              try clear c33
                              try clear c33b0
                              try clear c34
                              try clear c34b0
                              try clear c34b1
                              try clear c35
                              try clear c36
                              try clear c36b0
                              try clear c38
                              try clear c39
                              try clear c40
                              try clear c41
                              try clear c42
                              try clear c42b0
                              try clear c43
                              try clear c44
                              try clear c44b0
                              try clear c46
                              try clear c47
                              try clear c48
                              try clear c49
                              try clear c49b0
                              try clear c51
                              try clear c51b0
                              try clear c53
                              try clear c53b0
                              try clear c54
                              try clear c54b0
                              try clear c55
                              try clear c55b0
                              try clear c55b1
                              try clear c56
                              try clear c57
                              try clear c57b0
                              try clear c59
                              try clear c60
                              try clear p2
                              try clear p6
                              obtain ⟨kq, x10_57, rfl, HA, HJ57, ⟨mc57, rfl⟩⟩ := hcut
                              cases kq with
                              | zero => exact absurd HA.out (by simp [leatref01_Mul.j4])
                              | succ kj57 =>
                                have H := HA.out
                                clear HA
                                simp only [leatref01_Mul.j4] at H
                                by_cases c61 : x10_57 = true
                                · subst c61
                                  have H1 : (if x11_4 = true then (leatref01_Mul.l0 kj57 true (wrap64 (Int.tdiv x7_4 2)) x8_4 x9_4 true true) else (if (x9_4 < (-4611686018427387904)) then (leatref01_Mul.l0 kj57 true (wrap64 (Int.tdiv x7_4 2)) x8_4 x9_4 true (decide (x9_4 < (-4611686018427387904)))) else (leatref01_Mul.l0 kj57 true (wrap64 (Int.tdiv x7_4 2)) x8_4 (wrap64 (x9_4 * 2)) true (decide (x9_4 < (-4611686018427387904)))))) = some r := by rw [if_pos rfl] at H; exact H
                                  clear H
                                  have H := H1
                                  clear H1
                                  by_cases c62 : x11_4 = true
                                  · subst c62
                                    have H1 : (leatref01_Mul.l0 kj57 true (wrap64 (Int.tdiv x7_4 2)) x8_4 x9_4 true true) = some r := by rw [if_pos rfl] at H; exact H
                                    clear H
                                    have H := H1
                                    clear H1
                                    have H' := Aside0.mk H
                                    clear H
                                    go_wp2
                                    go_roundg kj57
                                    case measure => have := HJ2.out; have := HJ49.out; have := HJ51.out; have := HK4.out; have := HJ57.out; omega
                                    case rel => exact ⟨(wrap64 (Int.tdiv x7_4 2)), (x8_4), (x9_4), (true), (true), (by first | rfl | (simp; done) | (simp [*]; done)), (by first | rfl | (simp; done) | (simp [*]; done)), (by first | rfl | (simp; done) | (simp [*]; done)), (by first | rfl | (simp; done) | (simp [*]; done)), (by first | rfl | (simp; done) | (simp [*]; done)), H', ⟨by have := HJ2.out; have := HJ49.out; have := HJ51.out; have := HK4.out; have := HJ57.out; omega⟩, by repeat (first | exact Drawn0.refl _ | apply Drawn0.step)⟩
                                  · replace c62 := Bool.eq_false_iff.mpr c62
                                    subst c62
                                    have H1 : (if (x9_4 < (-4611686018427387904)) then (leatref01_Mul.l0 kj57 true (wrap64 (Int.tdiv x7_4 2)) x8_4 x9_4 true (decide (x9_4 < (-4611686018427387904)))) else (leatref01_Mul.l0 kj57 true (wrap64 (Int.tdiv x7_4 2)) x8_4 (wrap64 (x9_4 * 2)) true (decide (x9_4 < (-4611686018427387904))))) = some r := by rw [if_neg (show ¬ (false = true) by decide)] at H; exact H
                                    clear H
                                    have H := H1
                                    clear H1
                                    by_cases c63 : (x9_4 < (-4611686018427387904))
                                    · rw [if_pos c63] at H
                                      have c63b0 : decide (x9_4 < (-4611686018427387904)) = true := decide_eq_true c63
                                      clear c63
                                      have H' := Aside0.mk H
                                      clear H
                                      go_wp2
                                      go_roundg kj57
                                      case measure => have := HJ2.out; have := HJ49.out; have := HJ51.out; have := HK4.out; have := HJ57.out; omega
                                      case rel => exact ⟨(wrap64 (Int.tdiv x7_4 2)), (x8_4), (x9_4), (true), (decide (x9_4 < (-4611686018427387904))), (by first | rfl | (simp; done) | (simp [*]; done)), (by first | rfl | (simp; done) | (simp [*]; done)), (by first | rfl | (simp; done) | (simp [*]; done)), (by first | rfl | (simp; done) | (simp [*]; done)), (by first | rfl | (simp; done) | (simp [*]; done)), H', ⟨by have := HJ2.out; have := HJ49.out; have := HJ51.out; have := HK4.out; have := HJ57.out; omega⟩, by repeat (first | exact Drawn0.refl _ | apply Drawn0.step)⟩
                                    · rw [if_neg c63] at H
                                      have c63b0 : decide (x9_4 < (-4611686018427387904)) = false := decide_eq_false c63
                                      clear c63
                                      have H' := Aside0.mk H
                                      clear H
                                      go_wp2
                                      go_roundg kj57
                                      case measure => have := HJ2.out; have := HJ49.out; have := HJ51.out; have := HK4.out; have := HJ57.out; omega
                                      case rel => exact ⟨(wrap64 (Int.tdiv x7_4 2)), (x8_4), (wrap64 (x9_4 * 2)), (true), (decide (x9_4 < (-4611686018427387904))), (by first | rfl | (simp; done) | (simp [*]; done)), (by first | rfl | (simp; done) | (simp [*]; done)), (by first | rfl | (simp; done) | (simp [*]; done)), (by first | rfl | (simp; done) | (simp [*]; done)), (by first | rfl | (simp; done) | (simp [*]; done)), H', ⟨by have := HJ2.out; have := HJ49.out; have := HJ51.out; have := HK4.out; have := HJ57.out; omega⟩, by repeat (first | exact Drawn0.refl _ | apply Drawn0.step)⟩
                                · replace c61 := Bool.eq_false_iff.mpr c61
                                  subst c61
                                  have H1 : (if x11_4 = true then (leatref01_Mul.l0 kj57 true (wrap64 (Int.tdiv x7_4 2)) (wrap64 (x8_4 + x9_4)) x9_4 false true) else (if (x9_4 < (-4611686018427387904)) then (leatref01_Mul.l0 kj57 true (wrap64 (Int.tdiv x7_4 2)) (wrap64 (x8_4 + x9_4)) x9_4 false (decide (x9_4 < (-4611686018427387904)))) else (leatref01_Mul.l0 kj57 true (wrap64 (Int.tdiv x7_4 2)) (wrap64 (x8_4 + x9_4)) (wrap64 (x9_4 * 2)) false (decide (x9_4 < (-4611686018427387904)))))) = some r := by rw [if_neg (show ¬ (false = true) by decide)] at H; exact H
                                  clear H
                                  have H := H1
                                  clear H1
                                  by_cases c64 : x11_4 = true
                                  · subst c64
                                    have H1 : (leatref01_Mul.l0 kj57 true (wrap64 (Int.tdiv x7_4 2)) (wrap64 (x8_4 + x9_4)) x9_4 false true) = some r := by rw [if_pos rfl] at H; exact H
                                    clear H
                                    have H := H1
                                    clear H1
                                    have H' := Aside0.mk H
                                    clear H
                                    go_wp2
                                    go_roundg kj57
                                    case measure => have := HJ2.out; have := HJ49.out; have := HJ51.out; have := HK4.out; have := HJ57.out; omega
                                    case rel => exact ⟨(wrap64 (Int.tdiv x7_4 2)), (wrap64 (x8_4 + x9_4)), (x9_4), (false), (true), (by first | rfl | (simp; done) | (simp [*]; done)), (by first | rfl | (simp; done) | (simp [*]; done)), (by first | rfl | (simp; done) | (simp [*]; done)), (by first | rfl | (simp; done) | (simp [*]; done)), (by first | rfl | (simp; done) | (simp [*]; done)), H', ⟨by have := HJ2.out; have := HJ49.out; have := HJ51.out; have := HK4.out; have := HJ57.out; omega⟩, by repeat (first | exact Drawn0.refl _ | apply Drawn0.step)⟩
                                  · replace c64 := Bool.eq_false_iff.mpr c64
                                    subst c64
                                    have H1 : (if (x9_4 < (-4611686018427387904)) then (leatref01_Mul.l0 kj57 true (wrap64 (Int.tdiv x7_4 2)) (wrap64 (x8_4 + x9_4)) x9_4 false (decide (x9_4 < (-4611686018427387904)))) else (leatref01_Mul.l0 kj57 true (wrap64 (Int.tdiv x7_4 2)) (wrap64 (x8_4 + x9_4)) (wrap64 (x9_4 * 2)) false (decide (x9_4 < (-4611686018427387904))))) = some r := by rw [if_neg (show ¬ (false = true) by decide)] at H; exact H
                                    clear H
                                    have H := H1
                                    clear H1
                                    by_cases c65 : (x9_4 < (-4611686018427387904))
                                    · rw [if_pos c65] at H
                                      have c65b0 : decide (x9_4 < (-4611686018427387904)) = true := decide_eq_true c65
                                      clear c65
                                      have H' := Aside0.mk H
                                      clear H
                                      go_wp2
                                      go_roundg kj57
                                      case measure => have := HJ2.out; have := HJ49.out; have := HJ51.out; have := HK4.out; have := HJ57.out; omega
                                      case rel => exact ⟨(wrap64 (Int.tdiv x7_4 2)), (wrap64 (x8_4 + x9_4)), (x9_4), (false), (decide (x9_4 < (-4611686018427387904))), (by first | rfl | (simp; done) | (simp [*]; done)), (by first | rfl | (simp; done) | (simp [*]; done)), (by first | rfl | (simp; done) | (simp [*]; done)), (by first | rfl | (simp; done) | (simp [*]; done)), (by first | rfl | (simp; done) | (simp [*]; done)), H', ⟨by have := HJ2.out; have := HJ49.out; have := HJ51.out; have := HK4.out; have := HJ57.out; omega⟩, by repeat (first | exact Drawn0.refl _ | apply Drawn0.step)⟩
                                    · rw [if_neg c65] at H
                                      have c65b0 : decide (x9_4 < (-4611686018427387904)) = false := decide_eq_false c65
                                      clear c65
                                      have H' := Aside0.mk H
                                      clear H
                                      go_wp2
                                      go_roundg kj57
                                      case measure => have := HJ2.out; have := HJ49.out; have := HJ51.out; have := HK4.out; have := HJ57.out; omega
                                      case rel => exact ⟨(wrap64 (Int.tdiv x7_4 2)), (wrap64 (x8_4 + x9_4)), (wrap64 (x9_4 * 2)), (false), (decide (x9_4 < (-4611686018427387904))), (by first | rfl | (simp; done) | (simp [*]; done)), (by first | rfl | (simp; done) | (simp [*]; done)), (by first | rfl | (simp; done) | (simp [*]; done)), (by first | rfl | (simp; done) | (simp [*]; done)), (by first | rfl | (simp; done) | (simp [*]; done)), H', ⟨by have := HJ2.out; have := HJ49.out; have := HJ51.out; have := HK4.out; have := HJ57.out; omega⟩, by repeat (first | exact Drawn0.refl _ | apply Drawn0.step)⟩
                        · rw [if_neg c54] at H
                          have c54b0 : decide (x7_4 < 0) = false := decide_eq_false c54
                          clear c54
                          have HC66 := Aside0.mk H
                          clear H
                          go_upto_region 20 with (fail)
                          go_cut [68] (fun v68 wc => ∃ (kq : Nat) (x68_65 : Bool), v68 = .bool x68_65 ∧ Aside0 (leatref01_Mul.j5 kq true x8_4 x10_4 x68_65 = some r) ∧ Aside0 (kq ≤ k4) ∧ Drawn0 w wc)
                          case first =>
                            have H := HC66.out
                            clear HC66
                            by_cases c67 : x10_4 = true
                            · subst c67
                              have H1 : (leatref01_Mul.j5 k4 true x8_4 true true) = some r := by rw [if_pos rfl] at H; exact H
                              clear H
                              have H := H1
                              clear H1
                              have H' := Aside0.mk H
                              clear H
                              go_wp2
                              go_meet
                              case rel => exact ⟨_, (true), (by first | rfl | (simp; done) | (simp [*]; done)), H', ⟨by have := HJ2.out; have := HJ49.out; have := HJ51.out; have := HK4.out; first | omega | exact Nat.le_refl _⟩, by repeat (first | exact Drawn0.refl _ | apply Drawn0.step)⟩
                            · replace c67 := Bool.eq_false_iff.mpr c67
                              subst c67
                              have H1 : (leatref01_Mul.j5 k4 true x8_4 false false) = some r := by rw [if_neg (show ¬ (false = true) by decide)] at H; exact H
                              clear H
                              have H := H1
                              clear H1
                              have H' := Aside0.mk H
                              clear H
                              go_wp2
                              go_meet
                              case rel => exact ⟨_, (false), (by first | rfl | (simp; done) | (simp [*]; done)), H', ⟨by have := HJ2.out; have := HJ49.out; have := HJ51.out; have := HK4.out; first | omega | exact Nat.le_refl _⟩, by repeat (first | exact Drawn0.refl _ | apply Drawn0.step)⟩
                          case rest =>
                            clear HC66
                            try clear c1
                            try clear c2
                            try clear p2
                            try clear c3
                            try clear c4
                            try clear c4b0
                            try clear c4b1
                            try clear c5
                            try clear c6
                            try clear c6b0
                            try clear p6
                            try clear c7
                            try clear c7b0
                            try clear c9
                            try clear c9b0
                            try clear c11
                            try clear c11b0
                            try clear c12
                            try clear c12b0
                            try clear c13
                            try clear c13b0
                            try clear c13b1
                            try clear c14
                            try clear c15
                            try clear c15b0
                            try clear c17
                            try clear c18
                            try clear c19
                            try clear c20
                            try clear c21
                            try clear c21b0
                            try clear c22
                            try clear c23
                            try clear c23b0
                            try clear c25
                            try clear c26
                            try clear c27
                            try clear c28
                            try clear c29
                            try clear c30
                            try clear c30b0
                            try clear c32
                            try clear c32b0
                            try clear c33
                            try clear c33b0
                            try clear c34
                            try clear c34b0
                            try clear c34b1
                            try clear c35
                            try clear c36
                            try clear c36b0
                            try clear c38
                            try clear c39
                            try clear c40
                            try clear c41
                            try clear c42
                            try clear c42b0
                            try clear c43
                            try clear c44
                            try clear c44b0
                            try clear c46
                            try clear c47
                            try clear c48
                            try clear c49
                            try clear c49b0
                            try clear c51
                            try clear c51b0
                            try clear c53
                            try clear c53b0
                            try clear c54
                            try clear c54b0
                            try clear c55
                            try clear c55b0
                            try clear c55b1
                            try clear c56
                            try clear c57
                            try clear c57b0
                            try clear c59
                            try clear c60
                            try clear c61
                            try clear c62
                            try clear c63
                            try clear c63b0
                            try clear c64
                            try clear p64
                            try clear c65
                            try clear c65b0
                            try clear c67
                            try clear p2
                            try clear p6
                            obtain ⟨kq, x68_65, rfl, HA, HJ65, ⟨mc65, rfl⟩⟩ := hcut
                            cases kq with
                            | zero => exact absurd HA.out (by simp [leatref01_Mul.j5])
                            | succ kj65 =>
                              have H := HA.out
                              clear HA
                              simp only [leatref01_Mul.j5] at H
                              by_cases c68 : x68_65 = true
                              · subst c68
                                have H1 : (some (-9223372036854775808)) = some r := by rw [if_pos rfl] at H; exact H
                                clear H
                                have H := H1
                                clear H1
                                obtain rfl := Option.some.inj H
                                go_wp2
                                go_ret
                                exact ⟨by first | rfl | (simp; done) | (simp [*]; done), by repeat (first | exact Drawn0.refl _ | apply Drawn0.step)⟩
                              · replace c68 := Bool.eq_false_iff.mpr c68
                                subst c68
                                have H1 : (if x10_4 = true then (some 9223372036854775807) else (if true = true then (some x8_4) else ((leatref01_Neg.f x8_4).bind fun t117 => (some t117)))) = some r := by rw [if_neg (show ¬ (false = true) by decide)] at H; exact H
                                clear H
                                have H := H1
                                clear H1
                                by_cases c69 : x10_4 = true
                                · subst c69
                                  have H1 : (some 9223372036854775807) = some r := by rw [if_pos rfl] at H; exact H
                                  clear H
                                  have H := H1
                                  clear H1
                                  obtain rfl := Option.some.inj H
                                  go_wp2
                                  go_ret
                                  exact ⟨by first | rfl | (simp; done) | (simp [*]; done), by repeat (first | exact Drawn0.refl _ | apply Drawn0.step)⟩
                                · replace c69 := Bool.eq_false_iff.mpr c69
                                  subst c69
                                  have H1 : (if true = true then (some x8_4) else ((leatref01_Neg.f x8_4).bind fun t117 => (some t117))) = some r := by rw [if_neg (show ¬ (false = true) by decide)] at H; exact H
                                  clear H
                                  have H := H1
                                  clear H1
                                  have H1 : (some x8_4) = some r := by rw [if_pos rfl] at H; exact H
                                  clear H
                                  have H := H1
                                  clear H1
                                  obtain rfl := Option.some.inj H
                                  go_wp2
                                  go_ret
                                  exact ⟨by first | rfl | (simp; done) | (simp [*]; done), by repeat (first | exact Drawn0.refl _ | apply Drawn0.step)⟩
          · rw [if_neg c49] at H
            have c49b0 : decide (a1 < 0) = false := decide_eq_false c49
            clear c49
            have HC70 := Aside0.mk H
            clear H
            go_upto_if 26 with (fail)
            go_cut [6] (fun v6 wc => ∃ (kq : Nat) (x6_69 : Int), v6 = .int .i64 x6_69 ∧ Aside0 (leatref01_Mul.j10 kq false x6_69 a1 = some r) ∧ Aside0 (kq ≤ kj2) ∧ Drawn0 w wc)
            case first =>
              have H := HC70.out
              clear HC70
              by_cases c71 : a0 > 0
              · rw [if_pos c71] at H
                have c71b0 : decide (0 < a0) = true := decide_eq_true c71
                clear c71
                (first | rw [c71b0] | (simp only [i64_w, i32_w]; rw [c71b0]) | skip)
                have H' := Aside0.mk H
                clear H
                go_wp2
                go_meet
                case rel => exact ⟨_, (wrap64 (-a0)), (by first | rfl | (simp; done) | (simp [*]; done)), H', ⟨by have := HJ2.out; first | omega | exact Nat.le_refl _⟩, by repeat (first | exact Drawn0.refl _ | apply Drawn0.step)⟩
              · rw [if_neg c71] at H
                have c71b0 : decide (0 < a0) = false := decide_eq_false c71
                clear c71
                (first | rw [c71b0] | (simp only [i64_w, i32_w]; rw [c71b0]) | skip)
                have H' := Aside0.mk H
                clear H
                go_wp2
                go_meet
                case rel => exact ⟨_, (a0), (by first | rfl | (simp; done) | (simp [*]; done)), H', ⟨by have := HJ2.out; first | omega | exact Nat.le_refl _⟩, by repeat (first | exact Drawn0.refl _ | apply Drawn0.step)⟩
            case rest =>
              clear HC70
              try clear c1
              try clear c2
              try clear p2
              try clear c3
              try clear c4
              try clear c4b0
              try clear c4b1
              try clear c5
              try clear c6
              try clear c6b0
              try clear p6
              try clear c7
              try clear c7b0
              try clear c9
              try clear c9b0
              try clear c11
              try clear c11b0
              try clear c12
              try clear c12b0
              try clear c13
              try clear c13b0
              try clear c13b1
              try clear c14
              try clear c15
              try clear c15b0
              try clear c17
              try clear c18
              try clear c19
              try clear c20
              try clear c21
              try clear c21b0
              try clear c22
              try clear c23
              try clear c23b0
              try clear c25
              try clear c26
              try clear c27
              try clear c28
              try clear c29
              try clear c30
              try clear c30b0
              try clear c32
              try clear c32b0
              try clear c33
              try clear c33b0
              try clear c34
              try clear c34b0
              try clear c34b1
              try clear c35
              try clear c36
              try clear c36b0
              try clear c38
              try clear c39
              try clear c40
              try clear c41
              try clear c42
              try clear c42b0
              try clear c43
              try clear c44
              try clear c44b0
              try clear c46
              try clear c47
              try clear c48
              try clear c49
              try clear c49b0
              try clear c51
              try clear c51b0
              try clear c53
              try clear c53b0
              try clear c54
              try clear c54b0
              try clear c55
              try clear c55b0
              try clear c55b1
              try clear c56
              try clear c57
              try clear c57b0
              try clear c59
              try clear c60
              try clear c61
              try clear c62
              try clear c63
              try clear c63b0
              try clear c64
              try clear p64
              try clear c65
              try clear c65b0
              try clear c67
              try clear c68
              try clear c69
              try clear c71
              try clear c71b0
              try clear p2
              try clear p6
              try clear p64
              obtain ⟨kq, x6_69, rfl, HA, HJ69, ⟨mc69, rfl⟩⟩ := hcut
              cases kq with
              | zero => exact absurd HA.out (by simp [leatref01_Mul.j10])
              | succ kj69 =>
                have H := HA.out
                clear HA
                simp only [leatref01_Mul.j10] at H
                have HC72 := Aside0.mk H
                clear H
                go_upto_if 30 with (fail)
                go_cut [7] (fun v7 wc => ∃ (kq : Nat) (x7_71 : Int), v7 = .int .i64 x7_71 ∧ Aside0 (leatref01_Mul.j11 kq false x6_69 x7_71 = some r) ∧ Aside0 (kq ≤ kj69) ∧ Drawn0 w wc)
                case first =>
                  have H := HC72.out
                  clear HC72
                  by_cases c73 : a1 > 0
                  · rw [if_pos c73] at H
                    have c73b0 : decide (0 < a1) = true := decide_eq_true c73
                    clear c73
                    (first | rw [c73b0] | (simp only [i64_w, i32_w]; rw [c73b0]) | skip)
                    have H' := Aside0.mk H
                    clear H
                    go_wp2
                    go_meet
                    case rel => exact ⟨_, (wrap64 (-a1)), (by first | rfl | (simp; done) | (simp [*]; done)), H', ⟨by have := HJ2.out; have := HJ69.out; first | omega | exact Nat.le_refl _⟩, by repeat (first | exact Drawn0.refl _ | apply Drawn0.step)⟩
                  · rw [if_neg c73] at H
                    have c73b0 : decide (0 < a1) = false := decide_eq_false c73
                    clear c73
                    (first | rw [c73b0] | (simp only [i64_w, i32_w]; rw [c73b0]) | skip)
                    have H' := Aside0.mk H
                    clear H
                    go_wp2
                    go_meet
                    case rel => exact ⟨_, (a1), (by first | rfl | (simp; done) | (simp [*]; done)), H', ⟨by have := HJ2.out; have := HJ69.out; first | omega | exact Nat.le_refl _⟩, by repeat (first | exact Drawn0.refl _ | apply Drawn0.step)⟩
                case rest =>
                  clear HC72
                  try clear c1
                  try clear c2
                  try clear p2
                  try clear c3
                  try clear c4
                  try clear c4b0
                  try clear c4b1
                  try clear c5
                  try clear c6
                  try clear c6b0
                  try clear p6
                  try clear c7
                  try clear c7b0
                  try clear c9
                  try clear c9b0
                  try clear c11
                  try clear c11b0
                  try clear c12
                  try clear c12b0
                  try clear c13
                  try clear c13b0
                  try clear c13b1
                  try clear c14
                  try clear c15
                  try clear c15b0
                  try clear c17
                  try clear c18
                  try clear c19
                  try clear c20
                  try clear c21
                  try clear c21b0
                  try clear c22
                  try clear c23
                  try clear c23b0
                  try clear c25
                  try clear c26
                  try clear c27
                  try clear c28
                  try clear c29
                  try clear c30
                  try clear c30b0
                  try clear c32
                  try clear c32b0
                  try clear c33
                  try clear c33b0
                  try clear c34
                  try clear c34b0
                  try clear c34b1
                  try clear c35
                  try clear c36
                  try clear c36b0
                  try clear c38
                  try clear c39
                  try clear c40
                  try clear c41
                  try clear c42
                  try clear c42b0
                  try clear c43
                  try clear c44
                  try clear c44b0
                  try clear c46
                  try clear c47
                  try clear c48
                  try clear c49
                  try clear c49b0
                  try clear c51
                  try clear c51b0
                  try clear c53
                  try clear c53b0
                  try clear c54
                  try clear c54b0
                  try clear c55
                  try clear c55b0
                  try clear c55b1
                  try clear c56
                  try clear c57
                  try clear c57b0
                  try clear c59
                  try clear c60
                  try clear c61
                  try clear c62
                  try clear c63
                  try clear c63b0
                  try clear c64
                  try clear p64
                  try clear c65
                  try clear c65b0
                  try clear c67
                  try clear c68
                  try clear c69
                  try clear c71
                  try clear c71b0
                  try clear c73
                  try clear c73b0
                  try clear p2
                  try clear p6
                  try clear p64
                  obtain ⟨kq, x7_71, rfl, HA, HJ71, ⟨mc71, rfl⟩⟩ := hcut
                  cases kq with
                  | zero => exact absurd HA.out (by simp [leatref01_Mul.j11])
                  | succ kj71 =>
                    have H := HA.out
                    clear HA
                    simp only [leatref01_Mul.j11] at H
                    have H' := Aside0.mk H
                    clear H
                    go_wp2
                    go_loopg [7, 8, 9, 10, 11] kj71 (fun kq v7 v8 v9 v10 v11 w' => ∃ (x7_4 : Int) (x8_4 : Int) (x9_4 : Int) (x10_4 : Bool) (x11_4 : Bool), v7 = .int .i64 x7_4 ∧ v8 = .int .i64 x8_4 ∧ v9 = .int .i64 x9_4 ∧ v10 = .bool x10_4 ∧ v11 = .bool x11_4 ∧ Aside0 (leatref01_Mul.l0 kq false x7_4 x8_4 x9_4 x10_4 x11_4 = some r) ∧ Aside0 (kq ≤ kj71) ∧ Drawn0 w w')
                    case atStart => exact ⟨(x7_71), (0), (x6_69), (false), (false), (by first | rfl | (simp; done) | (simp [*]; done)), (by first | rfl | (simp; done) | (simp [*]; done)), (by first | rfl | (simp; done) | (simp [*]; done)), (by first | rfl | (simp; done) | (simp [*]; done)), (by first | rfl | (simp; done) | (simp [*]; done)), H', ⟨Nat.le_refl _⟩, by repeat (first | exact Drawn0.refl _ | apply Drawn0.step)⟩
                    case round =>
                      clear H'
                      try clear c1
                      try clear c2
                      try clear p2
                      try clear c3
                      try clear c4
                      try clear c4b0
                      try clear c4b1
                      try clear c5
                      try clear c6
                      try clear c6b0
                      try clear p6
                      try clear c7
                      try clear c7b0
                      try clear c9
                      try clear c9b0
                      try clear c11
                      try clear c11b0
                      try clear c12
                      try clear c12b0
                      try clear c13
                      try clear c13b0
                      try clear c13b1
                      try clear c14
                      try clear c15
                      try clear c15b0
                      try clear c17
                      try clear c18
                      try clear c19
                      try clear c20
                      try clear c21
                      try clear c21b0
                      try clear c22
                      try clear c23
                      try clear c23b0
                      try clear c25
                      try clear c26
                      try clear c27
                      try clear c28
                      try clear c29
                      try clear c30
                      try clear c30b0
                      try clear c32
                      try clear c32b0
                      try clear c33
                      try clear c33b0
                      try clear c34
                      try clear c34b0
                      try clear c34b1
                      try clear c35
                      try clear c36
                      try clear c36b0
                      try clear c38
                      try clear c39
                      try clear c40
                      try clear c41
                      try clear c42
                      try clear c42b0
                      try clear c43
                      try clear c44
                      try clear c44b0
                      try clear c46
                      try clear c47
                      try clear c48
                      try clear c49
                      try clear c49b0
                      try clear c51
                      try clear c51b0
                      try clear c53
                      try clear c53b0
                      try clear c54
                      try clear c54b0
                      try clear c55
                      try clear c55b0
                      try clear c55b1
                      try clear c56
                      try clear c57
                      try clear c57b0
                      try clear c59
                      try clear c60
                      try clear c61
                      try clear c62
                      try clear c63
                      try clear c63b0
                      try clear c64
                      try clear p64
                      try clear c65
                      try clear c65b0
                      try clear c67
                      try clear c68
                      try clear c69
                      try clear c71
                      try clear c71b0
                      try clear c73
                      try clear c73b0
                      try clear p2
                      try clear p6
                      try clear p64
                      obtain ⟨x7_4, x8_4, x9_4, x10_4, x11_4, rfl, rfl, rfl, rfl, rfl, HA, HK4, ⟨m4, rfl⟩⟩ := hrel
                      cases gk with
                      | zero => exact absurd HA.out (by simp [leatref01_Mul.l0])
                      | succ k4 =>
                        have H := HA.out
                        clear HA
                        simp only [leatref01_Mul.l0] at H
                        by_cases c74 : x7_4 < 0
                        · rw [if_pos c74] at H
                          have c74b0 : decide (x7_4 < 0) = true := decide_eq_true c74
                          clear c74
                          by_cases c75 : (Int.tmod x7_4 2) = 0
                          · rw [if_pos c75] at H
                            have c75b0 : ((Int.tmod x7_4 2) == 0) = true := beq_iff_eq.mpr c75
                            have c75b1 : ((Int.tmod x7_4 2) != 0) = false := bne_eq_false_iff_eq.mpr c75
                            clear c75
                            by_cases c76 : x11_4 = true
                            · subst c76
                              have H1 : (leatref01_Mul.l0 k4 false (wrap64 (Int.tdiv x7_4 2)) x8_4 x9_4 x10_4 true) = some r := by rw [if_pos rfl] at H; exact H
                              clear H
                              have H := H1
                              clear H1
                              have H' := Aside0.mk H
                              clear H
                              go_wp2
                              go_roundg k4
                              case measure => have := HJ2.out; have := HJ69.out; have := HJ71.out; have := HK4.out; omega
                              case rel => exact ⟨(wrap64 (Int.tdiv x7_4 2)), (x8_4), (x9_4), (x10_4), (true), (by first | rfl | (simp; done) | (simp [*]; done)), (by first | rfl | (simp; done) | (simp [*]; done)), (by first | rfl | (simp; done) | (simp [*]; done)), (by first | rfl | (simp; done) | (simp [*]; done)), (by first | rfl | (simp; done) | (simp [*]; done)), H', ⟨by have := HJ2.out; have := HJ69.out; have := HJ71.out; have := HK4.out; omega⟩, by repeat (first | exact Drawn0.refl _ | apply Drawn0.step)⟩
                            · replace c76 := Bool.eq_false_iff.mpr c76
                              subst c76
                              have H1 : (if (x9_4 < (-4611686018427387904)) then (leatref01_Mul.l0 k4 false (wrap64 (Int.tdiv x7_4 2)) x8_4 x9_4 x10_4 (decide (x9_4 < (-4611686018427387904)))) else (leatref01_Mul.l0 k4 false (wrap64 (Int.tdiv x7_4 2)) x8_4 (wrap64 (x9_4 * 2)) x10_4 (decide (x9_4 < (-4611686018427387904))))) = some r := by rw [if_neg (show ¬ (false = true) by decide)] at H; exact H
                              clear H
                              have H := H1
                              clear H1
                              by_cases c77 : (x9_4 < (-4611686018427387904))
                              · rw [if_pos c77] at H
                                have c77b0 : decide (x9_4 < (-4611686018427387904)) = true := decide_eq_true c77
                                clear c77
                                have H' := Aside0.mk H
                                clear H
                                go_wp2
                                go_roundg k4
                                case measure => have := HJ2.out; have := HJ69.out; have := HJ71.out; have := HK4.out; omega
                                case rel => exact ⟨(wrap64 (Int.tdiv x7_4 2)), (x8_4), (x9_4), (x10_4), (decide (x9_4 < (-4611686018427387904))), (by first | rfl | (simp; done) | (simp [*]; done)), (by first | rfl | (simp; done) | (simp [*]; done)), (by first | rfl | (simp; done) | (simp [*]; done)), (by first | rfl | (simp; done) | (simp [*]; done)), (by first | rfl | (simp; done) | (simp [*]; done)), H', ⟨by have := HJ2.out; have := HJ69.out; have := HJ71.out; have := HK4.out; omega⟩, by repeat (first | exact Drawn0.refl _ | apply Drawn0.step)⟩
                              · rw [if_neg c77] at H
                                have c77b0 : decide (x9_4 < (-4611686018427387904)) = false := decide_eq_false c77
                                clear c77
                                have H' := Aside0.mk H
                                clear H
                                go_wp2
                                go_roundg k4
                                case measure => have := HJ2.out; have := HJ69.out; have := HJ71.out; have := HK4.out; omega
                                case rel => exact ⟨(wrap64 (Int.tdiv x7_4 2)), (x8_4), (wrap64 (x9_4 * 2)), (x10_4), (decide (x9_4 < (-4611686018427387904))), (by first | rfl | (simp; done) | (simp [*]; done)), (by first | rfl | (simp; done) | (simp [*]; done)), (by first | rfl | (simp; done) | (simp [*]; done)), (by first | rfl | (simp; done) | (simp [*]; done)), (by first | rfl | (simp; done) | (simp [*]; done)), H', ⟨by have := HJ2.out; have := HJ69.out; have := HJ71.out; have := HK4.out; omega⟩, by repeat (first | exact Drawn0.refl _ | apply Drawn0.step)⟩
                          · rw [if_neg c75] at H
                            have c75b0 : ((Int.tmod x7_4 2) == 0) = false := beq_eq_false_iff_ne.mpr c75
                            have c75b1 : ((Int.tmod x7_4 2) != 0) = true := bne_iff_ne.mpr c75
                            have HC78 := Aside0.mk H
                            clear H
                            go_upto_region 13 with (fail)
                            go_cut [10] (fun v10 wc => ∃ (kq : Nat) (x10_77 : Bool), v10 = .bool x10_77 ∧ Aside0 (leatref01_Mul.j4 kq false x7_4 x8_4 x9_4 x10_77 x11_4 = some r) ∧ Aside0 (kq ≤ k4) ∧ Drawn0 w wc)
                            case first =>
                              have H := HC78.out
                              clear HC78
                              by_cases c79 : x10_4 = true
                              · subst c79
                                have H1 : (leatref01_Mul.j4 k4 false x7_4 x8_4 x9_4 true x11_4) = some r := by rw [if_pos rfl] at H; exact H
                                clear H
                                have H := H1
                                clear H1
                                have H' := Aside0.mk H
                                clear H
                                go_wp2
                                go_meet
                                case rel => exact ⟨_, (true), (by first | rfl | (simp; done) | (simp [*]; done)), H', ⟨by have := HJ2.out; have := HJ69.out; have := HJ71.out; have := HK4.out; first | omega | exact Nat.le_refl _⟩, by repeat (first | exact Drawn0.refl _ | apply Drawn0.step)⟩
                              · replace c79 := Bool.eq_false_iff.mpr c79
                                subst c79
                                have H1 : (if x11_4 = true then (leatref01_Mul.j4 k4 false x7_4 x8_4 x9_4 true x11_4) else (leatref01_Mul.j4 k4 false x7_4 x8_4 x9_4 (decide (x8_4 < (wrap64 ((-9223372036854775808) - x9_4)))) x11_4)) = some r := by rw [if_neg (show ¬ (false = true) by decide)] at H; exact H
                                clear H
                                have H := H1
                                clear H1
                                by_cases c80 : x11_4 = true
                                · subst c80
                                  have H1 : (leatref01_Mul.j4 k4 false x7_4 x8_4 x9_4 true true) = some r := by rw [if_pos rfl] at H; exact H
                                  clear H
                                  have H := H1
                                  clear H1
                                  have H' := Aside0.mk H
                                  clear H
                                  go_wp2
                                  go_meet
                                  case rel => exact ⟨_, (true), (by first | rfl | (simp; done) | (simp [*]; done)), H', ⟨by have := HJ2.out; have := HJ69.out; have := HJ71.out; have := HK4.out; first | omega | exact Nat.le_refl _⟩, by repeat (first | exact Drawn0.refl _ | apply Drawn0.step)⟩
                                · replace c80 := Bool.eq_false_iff.mpr c80
                                  subst c80
                                  have H1 : (leatref01_Mul.j4 k4 false x7_4 x8_4 x9_4 (decide (x8_4 < (wrap64 ((-9223372036854775808) - x9_4)))) false) = some r := by rw [if_neg (show ¬ (false = true) by decide)] at H; exact H
                                  clear H
                                  have H := H1
                                  clear H1
                                  have H' := Aside0.mk H
                                  clear H
                                  go_wp2
                                  go_meet
                                  case rel => exact ⟨_, (decide (x8_4 < (wrap64 ((-9223372036854775808) - x9_4)))), (by first | rfl | (simp; done) | (simp [*]; done)), H', ⟨by have := HJ2.out; have := HJ69.out; have := HJ71.out; have := HK4.out; first | omega | exact Nat.le_refl _⟩, by repeat (first | exact Drawn0.refl _ | apply Drawn0.step)⟩
                            case rest =>
                              clear HC78
                              try clear c1
                              try clear c2
                              try clear p2
                              try clear c3
                              try clear c4
                              try clear c4b0
                              try clear c4b1
                              try clear c5
                              try clear c6
                              try clear c6b0
                              try clear p6
                              try clear c7
                              try clear c7b0
                              try clear c8
                              try clear c9
                              try clear c9b0
                              try clear c11
                              try clear c11b0
                              try clear c12
                              try clear c12b0
                              try clear c13
                              try clear c13b0
                              try clear c13b1
                              try clear c14
                              try clear c15
                              try clear c15b0
                              try clear c17
                              try clear c18
                              try clear c19
                              try clear c20
                              try clear c21
                              try clear c21b0
                              try clear c22
                              try clear c23
                              try clear c23b0
                              try clear c25
                              try clear c26
                              try clear c27
                              try clear c28
                              try clear c29
                              try clear c30
                              try clear c30b0
                              try clear c32
                              try clear c32b0
                              try clear c33
                              try clear c33b0
                              try clear c34
                              try clear c34b0
                              try clear c34b1
                              try clear c35
                              try clear c36
                              try clear c36b0
                              try clear c38
                              try clear c39
                              try clear c40
                              try clear c41
                              try clear c42
                              try clear c42b0
                              try clear c43
                              try clear c44
                              try clear c44b0
                              try clear c46
                              try clear c47
                              try clear c48
                              try clear c49
                              try clear c49b0
                              try clear c51
                              try clear c51b0
                              try clear c53
                              try clear c53b0
                              try clear c54
                              try clear c54b0
                              try clear c55
                              try clear c55b0
                              try clear c55b1
                              try clear c56
                              try clear c57
                              try clear c57b0
                              try clear c59
                              try clear c60
                              try clear c61
                              try clear c62
                              try clear c63
                              try clear c63b0
                              try clear c64
                              try clear p64
                              try clear c65
                              try clear c65b0
                              try clear c67
                              try clear c68
                              try clear c69
                              try clear c71
                              try clear c71b0
                              try clear c73
                              try clear c73b0
                              try clear c74
                              try clear c74b0
                              try clear c75
                              try clear c75b0
                              try clear c75b1
                              try clear c76
                              try clear c77
                              try clear c77b0
                              try clear c79
                              try clear c80
                              try clear p2
                              try clear p6
                              try clear p64
                              obtain ⟨kq, x10_77, rfl, HA, HJ77, ⟨mc77, rfl⟩⟩ := hcut
                              cases kq with
                              | zero => exact absurd HA.out (by simp [leatref01_Mul.j4])
                              | succ kj77 =>
                                have H := HA.out
                                clear HA
                                simp only [leatref01_Mul.j4] at H
                                by_cases c81 : x10_77 = true
                                · subst c81
                                  have H1 : (if x11_4 = true then (leatref01_Mul.l0 kj77 false (wrap64 (Int.tdiv x7_4 2)) x8_4 x9_4 true true) else (if (x9_4 < (-4611686018427387904)) then (leatref01_Mul.l0 kj77 false (wrap64 (Int.tdiv x7_4 2)) x8_4 x9_4 true (decide (x9_4 < (-4611686018427387904)))) else (leatref01_Mul.l0 kj77 false (wrap64 (Int.tdiv x7_4 2)) x8_4 (wrap64 (x9_4 * 2)) true (decide (x9_4 < (-4611686018427387904)))))) = some r := by rw [if_pos rfl] at H; exact H
                                  clear H
                                  have H := H1
                                  clear H1
                                  by_cases c82 : x11_4 = true
                                  · subst c82
                                    have H1 : (leatref01_Mul.l0 kj77 false (wrap64 (Int.tdiv x7_4 2)) x8_4 x9_4 true true) = some r := by rw [if_pos rfl] at H; exact H
                                    clear H
                                    have H := H1
                                    clear H1
                                    have H' := Aside0.mk H
                                    clear H
                                    go_wp2
                                    go_roundg kj77
                                    case measure => have := HJ2.out; have := HJ69.out; have := HJ71.out; have := HK4.out; have := HJ77.out; omega
                                    case rel => exact ⟨(wrap64 (Int.tdiv x7_4 2)), (x8_4), (x9_4), (true), (true), (by first | rfl | (simp; done) | (simp [*]; done)), (by first | rfl | (simp; done) | (simp [*]; done)), (by first | rfl | (simp; done) | (simp [*]; done)), (by first | rfl | (simp; done) | (simp [*]; done)), (by first | rfl | (simp; done) | (simp [*]; done)), H', ⟨by have := HJ2.out; have := HJ69.out; have := HJ71.out; have := HK4.out; have := HJ77.out; omega⟩, by repeat (first | exact Drawn0.refl _ | apply Drawn0.step)⟩
                                  · replace c82 := Bool.eq_false_iff.mpr c82
                                    subst c82
                                    have H1 : (if (x9_4 < (-4611686018427387904)) then (leatref01_Mul.l0 kj77 false (wrap64 (Int.tdiv x7_4 2)) x8_4 x9_4 true (decide (x9_4 < (-4611686018427387904)))) else (leatref01_Mul.l0 kj77 false (wrap64 (Int.tdiv x7_4 2)) x8_4 (wrap64 (x9_4 * 2)) true (decide (x9_4 < (-4611686018427387904))))) = some r := by rw [if_neg (show ¬ (false = true) by decide)] at H; exact H
                                    clear H
                                    have H := H1
                                    clear H1
                                    by_cases c83 : (x9_4 < (-4611686018427387904))
                                    · rw [if_pos c83] at H
                                      have c83b0 : decide (x9_4 < (-4611686018427387904)) = true := decide_eq_true c83
                                      clear c83
                                      have H' := Aside0.mk H
                                      clear H
                                      go_wp2
                                      go_roundg kj77
                                      case measure => have := HJ2.out; have := HJ69.out; have := HJ71.out; have := HK4.out; have := HJ77.out; omega
                                      case rel => exact ⟨(wrap64 (Int.tdiv x7_4 2)), (x8_4), (x9_4), (true), (decide (x9_4 < (-4611686018427387904))), (by first | rfl | (simp; done) | (simp [*]; done)), (by first | rfl | (simp; done) | (simp [*]; done)), (by first | rfl | (simp; done) | (simp [*]; done)), (by first | rfl | (simp; done) | (simp [*]; done)), (by first | rfl | (simp; done) | (simp [*]; done)), H', ⟨by have := HJ2.out; have := HJ69.out; have := HJ71.out; have := HK4.out; have := HJ77.out; omega⟩, by repeat (first | exact Drawn0.refl _ | apply Drawn0.step)⟩
                                    · rw [if_neg c83] at H
                                      have c83b0 : decide (x9_4 < (-4611686018427387904)) = false := decide_eq_false c83
                                      clear c83
                                      have H' := Aside0.mk H
                                      clear H
                                      go_wp2
                                      go_roundg kj77
                                      case measure => have := HJ2.out; have := HJ69.out; have := HJ71.out; have := HK4.out; have := HJ77.out; omega
                                      case rel => exact ⟨(wrap64 (Int.tdiv x7_4 2)), (x8_4), (wrap64 (x9_4 * 2)), (true), (decide (x9_4 < (-4611686018427387904))), (by first | rfl | (simp; done) | (simp [*]; done)), (by first | rfl | (simp; done) | (simp [*]; done)), (by first | rfl | (simp; done) | (simp [*]; done)), (by first | rfl | (simp; done) | (simp [*]; done)), (by first | rfl | (simp; done) | (simp [*]; done)), H', ⟨by have := HJ2.out; have := HJ69.out; have := HJ71.out; have := HK4.out; have := HJ77.out; omega⟩, by repeat (first | exact Drawn0.refl _ | apply Drawn0.step)⟩
                                · replace c81 := Bool.eq_false_iff.mpr c81
                                  subst c81
                                  have H1 : (if x11_4 = true then (leatref01_Mul.l0 kj77 false (wrap64 (Int.tdiv x7_4 2)) (wrap64 (x8_4 + x9_4)) x9_4 false true) else (if (x9_4 < (-4611686018427387904)) then (leatref01_Mul.l0 kj77 false (wrap64 (Int.tdiv x7_4 2)) (wrap64 (x8_4 + x9_4)) x9_4 false (decide (x9_4 < (-4611686018427387904)))) else (leatref01_Mul.l0 kj77 false (wrap64 (Int.tdiv x7_4 2)) (wrap64 (x8_4 + x9_4)) (wrap64 (x9_4 * 2)) false (decide (x9_4 < (-4611686018427387904)))))) = some r := by rw [if_neg (show ¬ (false = true) by decide)] at H; exact H
                                  clear H
                                  have H := H1
                                  clear H1
                                  by_cases c84 : x11_4 = true
                                  · subst c84
                                    have H1 : (leatref01_Mul.l0 kj77 false (wrap64 (Int.tdiv x7_4 2)) (wrap64 (x8_4 + x9_4)) x9_4 false true) = some r := by rw [if_pos rfl] at H; exact H
                                    clear H
                                    have H := H1
                                    clear H1
                                    have H' := Aside0.mk H
                                    clear H
                                    go_wp2
                                    go_roundg kj77
                                    case measure => have := HJ2.out; have := HJ69.out; have := HJ71.out; have := HK4.out; have := HJ77.out; omega
                                    case rel => exact ⟨(wrap64 (Int.tdiv x7_4 2)), (wrap64 (x8_4 + x9_4)), (x9_4), (false), (true), (by first | rfl | (simp; done) | (simp [*]; done)), (by first | rfl | (simp; done) | (simp [*]; done)), (by first | rfl | (simp; done) | (simp [*]; done)), (by first | rfl | (simp; done) | (simp [*]; done)), (by first | rfl | (simp; done) | (simp [*]; done)), H', ⟨by have := HJ2.out; have := HJ69.out; have := HJ71.out; have := HK4.out; have := HJ77.out; omega⟩, by repeat (first | exact Drawn0.refl _ | apply Drawn0.step)⟩
                                  · replace c84 := Bool.eq_false_iff.mpr c84
                                    subst c84
                                    have H1 : (if (x9_4 < (-4611686018427387904)) then (leatref01_Mul.l0 kj77 false (wrap64 (Int.tdiv x7_4 2)) (wrap64 (x8_4 + x9_4)) x9_4 false (decide (x9_4 < (-4611686018427387904)))) else (leatref01_Mul.l0 kj77 false (wrap64 (Int.tdiv x7_4 2)) (wrap64 (x8_4 + x9_4)) (wrap64 (x9_4 * 2)) false (decide (x9_4 < (-4611686018427387904))))) = some r := by rw [if_neg (show ¬ (false = true) by decide)] at H; exact H
                                    clear H
                                    have H := H1
                                    clear H1
                                    by_cases c85 : (x9_4 < (-4611686018427387904))
                                    · rw [if_pos c85] at H
                                      have c85b0 : decide (x9_4 < (-4611686018427387904)) = true := decide_eq_true c85
                                      clear c85
                                      have H' := Aside0.mk H
                                      clear H
                                      go_wp2
                                      go_roundg kj77
                                      case measure => have := HJ2.out; have := HJ69.out; have := HJ71.out; have := HK4.out; have := HJ77.out; omega
                                      case rel => exact ⟨(wrap64 (Int.tdiv x7_4 2)), (wrap64 (x8_4 + x9_4)), (x9_4), (false), (decide (x9_4 < (-4611686018427387904))), (by first | rfl | (simp; done) | (simp [*]; done)), (by first | rfl | (simp; done) | (simp [*]; done)), (by first | rfl | (simp; done) | (simp [*]; done)), (by first | rfl | (simp; done) | (simp [*]; done)), (by first | rfl | (simp; done) | (simp [*]; done)), H', ⟨by have := HJ2.out; have := HJ69.out; have := HJ71.out; have := HK4.out; have := HJ77.out; omega⟩, by repeat (first | exact Drawn0.refl _ | apply Drawn0.step)⟩
                                    · rw [if_neg c85] at H
                                      have c85b0 : decide (x9_4 < (-4611686018427387904)) = false := decide_eq_false c85
                                      clear c85
                                      have H' := Aside0.mk H
                                      clear H
                                      go_wp2
                                      go_roundg kj77
                                      case measure => have := HJ2.out; have := HJ69.out; have := HJ71.out; have := HK4.out; have := HJ77.out; omega
                                      case rel => exact ⟨(wrap64 (Int.tdiv x7_4 2)), (wrap64 (x8_4 + x9_4)), (wrap64 (x9_4 * 2)), (false), (decide (x9_4 < (-4611686018427387904))), (by first | rfl | (simp; done) | (simp [*]; done)), (by first | rfl | (simp; done) | (simp [*]; done)), (by first | rfl | (simp; done) | (simp [*]; done)), (by first | rfl | (simp; done) | (simp [*]; done)), (by first | rfl | (simp; done) | (simp [*]; done)), H', ⟨by have := HJ2.out; have := HJ69.out; have := HJ71.out; have := HK4.out; have := HJ77.out; omega⟩, by repeat (first | exact Drawn0.refl _ | apply Drawn0.step)⟩
                        · rw [if_neg c74] at H
                          have c74b0 : decide (x7_4 < 0) = false := decide_eq_false c74
                          clear c74
                          have HC86 := Aside0.mk H
                          clear H
                          go_upto_region 20 with (fail)
                          go_cut [68] (fun v68 wc => ∃ (kq : Nat) (x68_85 : Bool), v68 = .bool x68_85 ∧ Aside0 (leatref01_Mul.j5 kq false x8_4 x10_4 x68_85 = some r) ∧ Aside0 (kq ≤ k4) ∧ Drawn0 w wc)
                          case first =>
                            have H := HC86.out
                            clear HC86
                            by_cases c87 : x10_4 = true
                            · subst c87
                              have H1 : (leatref01_Mul.j5 k4 false x8_4 true false) = some r := by rw [if_pos rfl] at H; exact H
                              clear H
                              have H := H1
                              clear H1
                              have H' := Aside0.mk H
                              clear H
                              go_wp2
                              go_meet
                              case rel => exact ⟨_, (false), (by first | rfl | (simp; done) | (simp [*]; done)), H', ⟨by have := HJ2.out; have := HJ69.out; have := HJ71.out; have := HK4.out; first | omega | exact Nat.le_refl _⟩, by repeat (first | exact Drawn0.refl _ | apply Drawn0.step)⟩
                            · replace c87 := Bool.eq_false_iff.mpr c87
                              subst c87
                              have H1 : (leatref01_Mul.j5 k4 false x8_4 false false) = some r := by rw [if_neg (show ¬ (false = true) by decide)] at H; exact H
                              clear H
                              have H := H1
                              clear H1
                              have H' := Aside0.mk H
                              clear H
                              go_wp2
                              go_meet
                              case rel => exact ⟨_, (false), (by first | rfl | (simp; done) | (simp [*]; done)), H', ⟨by have := HJ2.out; have := HJ69.out; have := HJ71.out; have := HK4.out; first | omega | exact Nat.le_refl _⟩, by repeat (first | exact Drawn0.refl _ | apply Drawn0.step)⟩
                          case rest =>
                            clear HC86
                            try clear c1
                            try clear c2
                            try clear p2
                            try clear c3
                            try clear c4
                            try clear c4b0
                            try clear c4b1
                            try clear c5
                            try clear c6
                            try clear c6b0
                            try clear p6
                            try clear c7
                            try clear c7b0
                            try clear c8
                            try clear c9
                            try clear c9b0
                            try clear c11
                            try clear c11b0
                            try clear c12
                            try clear c12b0
                            try clear c13
                            try clear c13b0
                            try clear c13b1
                            try clear c14
                            try clear c15
                            try clear c15b0
                            try clear c17
                            try clear c18
                            try clear c19
                            try clear c20
                            try clear c21
                            try clear c21b0
                            try clear c22
                            try clear c23
                            try clear c23b0
                            try clear c25
                            try clear c26
                            try clear c27
                            try clear c28
                            try clear c29
                            try clear c30
                            try clear c30b0
                            try clear c32
                            try clear c32b0
                            try clear c33
                            try clear c33b0
                            try clear c34
                            try clear c34b0
                            try clear c34b1
                            try clear c35
                            try clear c36
                            try clear c36b0
                            try clear c38
                            try clear c39
                            try clear c40
                            try clear c41
                            try clear c42
                            try clear c42b0
                            try clear c43
                            try clear c44
                            try clear c44b0
                            try clear c46
                            try clear c47
                            try clear c48
                            try clear c49
                            try clear c49b0
                            try clear c51
                            try clear c51b0
                            try clear c53
                            try clear c53b0
                            try clear c54
                            try clear c54b0
                            try clear c55
                            try clear c55b0
                            try clear c55b1
                            try clear c56
                            try clear c57
                            try clear c57b0
                            try clear c59
                            try clear c60
                            try clear c61
                            try clear c62
                            try clear c63
                            try clear c63b0
                            try clear c64
                            try clear p64
                            try clear c65
                            try clear c65b0
                            try clear c67
                            try clear c68
                            try clear c69
                            try clear c71
                            try clear c71b0
                            try clear c73
                            try clear c73b0
                            try clear c74
                            try clear c74b0
                            try clear c75
                            try clear c75b0
                            try clear c75b1
                            try clear c76
                            try clear c77
                            try clear c77b0
                            try clear c79
                            try clear c80
                            try clear c81
                            try clear c82
                            try clear c83
                            try clear c83b0
                            try clear c84
                            try clear c85
                            try clear c85b0
                            try clear c87
                            try clear p2
                            try clear p6
                            try clear p64
                            obtain ⟨kq, x68_85, rfl, HA, HJ85, ⟨mc85, rfl⟩⟩ := hcut
                            cases kq with
                            | zero => exact absurd HA.out (by simp [leatref01_Mul.j5])
                            | succ kj85 =>
                              have H := HA.out
                              clear HA
                              simp only [leatref01_Mul.j5] at H
                              by_cases c88 : x68_85 = true
                              · subst c88
                                have H1 : (some (-9223372036854775808)) = some r := by rw [if_pos rfl] at H; exact H
                                clear H
                                have H := H1
                                clear H1
                                obtain rfl := Option.some.inj H
                                go_wp2
                                go_ret
                                exact ⟨by first | rfl | (simp; done) | (simp [*]; done), by repeat (first | exact Drawn0.refl _ | apply Drawn0.step)⟩
                              · replace c88 := Bool.eq_false_iff.mpr c88
                                subst c88
                                have H1 : (if x10_4 = true then (some 9223372036854775807) else (if false = true then (some x8_4) else ((leatref01_Neg.f x8_4).bind fun t117 => (some t117)))) = some r := by rw [if_neg (show ¬ (false = true) by decide)] at H; exact H
                                clear H
                                have H := H1
                                clear H1
                                by_cases c89 : x10_4 = true
                                · subst c89
                                  have H1 : (some 9223372036854775807) = some r := by rw [if_pos rfl] at H; exact H
                                  clear H
                                  have H := H1
                                  clear H1
                                  obtain rfl := Option.some.inj H
                                  go_wp2
                                  go_ret
                                  exact ⟨by first | rfl | (simp; done) | (simp [*]; done), by repeat (first | exact Drawn0.refl _ | apply Drawn0.step)⟩
                                · replace c89 := Bool.eq_false_iff.mpr c89
                                  subst c89
                                  have H1 : (if false = true then (some x8_4) else ((leatref01_Neg.f x8_4).bind fun t117 => (some t117))) = some r := by rw [if_neg (show ¬ (false = true) by decide)] at H; exact H
                                  clear H
                                  have H := H1
                                  clear H1
                                  have H1 : ((leatref01_Neg.f x8_4).bind fun t117 => (some t117)) = some r := by rw [if_neg (show ¬ (false = true) by decide)] at H; exact H
                                  clear H
                                  have H := H1
                                  clear H1
                                  replace H := Option.bind_eq_some_iff.mp H
                                  obtain ⟨t117, A900, H⟩ := H
                                  replace H : (some t117) = some r := H
                                  have A90 := Aside0.mk A900
                                  clear A900
                                  obtain rfl := Option.some.inj H
                                  go_wp2_with (first | ((with_reducible refine gate_callee (f := 29) rfl ?_); refine goesL_ (some 73) rfl rfl Try.func29 (by kernel_rfl) rfl #[.int .i64 x8_4] rfl (by (try simp only [List.map_toArray, List.map_cons, List.map_nil]); first | done | rfl | (simp only [List.length_drop, List.length_take]; rfl)) ?_; (with_reducible refine (leatref01_Neg.calls x8_4 t117 _ A90.out).mono ?_); rintro e w' ⟨rfl, ⟨nd, rfl⟩⟩; refine ⟨_, rfl, ?_⟩))
                                  go_ret
                                  exact ⟨by first | rfl | (simp; done) | (simp [*]; done), by repeat (first | exact Drawn0.refl _ | apply Drawn0.step)⟩

end Go.Proofs.Ytdfbnbhhjhfdaaa.PSatMuls
