/- A law's row over its contract. Written by a small program of this session. Conditions: none. -/
import Derived.Test.YtjgpdbkkpomhjaaRows
import Derived.Test.YtjgpdbkkpomhjaaYG8
import Derived.Test.YtjgpdbkkpomhjaaYR
import Derived.Test.YtjgpdbkkpomhjaaXF
import Derived.WalkKit
import Derived.ProofKit
import Derived.OpenShut
import Derived.ShutString
import Derived.ChangeOld
import Derived.Below
import Derived.SizedLaws
namespace Go.Proofs.Ytjgpdbkkpomhjaa.segmentDecodes
open Go.ChangeShapes Go.WideShapes Go.ChangeAt Go.RowKit
open Go.ChangeMaps (open_string shut_string)
open Go.Proofs.YtjgpdbkkpomhjaaX Go.Proofs.YtjgpdbkkpomhjaaX.Whole
set_option linter.unusedVariables false
set_option maxRecDepth 100000
theorem own : ownKnob Try.prog.godebug = none := by kernel_rfl
set_option maxHeartbeats 1000000 in
theorem lifted (os : Os) (started : os.Started) (H : Type) (enc : TypeId × Value → H) :
    ReturnsInHanded {} Try.checked os 15 .any (Rows.segmentDecodesSpec.pre6 enc Try.prog Try.f15 Rows.segmentDecodesRow.domain false) (Rows.segmentDecodesSpec.post enc Try.prog Try.f15 false true false false) := by
  refine returnsInHanded_of_change_sized (C := Try.checked) own started (by kernel_rfl) Try.func15
    (ChangeSpec.witness6 (enc := enc) (C := Try.checked) false ⟨#[], #[.agg #[.int .u8 0, .int .u8 0, .int .u8 0, .int .u8 0, .int .u8 0, .int .u8 0, .int .u8 0, .int .u8 0], .slice none 0 0], []⟩ 8 (by kernel_rfl) (by kernel_rfl) (by kernel_rfl) (by kernel_rfl)) ?_
  intro W base args ds gs before hval0 hW hcnd hsz0 _
  have hsz : (DataW.weightsEach Try.prog (Try.f15.params.toList ++ Rows.segmentDecodesSpec.plain.varTypes Try.prog) (ds ++ gs)).all (· ≤ reachBytes) = true := hsz0
  have hval : ∀ (j : Nat) t v, Try.f15.params[j]? = some t → args[j]? = some v → Value.okWide Try.prog W .any base t v := hval0
  have hW' := hW
  obtain ⟨p, q, hA0, hV, rfl, hfz, hnd⟩ := hW
  have hA : DataW.TrodAll enc Try.prog W 0 (fun _ => true) true Try.f15.params.toList args.toList ds p := hA0
  rw [Try.params15] at hA hval hsz
  obtain ⟨v0, vs0, d0, ds0, p0, q0, hargs, rfl, rfl, h0, r0⟩ := trodAll_cons hA
  obtain ⟨v1, vs1, d1, ds1, p1, q1, rfl, rfl, rfl, h1, r1⟩ := trodAll_cons r0
  obtain ⟨rfl, rfl, rfl⟩ := trodAll_nil r1
  obtain rfl : args = #[v0, v1] := by cases args; simp_all
  obtain ⟨rfl, rfl⟩ := trodVars_none hV
  have k0 := h0
  have lt0 : ∀ x ∈ p0, x.block < W.heap.size := by obtain ⟨m, hm⟩ := k0; exact DataW.trod_lt m _ _ _ hm
  have k1 := h1
  have lt1 : ∀ x ∈ p1, x.block < W.heap.size := by obtain ⟨m, hm⟩ := k1; exact DataW.trod_lt m _ _ _ hm
  obtain ⟨cs0, rfl⟩ : ∃ cs, v0 = .agg cs := by
    have h_ := hval 0 56 v0 rfl rfl
    simp only [Value.okWide, show Try.prog.underlying 56 = some (.array 2 55) by kernel_rfl] at h_
    obtain ⟨cs, h1, _⟩ := h_
    exact ⟨cs, h1⟩
  obtain ⟨y0, hx0⟩ := Reads.trod (d := (D.arr 2 (D.arr 4 (D.int .u8)))) (Reads.arr (show Try.prog.underlying 56 = some (.array 2 55) by kernel_rfl) (by kernel_rfl) (by kernel_rfl) (Reads.arr (show Try.prog.underlying 55 = some (.array 4 5) by kernel_rfl) (by kernel_rfl) (by kernel_rfl) (Reads.int (show Try.prog.underlying 5 = some (.int .u8) by kernel_rfl)))) h0
  obtain ⟨y00, y01, ky00, ky01, rfl, ey0, qy00, qy01⟩ := arr2 hx0
  obtain ⟨y000, y001, y002, y003, ky000, ky001, ky002, ky003, rfl, rfl, qy000, qy001, qy002, qy003⟩ := arr4 qy00
  obtain ⟨rfl, ly000, uy000⟩ := qy000
  obtain ⟨rfl, ly001, uy001⟩ := qy001
  obtain ⟨rfl, ly002, uy002⟩ := qy002
  obtain ⟨rfl, ly003, uy003⟩ := qy003
  obtain ⟨y010, y011, y012, y013, ky010, ky011, ky012, ky013, rfl, rfl, qy010, qy011, qy012, qy013⟩ := arr4 qy01
  obtain ⟨rfl, ly010, uy010⟩ := qy010
  obtain ⟨rfl, ly011, uy011⟩ := qy011
  obtain ⟨rfl, ly012, uy012⟩ := qy012
  obtain ⟨rfl, ly013, uy013⟩ := qy013
  have ee0 : cs0.toList = _ := ey0
  obtain rfl : cs0 = #[.int .u8 y000, .int .u8 y001, .int .u8 y002, .int .u8 y003, .int .u8 y010, .int .u8 y011, .int .u8 y012, .int .u8 y013] := Array.toList_inj.mp (by simpa [Value.cells] using ee0)
  simp only [IntKind.lo, IntKind.hi] at ly000 uy000 ly001 uy001 ly002 uy002 ly003 uy003 ly010 uy010 ly011 uy011 ly012 uy012 ly013 uy013
  obtain ⟨a1, n1, c1, rfl⟩ := okWide_slice (show Try.prog.underlying 22 = some (.slice 5) by kernel_rfl) (hval 1 22 v1 rfl rfl)
  obtain ⟨x1, hx1⟩ := Reads.trod (Reads.slice (show Try.prog.underlying 22 = some (.slice 5) by kernel_rfl) (by kernel_rfl) (Reads.int (show Try.prog.underlying 5 = some (.int .u8) by kernel_rfl))) h1
  obtain ⟨A1, C1, e1, hle1, hmx1, hr1⟩ := hx1
  obtain ⟨rfl, rfl, rfl⟩ : a1 = A1 ∧ n1 = x1.length ∧ c1 = C1 := by simpa [Value.cells] using e1
  clear hA0 hval0 hsz0
  refine (CallsG.close (SegmentDecodes_ok ⟨y000, y001, y002, y003, y010, y011, y012, y013⟩ a1 c1 x1 _ (adOk ⟨⟨ly000, uy000⟩, ⟨ly001, uy001⟩, ⟨ly002, uy002⟩, ⟨ly003, uy003⟩, ⟨ly010, uy010⟩, ⟨ly011, uy011⟩, ⟨ly012, uy012⟩, ⟨ly013, uy013⟩⟩) hr1 hle1 hmx1)).mono fun e W' ⟨he, bel⟩ => ?_
  subst he
  exact ⟨_, rfl, _, _, _, [], _, [], hW', trodAll_mk1 (shut_bool (show Try.prog.underlying 4 = some .bool by kernel_rfl) _), (trodAll_cons_mk (Below.trod laidOut (by kernel_rfl) (of_decide_eq_true (by kernel_rfl)) k0 bel lt0) (trodAll_cons_mk (Below.trod laidOut (by kernel_rfl) (of_decide_eq_true (by kernel_rfl)) k1 bel lt1) (trodAll_mk0))), rfl, bel.frame _, fun h => by cases h⟩
theorem over : Rows.segmentDecodesRow.holds Try.pinned (OpenSpec.ofChange Rows.segmentDecodesSpec) :=
  OpenClaim.holds_of_wide 15 Try.f15 rfl rfl rfl rfl rfl rfl rfl ⟨rfl, rfl, rfl, rfl, rfl⟩ rfl rfl rfl rfl rfl (by kernel_rfl) Try.func15 (by unfold joinedFacts; rw [Whole.enters, Whole.lifts, Whole.makes]; kernel_rfl)
    (of_decide_eq_true (by kernel_rfl)) (by unfold Func.isWrapper; first | (rw [if_pos (by decide +kernel)]; kernel_rfl) | (rw [if_neg (by decide +kernel)]; exact ⟨rfl, rfl⟩))
    (fun os started H enc _ => lifted os started H enc)
theorem proved : Rows.SegmentDecodesSaid := over
#print axioms proved
end Go.Proofs.Ytjgpdbkkpomhjaa.segmentDecodes
namespace Go.Proofs.Ytjgpdbkkpomhjaa
/-- The row, under a short name, for the claim. -/
theorem segmentDecodes_holds : Rows.SegmentDecodesSaid := segmentDecodes.proved
end Go.Proofs.Ytjgpdbkkpomhjaa
