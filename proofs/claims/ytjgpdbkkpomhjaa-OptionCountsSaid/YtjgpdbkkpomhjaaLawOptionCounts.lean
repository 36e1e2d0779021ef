/- A law's row over its contract. Written by a small program of this session. Conditions: none. -/
import Derived.Test.YtjgpdbkkpomhjaaRows
import Derived.Test.YtjgpdbkkpomhjaaXO3
import Derived.Test.YtjgpdbkkpomhjaaXRA
import Derived.Test.YtjgpdbkkpomhjaaXR
import Derived.Test.YtjgpdbkkpomhjaaXF
import Derived.WalkKit
import Derived.ProofKit
import Derived.OpenShut
import Derived.ShutString
import Derived.ChangeOld
import Derived.Below
import Derived.SizedLaws
namespace Go.Proofs.Ytjgpdbkkpomhjaa.optionCounts
open Go.ChangeShapes Go.WideShapes Go.ChangeAt Go.RowKit
open Go.ChangeMaps (open_string shut_string)
open Go.Proofs.YtjgpdbkkpomhjaaX Go.Proofs.YtjgpdbkkpomhjaaX.Whole
set_option linter.unusedVariables false
set_option maxRecDepth 100000
theorem own : ownKnob Try.prog.godebug = none := by kernel_rfl
set_option maxHeartbeats 1000000 in
theorem lifted (os : Os) (started : os.Started) (H : Type) (enc : TypeId × Value → H) :
    ReturnsInHanded {} Try.checked os 12 .any (Rows.optionCountsSpec.pre6 enc Try.prog Try.f12 Rows.optionCountsRow.domain false) (Rows.optionCountsSpec.post enc Try.prog Try.f12 false true false false) := by
  refine returnsInHanded_of_change_sized (C := Try.checked) own started (by kernel_rfl) Try.func12
    (ChangeSpec.witness6 (enc := enc) (C := Try.checked) false ⟨#[], #[.agg #[.int .i64 0, .slice none 0 0, .string .empty], .agg #[.int .i64 0, .int .i64 0, .int .i64 0], .agg #[.int .i64 0, .int .i64 0]], []⟩ 8 (by kernel_rfl) (by kernel_rfl) (by kernel_rfl) (by kernel_rfl)) ?_
  intro W base args ds gs before hval0 hW hcnd hsz0 _
  have hsz : (DataW.weightsEach Try.prog (Try.f12.params.toList ++ Rows.optionCountsSpec.plain.varTypes Try.prog) (ds ++ gs)).all (· ≤ reachBytes) = true := hsz0
  have hval : ∀ (j : Nat) t v, Try.f12.params[j]? = some t → args[j]? = some v → Value.okWide Try.prog W .any base t v := hval0
  have hW' := hW
  obtain ⟨p, q, hA0, hV, rfl, hfz, hnd⟩ := hW
  have hA : DataW.TrodAll enc Try.prog W 0 (fun _ => true) true Try.f12.params.toList args.toList ds p := hA0
  rw [Try.params12] at hA hval hsz
  obtain ⟨v0, vs0, d0, ds0, p0, q0, hargs, rfl, rfl, h0, r0⟩ := trodAll_cons hA
  obtain ⟨v1, vs1, d1, ds1, p1, q1, rfl, rfl, rfl, h1, r1⟩ := trodAll_cons r0
  obtain ⟨v2, vs2, d2, ds2, p2, q2, rfl, rfl, rfl, h2, r2⟩ := trodAll_cons r1
  obtain ⟨rfl, rfl, rfl⟩ := trodAll_nil r2
  obtain rfl : args = #[v0, v1, v2] := by cases args; simp_all
  obtain ⟨rfl, rfl⟩ := trodVars_none hV
  have k0 := h0
  have lt0 : ∀ x ∈ p0, x.block < W.heap.size := by obtain ⟨m, hm⟩ := k0; exact DataW.trod_lt m _ _ _ hm
  have k1 := h1
  have lt1 : ∀ x ∈ p1, x.block < W.heap.size := by obtain ⟨m, hm⟩ := k1; exact DataW.trod_lt m _ _ _ hm
  have k2 := h2
  have lt2 : ∀ x ∈ p2, x.block < W.heap.size := by obtain ⟨m, hm⟩ := k2; exact DataW.trod_lt m _ _ _ hm
  obtain ⟨cs0, rfl, _⟩ := okWide_struct (show Try.prog.underlying 65 = some (.struct (fsIn Try.prog 65)) by kernel_rfl) (hval 0 65 v0 rfl rfl)
  obtain ⟨⟨y00, y01, y02⟩, hx0⟩ := Reads.trod (d := (D.pair (D.int .i64) (D.pair (D.slice (D.int .u32)) D.str))) (Reads.struct (fs := fsIn Try.prog 65) (by kernel_rfl) (by kernel_rfl) (by rw [show (fsIn Try.prog 65).toList = [fld Try.prog 65 0, fld Try.prog 65 1, fld Try.prog 65 2] by kernel_rfl]; exact (ReadsFs.cons (by kernel_rfl) (by kernel_rfl) (Reads.int (show Try.prog.underlying (fld Try.prog 65 0).type = some (.int .i64) by kernel_rfl)) (ReadsFs.cons (by kernel_rfl) (by kernel_rfl) (Reads.slice (show Try.prog.underlying (fld Try.prog 65 1).type = some (.slice 29) by kernel_rfl) (by kernel_rfl) (Reads.int (show Try.prog.underlying 29 = some (.int .u32) by kernel_rfl))) (ReadsFs.one (by kernel_rfl) (by kernel_rfl) (Reads.str (show Try.prog.underlying (fld Try.prog 65 2).type = some .string by kernel_rfl))))))) h0
  obtain ⟨_, _, ee0, ⟨rfl, ly00, uy00⟩, ⟨_, _, rfl, ⟨Ay01, cy01, rfl, ey01, my01, ry01⟩, ⟨rfl, zy02⟩⟩⟩ := hx0
  obtain rfl : cs0 = #[.int .i64 y00, .slice Ay01 y01.length cy01, .string y02] := Array.toList_inj.mp (by simpa [Value.cells] using ee0)
  simp only [IntKind.lo, IntKind.hi] at ly00 uy00
  obtain ⟨cs1, rfl⟩ : ∃ cs, v1 = .agg cs := by
    have h_ := hval 1 70 v1 rfl rfl
    simp only [Value.okWide, show Try.prog.underlying 70 = some (.array 3 2) by kernel_rfl] at h_
    obtain ⟨cs, h1, _⟩ := h_
    exact ⟨cs, h1⟩
  obtain ⟨y1, hx1⟩ := Reads.trod (d := (D.arr 3 (D.int .i64))) (Reads.arr (show Try.prog.underlying 70 = some (.array 3 2) by kernel_rfl) (by kernel_rfl) (by kernel_rfl) (Reads.int (show Try.prog.underlying 2 = some (.int .i64) by kernel_rfl))) h1
  obtain ⟨y10, y11, y12, ky10, ky11, ky12, rfl, ey1, qy10, qy11, qy12⟩ := arr3 hx1
  obtain ⟨rfl, ly10, uy10⟩ := qy10
  obtain ⟨rfl, ly11, uy11⟩ := qy11
  obtain ⟨rfl, ly12, uy12⟩ := qy12
  have ee1 : cs1.toList = _ := ey1
  obtain rfl : cs1 = #[.int .i64 y10, .int .i64 y11, .int .i64 y12] := Array.toList_inj.mp (by simpa [Value.cells] using ee1)
  simp only [IntKind.lo, IntKind.hi] at ly10 uy10 ly11 uy11 ly12 uy12
  obtain ⟨cs2, rfl⟩ : ∃ cs, v2 = .agg cs := by
    have h_ := hval 2 71 v2 rfl rfl
    simp only [Value.okWide, show Try.prog.underlying 71 = some (.array 2 3) by kernel_rfl] at h_
    obtain ⟨cs, h1, _⟩ := h_
    exact ⟨cs, h1⟩
  obtain ⟨y2, hx2⟩ := Reads.trod (d := (D.arr 2 (D.int .i64))) (Reads.arr (show Try.prog.underlying 71 = some (.array 2 3) by kernel_rfl) (by kernel_rfl) (by kernel_rfl) (Reads.int (show Try.prog.underlying 3 = some (.int .i64) by kernel_rfl))) h2
  obtain ⟨y20, y21, ky20, ky21, rfl, ey2, qy20, qy21⟩ := arr2 hx2
  obtain ⟨rfl, ly20, uy20⟩ := qy20
  obtain ⟨rfl, ly21, uy21⟩ := qy21
  have ee2 : cs2.toList = _ := ey2
  obtain rfl : cs2 = #[.int .i64 y20, .int .i64 y21] := Array.toList_inj.mp (by simpa [Value.cells] using ee2)
  simp only [IntKind.lo, IntKind.hi] at ly20 uy20 ly21 uy21
  clear hA0 hval0 hsz0
  refine (CallsG.close (OptionCounts_ok y00 Ay01 cy01 y01 y02 y10 y11 y12 y20 y21 ⟨ly10, uy10⟩ ⟨ly11, uy11⟩ ⟨ly12, uy12⟩ ⟨ly20, uy20⟩ ⟨ly21, uy21⟩ _ ry01 ey01 my01)).mono fun e W' ⟨he, bel⟩ => ?_
  subst he
  exact ⟨_, rfl, _, _, _, [], _, [], hW', trodAll_mk1 (shut_bool (show Try.prog.underlying 4 = some .bool by kernel_rfl) _), (trodAll_cons_mk (Below.trod laidOut (by kernel_rfl) (of_decide_eq_true (by kernel_rfl)) k0 bel lt0) (trodAll_cons_mk (Below.trod laidOut (by kernel_rfl) (of_decide_eq_true (by kernel_rfl)) k1 bel lt1) (trodAll_cons_mk (Below.trod laidOut (by kernel_rfl) (of_decide_eq_true (by kernel_rfl)) k2 bel lt2) (trodAll_mk0)))), rfl, bel.frame _, fun h => by cases h⟩
theorem over : Rows.optionCountsRow.holds Try.pinned (OpenSpec.ofChange Rows.optionCountsSpec) :=
  OpenClaim.holds_of_wide 12 Try.f12 rfl rfl rfl rfl rfl rfl rfl ⟨rfl, rfl, rfl, rfl, rfl⟩ rfl rfl rfl rfl rfl (by kernel_rfl) Try.func12 (by unfold joinedFacts; rw [Whole.enters, Whole.lifts, Whole.makes]; kernel_rfl)
    (of_decide_eq_true (by kernel_rfl)) (by unfold Func.isWrapper; first | (rw [if_pos (by decide +kernel)]; kernel_rfl) | (rw [if_neg (by decide +kernel)]; exact ⟨rfl, rfl⟩))
    (fun os started H enc _ => lifted os started H enc)
theorem proved : Rows.OptionCountsSaid := over
#print axioms proved
end Go.Proofs.Ytjgpdbkkpomhjaa.optionCounts
namespace Go.Proofs.Ytjgpdbkkpomhjaa
/-- The row, under a short name, for the claim. -/
theorem optionCounts_holds : Rows.OptionCountsSaid := optionCounts.proved
end Go.Proofs.Ytjgpdbkkpomhjaa
