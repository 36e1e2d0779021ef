/- A law's row over its contract. Written by a small program of this session. Conditions: none. -/
import Derived.Test.YtjgpdbkkpomhjaaRows
import Derived.Test.YtjgpdbkkpomhjaaYG9
import Derived.Test.YtjgpdbkkpomhjaaYR
import Derived.Test.YtjgpdbkkpomhjaaXF
import Derived.WalkKit
import Derived.ProofKit
import Derived.OpenShut
import Derived.ShutString
import Derived.ChangeOld
import Derived.Below
import Derived.SizedLaws
namespace Go.Proofs.Ytjgpdbkkpomhjaa.segmentEncodes
open Go.ChangeShapes Go.WideShapes Go.ChangeAt Go.RowKit
open Go.ChangeMaps (open_string shut_string)
open Go.Proofs.YtjgpdbkkpomhjaaX Go.Proofs.YtjgpdbkkpomhjaaX.Whole
set_option linter.unusedVariables false
set_option maxRecDepth 100000
theorem own : ownKnob Try.prog.godebug = none := by kernel_rfl
set_option maxHeartbeats 1000000 in
theorem lifted (os : Os) (started : os.Started) (H : Type) (enc : TypeId × Value → H) :
    ReturnsInHanded {} Try.checked os 18 .any (Rows.segmentEncodesSpec.pre6 enc Try.prog Try.f18 Rows.segmentEncodesRow.domain false) (Rows.segmentEncodesSpec.post enc Try.prog Try.f18 false true false false) := by
  refine returnsInHanded_of_change_sized (C := Try.checked) own started (by kernel_rfl) Try.func18
    (ChangeSpec.witness6 (enc := enc) (C := Try.checked) false ⟨#[], #[.agg #[.int .u8 0, .int .u8 0, .int .u8 0, .int .u8 0, .int .u8 0, .int .u8 0, .int .u8 0, .int .u8 0], .agg #[.int .u16 0, .int .u16 0, .int .u32 0, .int .u32 0, .int .u8 0, .int .u8 0, .int .u8 0, .int .u16 0, .int .u16 0, .int .u16 0, .slice none 0 0, .string .empty]], []⟩ 8 (by kernel_rfl) (by kernel_rfl) (by kernel_rfl) (by kernel_rfl)) ?_
  intro W base args ds gs before hval0 hW hcnd hsz0 _
  have hsz : (DataW.weightsEach Try.prog (Try.f18.params.toList ++ Rows.segmentEncodesSpec.plain.varTypes Try.prog) (ds ++ gs)).all (· ≤ reachBytes) = true := hsz0
  have hval : ∀ (j : Nat) t v, Try.f18.params[j]? = some t → args[j]? = some v → Value.okWide Try.prog W .any base t v := hval0
  have hW' := hW
  obtain ⟨p, q, hA0, hV, rfl, hfz, hnd⟩ := hW
  have hA : DataW.TrodAll enc Try.prog W 0 (fun _ => true) true Try.f18.params.toList args.toList ds p := hA0
  rw [Try.params18] at hA hval hsz
  obtain ⟨v0, vs0, d0, ds0, p0, q0, hargs, rfl, rfl, h0, r0⟩ := trodAll_cons hA
  obtain ⟨v1, vs1, d1, ds1, p1, q1, rfl, rfl, rfl, h1, r1⟩ := trodAll_cons r0
  obtain ⟨rfl, rfl, rfl⟩ := trodAll_nil r1
  obtain rfl : args = #[v0, v1] := by cases args; simp_all
  obtain ⟨rfl, rfl⟩ := trodVars_none hV
  have k0 := h0
  have lt0 : ∀ x ∈ p0, x.block < W.heap.size := by obtain ⟨m, hm⟩ := k0; exact DataW.trod_lt m _ _ _ hm
  have k1 := h1
  have lt1 : ∀ x ∈ p1, x.block < W.heap.size := by obtain ⟨m, hm⟩ := k1; exact DataW.trod_lt m _ _ _ hm
  obtain ⟨cs0, rfl⟩ : ∃ cs, v0 = .agg cs := by
    have h_ := hval 0 56 v0 rfl rfl
    simp only [Value.okWide, show Try.prog.underlying 56 = some (.array 2 55) by kernel_rfl] at h_
    obtain ⟨cs, h1, _⟩ := h_
    exact ⟨cs, h1⟩
  obtain ⟨y0, hx0⟩ := Reads.trod (d := (D.arr 2 (D.arr 4 (D.int .u8)))) (Reads.arr (show Try.prog.underlying 56 = some (.array 2 55) by kernel_rfl) (by kernel_rfl) (by kernel_rfl) (Reads.arr (show Try.prog.underlying 55 = some (.array 4 5) by kernel_rfl) (by kernel_rfl) (by kernel_rfl) (Reads.int (show Try.prog.underlying 5 = some (.int .u8) by kernel_rfl)))) h0
  obtain ⟨y00, y01, ky00, ky01, rfl, ey0, qy00, qy01⟩ := arr2 hx0
  obtain ⟨y000, y001, y002, y003, ky000, ky001, ky002, ky003, rfl, rfl, qy000, qy001, qy002, qy003⟩ := arr4 qy00
  obtain ⟨rfl, ly000, uy000⟩ := qy000
  obtain ⟨rfl, ly001, uy001⟩ := qy001
  obtain ⟨rfl, ly002, uy002⟩ := qy002
  obtain ⟨rfl, ly003, uy003⟩ := qy003
  obtain ⟨y010, y011, y012, y013, ky010, ky011, ky012, ky013, rfl, rfl, qy010, qy011, qy012, qy013⟩ := arr4 qy01
  obtain ⟨rfl, ly010, uy010⟩ := qy010
  obtain ⟨rfl, ly011, uy011⟩ := qy011
  obtain ⟨rfl, ly012, uy012⟩ := qy012
  obtain ⟨rfl, ly013, uy013⟩ := qy013
  have ee0 : cs0.toList = _ := ey0
  obtain rfl : cs0 = #[.int .u8 y000, .int .u8 y001, .int .u8 y002, .int .u8 y003, .int .u8 y010, .int .u8 y011, .int .u8 y012, .int .u8 y013] := Array.toList_inj.mp (by simpa [Value.cells] using ee0)
  simp only [IntKind.lo, IntKind.hi] at ly000 uy000 ly001 uy001 ly002 uy002 ly003 uy003 ly010 uy010 ly011 uy011 ly012 uy012 ly013 uy013
  obtain ⟨cs1, rfl, _⟩ := okWide_struct (show Try.prog.underlying 82 = some (.struct (fsIn Try.prog 82)) by kernel_rfl) (hval 1 82 v1 rfl rfl)
  obtain ⟨⟨⟨y100, y101, y102, y103, y104, y105, y106, y107, y108, y109⟩, y11, y12⟩, hx1⟩ := Reads.trod (d := (D.pair (D.pair (D.int .u16) (D.pair (D.int .u16) (D.pair (D.int .u32) (D.pair (D.int .u32) (D.pair (D.int .u8) (D.pair (D.int .u8) (D.pair (D.int .u8) (D.pair (D.int .u16) (D.pair (D.int .u16) (D.int .u16)))))))))) (D.pair (D.slice (D.pair (D.int .i64) (D.pair (D.slice (D.int .u32)) D.str))) D.str))) (Reads.struct (fs := fsIn Try.prog 82) (by kernel_rfl) (by kernel_rfl) (by rw [show (fsIn Try.prog 82).toList = [fld Try.prog 82 0, fld Try.prog 82 1, fld Try.prog 82 2] by kernel_rfl]; exact (ReadsFs.cons (by kernel_rfl) (by kernel_rfl) (Reads.struct (fs := fsIn Try.prog (fld Try.prog 82 0).type) (by kernel_rfl) (by kernel_rfl) (by rw [show (fsIn Try.prog (fld Try.prog 82 0).type).toList = [fld Try.prog (fld Try.prog 82 0).type 0, fld Try.prog (fld Try.prog 82 0).type 1, fld Try.prog (fld Try.prog 82 0).type 2, fld Try.prog (fld Try.prog 82 0).type 3, fld Try.prog (fld Try.prog 82 0).type 4, fld Try.prog (fld Try.prog 82 0).type 5, fld Try.prog (fld Try.prog 82 0).type 6, fld Try.prog (fld Try.prog 82 0).type 7, fld Try.prog (fld Try.prog 82 0).type 8, fld Try.prog (fld Try.prog 82 0).type 9] by kernel_rfl]; exact (ReadsFs.cons (by kernel_rfl) (by kernel_rfl) (Reads.int (show Try.prog.underlying (fld Try.prog (fld Try.prog 82 0).type 0).type = some (.int .u16) by kernel_rfl)) (ReadsFs.cons (by kernel_rfl) (by kernel_rfl) (Reads.int (show Try.prog.underlying (fld Try.prog (fld Try.prog 82 0).type 1).type = some (.int .u16) by kernel_rfl)) (ReadsFs.cons (by kernel_rfl) (by kernel_rfl) (Reads.int (show Try.prog.underlying (fld Try.prog (fld Try.prog 82 0).type 2).type = some (.int .u32) by kernel_rfl)) (ReadsFs.cons (by kernel_rfl) (by kernel_rfl) (Reads.int (show Try.prog.underlying (fld Try.prog (fld Try.prog 82 0).type 3).type = some (.int .u32) by kernel_rfl)) (ReadsFs.cons (by kernel_rfl) (by kernel_rfl) (Reads.int (show Try.prog.underlying (fld Try.prog (fld Try.prog 82 0).type 4).type = some (.int .u8) by kernel_rfl)) (ReadsFs.cons (by kernel_rfl) (by kernel_rfl) (Reads.int (show Try.prog.underlying (fld Try.prog (fld Try.prog 82 0).type 5).type = some (.int .u8) by kernel_rfl)) (ReadsFs.cons (by kernel_rfl) (by kernel_rfl) (Reads.int (show Try.prog.underlying (fld Try.prog (fld Try.prog 82 0).type 6).type = some (.int .u8) by kernel_rfl)) (ReadsFs.cons (by kernel_rfl) (by kernel_rfl) (Reads.int (show Try.prog.underlying (fld Try.prog (fld Try.prog 82 0).type 7).type = some (.int .u16) by kernel_rfl)) (ReadsFs.cons (by kernel_rfl) (by kernel_rfl) (Reads.int (show Try.prog.underlying (fld Try.prog (fld Try.prog 82 0).type 8).type = some (.int .u16) by kernel_rfl)) (ReadsFs.one (by kernel_rfl) (by kernel_rfl) (Reads.int (show Try.prog.underlying (fld Try.prog (fld Try.prog 82 0).type 9).type = some (.int .u16) by kernel_rfl)))))))))))))) (ReadsFs.cons (by kernel_rfl) (by kernel_rfl) (Reads.slice (show Try.prog.underlying (fld Try.prog 82 1).type = some (.slice 65) by kernel_rfl) (by kernel_rfl) (Reads.struct (fs := fsIn Try.prog 65) (by kernel_rfl) (by kernel_rfl) (by rw [show (fsIn Try.prog 65).toList = [fld Try.prog 65 0, fld Try.prog 65 1, fld Try.prog 65 2] by kernel_rfl]; exact (ReadsFs.cons (by kernel_rfl) (by kernel_rfl) (Reads.int (show Try.prog.underlying (fld Try.prog 65 0).type = some (.int .i64) by kernel_rfl)) (ReadsFs.cons (by kernel_rfl) (by kernel_rfl) (Reads.slice (show Try.prog.underlying (fld Try.prog 65 1).type = some (.slice 29) by kernel_rfl) (by kernel_rfl) (Reads.int (show Try.prog.underlying 29 = some (.int .u32) by kernel_rfl))) (ReadsFs.one (by kernel_rfl) (by kernel_rfl) (Reads.str (show Try.prog.underlying (fld Try.prog 65 2).type = some .string by kernel_rfl)))))))) (ReadsFs.one (by kernel_rfl) (by kernel_rfl) (Reads.str (show Try.prog.underlying (fld Try.prog 82 2).type = some .string by kernel_rfl))))))) h1
  obtain ⟨_, _, ee1, ⟨_, _, rfl, ⟨rfl, ly100, uy100⟩, ⟨_, _, rfl, ⟨rfl, ly101, uy101⟩, ⟨_, _, rfl, ⟨rfl, ly102, uy102⟩, ⟨_, _, rfl, ⟨rfl, ly103, uy103⟩, ⟨_, _, rfl, ⟨rfl, ly104, uy104⟩, ⟨_, _, rfl, ⟨rfl, ly105, uy105⟩, ⟨_, _, rfl, ⟨rfl, ly106, uy106⟩, ⟨_, _, rfl, ⟨rfl, ly107, uy107⟩, ⟨_, _, rfl, ⟨rfl, ly108, uy108⟩, ⟨rfl, ly109, uy109⟩⟩⟩⟩⟩⟩⟩⟩⟩⟩, ⟨_, _, rfl, ⟨Ay11, cy11, rfl, ey11, my11, ry11⟩, ⟨rfl, zy12⟩⟩⟩ := hx1
  obtain rfl : cs1 = #[.int .u16 y100, .int .u16 y101, .int .u32 y102, .int .u32 y103, .int .u8 y104, .int .u8 y105, .int .u8 y106, .int .u16 y107, .int .u16 y108, .int .u16 y109, .slice Ay11 y11.length cy11, .string y12] := Array.toList_inj.mp (by simpa [Value.cells] using ee1)
  simp only [IntKind.lo, IntKind.hi] at ly100 uy100 ly101 uy101 ly102 uy102 ly103 uy103 ly104 uy104 ly105 uy105 ly106 uy106 ly107 uy107 ly108 uy108 ly109 uy109
  clear hA0 hval0 hsz0
  refine (CallsG.close (SegmentEncodes_ok ⟨y000, y001, y002, y003, y010, y011, y012, y013⟩ ⟨y100, y101, y102, y103, y104, y105, y106, y107, y108, y109⟩ Ay11 cy11 y11 y12 _ (adOk ⟨⟨ly000, uy000⟩, ⟨ly001, uy001⟩, ⟨ly002, uy002⟩, ⟨ly003, uy003⟩, ⟨ly010, uy010⟩, ⟨ly011, uy011⟩, ⟨ly012, uy012⟩, ⟨ly013, uy013⟩⟩) ⟨⟨ly100, uy100⟩, ⟨ly101, uy101⟩, ⟨ly102, uy102⟩, ⟨ly103, uy103⟩, ⟨ly104, uy104⟩, ⟨ly105, uy105⟩, ⟨ly106, uy106⟩, ⟨ly107, uy107⟩, ⟨ly108, uy108⟩, ⟨ly109, uy109⟩⟩ ry11 ey11 my11 zy12)).mono fun e W' ⟨he, bel⟩ => ?_
  subst he
  exact ⟨_, rfl, _, _, _, [], _, [], hW', trodAll_mk1 (shut_bool (show Try.prog.underlying 4 = some .bool by kernel_rfl) _), (trodAll_cons_mk (Below.trod laidOut (by kernel_rfl) (of_decide_eq_true (by kernel_rfl)) k0 bel lt0) (trodAll_cons_mk (Below.trod laidOut (by kernel_rfl) (of_decide_eq_true (by kernel_rfl)) k1 bel lt1) (trodAll_mk0))), rfl, bel.frame _, fun h => by cases h⟩
theorem over : Rows.segmentEncodesRow.holds Try.pinned (OpenSpec.ofChange Rows.segmentEncodesSpec) :=
  OpenClaim.holds_of_wide 18 Try.f18 rfl rfl rfl rfl rfl rfl rfl ⟨rfl, rfl, rfl, rfl, rfl⟩ rfl rfl rfl rfl rfl (by kernel_rfl) Try.func18 (by unfold joinedFacts; rw [Whole.enters, Whole.lifts, Whole.makes]; kernel_rfl)
    (of_decide_eq_true (by kernel_rfl)) (by unfold Func.isWrapper; first | (rw [if_pos (by decide +kernel)]; kernel_rfl) | (rw [if_neg (by decide +kernel)]; exact ⟨rfl, rfl⟩))
    (fun os started H enc _ => lifted os started H enc)
theorem proved : Rows.SegmentEncodesSaid := over
#print axioms proved
end Go.Proofs.Ytjgpdbkkpomhjaa.segmentEncodes
namespace Go.Proofs.Ytjgpdbkkpomhjaa
/-- The row, under a short name, for the claim. -/
theorem segmentEncodes_holds : Rows.SegmentEncodesSaid := segmentEncodes.proved
end Go.Proofs.Ytjgpdbkkpomhjaa
