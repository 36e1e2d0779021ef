/- A law's row over its contract. Written by a small program of this session. Conditions: none. -/
import Derived.Test.YtjgpdbkkpomhjaaRows
import Derived.Test.YtjgpdbkkpomhjaaYG12
import Derived.Test.YtjgpdbkkpomhjaaYR
import Derived.Test.YtjgpdbkkpomhjaaXF
import Derived.WalkKit
import Derived.ProofKit
import Derived.OpenShut
import Derived.ShutString
import Derived.ChangeOld
import Derived.Below
import Derived.SizedLaws
namespace Go.Proofs.Ytjgpdbkkpomhjaa.segmentCuts
open Go.ChangeShapes Go.WideShapes Go.ChangeAt Go.RowKit
open Go.ChangeMaps (open_string shut_string)
open Go.Proofs.YtjgpdbkkpomhjaaX Go.Proofs.YtjgpdbkkpomhjaaX.Whole
set_option linter.unusedVariables false
set_option maxRecDepth 100000
theorem own : ownKnob Try.prog.godebug = none := by kernel_rfl
set_option maxHeartbeats 1000000 in
theorem lifted (os : Os) (started : os.Started) (H : Type) (enc : TypeId × Value → H) :
    ReturnsInHanded {} Try.checked os 19 .any (Rows.segmentCutsSpec.pre6 enc Try.prog Try.f19 Rows.segmentCutsRow.domain false) (Rows.segmentCutsSpec.post enc Try.prog Try.f19 false true false false) := by
  refine returnsInHanded_of_change_sized (C := Try.checked) own started (by kernel_rfl) Try.func19
    (ChangeSpec.witness6 (enc := enc) (C := Try.checked) false ⟨#[], #[.agg #[.int .u16 0, .int .u16 0, .int .u32 0, .int .u32 0, .int .u8 0, .int .u8 0, .int .u8 0, .int .u16 0, .int .u16 0, .int .u16 0], .string .empty, .int .i64 0], []⟩ 8 (by kernel_rfl) (by kernel_rfl) (by kernel_rfl) (by kernel_rfl)) ?_
  intro W base args ds gs before hval0 hW hcnd hsz0 _
  have hsz : (DataW.weightsEach Try.prog (Try.f19.params.toList ++ Rows.segmentCutsSpec.plain.varTypes Try.prog) (ds ++ gs)).all (· ≤ reachBytes) = true := hsz0
  have hval : ∀ (j : Nat) t v, Try.f19.params[j]? = some t → args[j]? = some v → Value.okWide Try.prog W .any base t v := hval0
  have hW' := hW
  obtain ⟨p, q, hA0, hV, rfl, hfz, hnd⟩ := hW
  have hA : DataW.TrodAll enc Try.prog W 0 (fun _ => true) true Try.f19.params.toList args.toList ds p := hA0
  rw [Try.params19] at hA hval hsz
  obtain ⟨v0, vs0, d0, ds0, p0, q0, hargs, rfl, rfl, h0, r0⟩ := trodAll_cons hA
  obtain ⟨v1, vs1, d1, ds1, p1, q1, rfl, rfl, rfl, h1, r1⟩ := trodAll_cons r0
  obtain ⟨v2, vs2, d2, ds2, p2, q2, rfl, rfl, rfl, h2, r2⟩ := trodAll_cons r1
  obtain ⟨rfl, rfl, rfl⟩ := trodAll_nil r2
  obtain rfl : args = #[v0, v1, v2] := by cases args; simp_all
  obtain ⟨rfl, rfl⟩ := trodVars_none hV
  have k0 := h0
  have lt0 : ∀ x ∈ p0, x.block < W.heap.size := by obtain ⟨m, hm⟩ := k0; exact DataW.trod_lt m _ _ _ hm
  have k1 := h1
  have lt1 : ∀ x ∈ p1, x.block < W.heap.size := by obtain ⟨m, hm⟩ := k1; exact DataW.trod_lt m _ _ _ hm
  have k2 := h2
  have lt2 : ∀ x ∈ p2, x.block < W.heap.size := by obtain ⟨m, hm⟩ := k2; exact DataW.trod_lt m _ _ _ hm
  obtain ⟨cs0, rfl, _⟩ := okWide_struct (show Try.prog.underlying 31 = some (.struct (fsIn Try.prog 31)) by kernel_rfl) (hval 0 31 v0 rfl rfl)
  obtain ⟨⟨y00, y01, y02, y03, y04, y05, y06, y07, y08, y09⟩, hx0⟩ := Reads.trod (d := (D.pair (D.int .u16) (D.pair (D.int .u16) (D.pair (D.int .u32) (D.pair (D.int .u32) (D.pair (D.int .u8) (D.pair (D.int .u8) (D.pair (D.int .u8) (D.pair (D.int .u16) (D.pair (D.int .u16) (D.int .u16))))))))))) (Reads.struct (fs := fsIn Try.prog 31) (by kernel_rfl) (by kernel_rfl) (by rw [show (fsIn Try.prog 31).toList = [fld Try.prog 31 0, fld Try.prog 31 1, fld Try.prog 31 2, fld Try.prog 31 3, fld Try.prog 31 4, fld Try.prog 31 5, fld Try.prog 31 6, fld Try.prog 31 7, fld Try.prog 31 8, fld Try.prog 31 9] by kernel_rfl]; exact (ReadsFs.cons (by kernel_rfl) (by kernel_rfl) (Reads.int (show Try.prog.underlying (fld Try.prog 31 0).type = some (.int .u16) by kernel_rfl)) (ReadsFs.cons (by kernel_rfl) (by kernel_rfl) (Reads.int (show Try.prog.underlying (fld Try.prog 31 1).type = some (.int .u16) by kernel_rfl)) (ReadsFs.cons (by kernel_rfl) (by kernel_rfl) (Reads.int (show Try.prog.underlying (fld Try.prog 31 2).type = some (.int .u32) by kernel_rfl)) (ReadsFs.cons (by kernel_rfl) (by kernel_rfl) (Reads.int (show Try.prog.underlying (fld Try.prog 31 3).type = some (.int .u32) by kernel_rfl)) (ReadsFs.cons (by kernel_rfl) (by kernel_rfl) (Reads.int (show Try.prog.underlying (fld Try.prog 31 4).type = some (.int .u8) by kernel_rfl)) (ReadsFs.cons (by kernel_rfl) (by kernel_rfl) (Reads.int (show Try.prog.underlying (fld Try.prog 31 5).type = some (.int .u8) by kernel_rfl)) (ReadsFs.cons (by kernel_rfl) (by kernel_rfl) (Reads.int (show Try.prog.underlying (fld Try.prog 31 6).type = some (.int .u8) by kernel_rfl)) (ReadsFs.cons (by kernel_rfl) (by kernel_rfl) (Reads.int (show Try.prog.underlying (fld Try.prog 31 7).type = some (.int .u16) by kernel_rfl)) (ReadsFs.cons (by kernel_rfl) (by kernel_rfl) (Reads.int (show Try.prog.underlying (fld Try.prog 31 8).type = some (.int .u16) by kernel_rfl)) (ReadsFs.one (by kernel_rfl) (by kernel_rfl) (Reads.int (show Try.prog.underlying (fld Try.prog 31 9).type = some (.int .u16) by kernel_rfl)))))))))))))) h0
  obtain ⟨_, _, ee0, ⟨rfl, ly00, uy00⟩, ⟨_, _, rfl, ⟨rfl, ly01, uy01⟩, ⟨_, _, rfl, ⟨rfl, ly02, uy02⟩, ⟨_, _, rfl, ⟨rfl, ly03, uy03⟩, ⟨_, _, rfl, ⟨rfl, ly04, uy04⟩, ⟨_, _, rfl, ⟨rfl, ly05, uy05⟩, ⟨_, _, rfl, ⟨rfl, ly06, uy06⟩, ⟨_, _, rfl, ⟨rfl, ly07, uy07⟩, ⟨_, _, rfl, ⟨rfl, ly08, uy08⟩, ⟨rfl, ly09, uy09⟩⟩⟩⟩⟩⟩⟩⟩⟩⟩ := hx0
  obtain rfl : cs0 = #[.int .u16 y00, .int .u16 y01, .int .u32 y02, .int .u32 y03, .int .u8 y04, .int .u8 y05, .int .u8 y06, .int .u16 y07, .int .u16 y08, .int .u16 y09] := Array.toList_inj.mp (by simpa [Value.cells] using ee0)
  simp only [IntKind.lo, IntKind.hi] at ly00 uy00 ly01 uy01 ly02 uy02 ly03 uy03 ly04 uy04 ly05 uy05 ly06 uy06 ly07 uy07 ly08 uy08 ly09 uy09
  obtain ⟨x1, rfl⟩ := okWide_string (show Try.prog.underlying 9 = some .string by kernel_rfl) (hval 1 9 v1 rfl rfl)
  obtain ⟨y1, e1, hz1⟩ := Reads.trod (Reads.str (show Try.prog.underlying 9 = some .string by kernel_rfl)) h1
  obtain rfl : x1 = y1 := by simpa [Value.cells] using e1
  obtain ⟨x2, rfl⟩ := okWide_int (show Try.prog.underlying 3 = some (.int .i64) by kernel_rfl) (hval 2 3 v2 rfl rfl)
  obtain ⟨y2, e2, hlo2, hhi2⟩ := Reads.trod (Reads.int (show Try.prog.underlying 3 = some (.int .i64) by kernel_rfl)) h2
  obtain rfl : x2 = y2 := by simpa [Value.cells] using e2
  simp only [IntKind.lo, IntKind.hi] at hlo2 hhi2
  clear hA0 hval0 hsz0
  refine (CallsG.close (SegmentCuts_ok ⟨y00, y01, y02, y03, y04, y05, y06, y07, y08, y09⟩ x1 x2 _ ⟨⟨ly00, uy00⟩, ⟨ly01, uy01⟩, ⟨ly02, uy02⟩, ⟨ly03, uy03⟩, ⟨ly04, uy04⟩, ⟨ly05, uy05⟩, ⟨ly06, uy06⟩, ⟨ly07, uy07⟩, ⟨ly08, uy08⟩, ⟨ly09, uy09⟩⟩ hz1)).mono fun e W' ⟨he, bel⟩ => ?_
  subst he
  exact ⟨_, rfl, _, _, _, [], _, [], hW', trodAll_mk1 (shut_bool (show Try.prog.underlying 4 = some .bool by kernel_rfl) _), (trodAll_cons_mk (Below.trod laidOut (by kernel_rfl) (of_decide_eq_true (by kernel_rfl)) k0 bel lt0) (trodAll_cons_mk (Below.trod laidOut (by kernel_rfl) (of_decide_eq_true (by kernel_rfl)) k1 bel lt1) (trodAll_cons_mk (Below.trod laidOut (by kernel_rfl) (of_decide_eq_true (by kernel_rfl)) k2 bel lt2) (trodAll_mk0)))), rfl, bel.frame _, fun h => by cases h⟩
theorem over : Rows.segmentCutsRow.holds Try.pinned (OpenSpec.ofChange Rows.segmentCutsSpec) :=
  OpenClaim.holds_of_wide 19 Try.f19 rfl rfl rfl rfl rfl rfl rfl ⟨rfl, rfl, rfl, rfl, rfl⟩ rfl rfl rfl rfl rfl (by kernel_rfl) Try.func19 (by unfold joinedFacts; rw [Whole.enters, Whole.lifts, Whole.makes]; kernel_rfl)
    (of_decide_eq_true (by kernel_rfl)) (by unfold Func.isWrapper; first | (rw [if_pos (by decide +kernel)]; kernel_rfl) | (rw [if_neg (by decide +kernel)]; exact ⟨rfl, rfl⟩))
    (fun os started H enc _ => lifted os started H enc)
theorem proved : Rows.SegmentCutsSaid := over
#print axioms proved
end Go.Proofs.Ytjgpdbkkpomhjaa.segmentCuts
namespace Go.Proofs.Ytjgpdbkkpomhjaa
/-- The row, under a short name, for the claim. -/
theorem segmentCuts_holds : Rows.SegmentCutsSaid := segmentCuts.proved
end Go.Proofs.Ytjgpdbkkpomhjaa
