/- A law's row over its contract. Written by a small program of this session. Conditions: none. -/
import Derived.Test.YtjgpdbkkpomhjaaRows
import Derived.Test.YtjgpdbkkpomhjaaYP4
import Derived.Test.YtjgpdbkkpomhjaaYR
import Derived.Test.YtjgpdbkkpomhjaaXF
import Derived.WalkKit
import Derived.ProofKit
import Derived.OpenShut
import Derived.ShutString
import Derived.ChangeOld
import Derived.Below
import Derived.SizedLaws
namespace Go.Proofs.Ytjgpdbkkpomhjaa.segmentGathers
open Go.ChangeShapes Go.WideShapes Go.ChangeAt Go.RowKit
open Go.ChangeMaps (open_string shut_string)
open Go.Proofs.YtjgpdbkkpomhjaaX Go.Proofs.YtjgpdbkkpomhjaaX.Whole
set_option linter.unusedVariables false
set_option maxRecDepth 100000
theorem own : ownKnob Try.prog.godebug = none := by kernel_rfl
set_option maxHeartbeats 1000000 in
theorem lifted (os : Os) (started : os.Started) (H : Type) (enc : TypeId × Value → H) :
    ReturnsInHanded {} Try.checked os 20 .any (Rows.segmentGathersSpec.pre6 enc Try.prog Try.f20 Rows.segmentGathersRow.domain false) (Rows.segmentGathersSpec.post enc Try.prog Try.f20 false true false false) := by
  refine returnsInHanded_of_change_sized (C := Try.checked) own started (by kernel_rfl) Try.func20
    (ChangeSpec.witness6 (enc := enc) (C := Try.checked) false ⟨#[], #[.slice none 0 0, .int .u32 0], []⟩ 8 (by kernel_rfl) (by kernel_rfl) (by kernel_rfl) (by kernel_rfl)) ?_
  intro W base args ds gs before hval0 hW hcnd hsz0 _
  have hsz : (DataW.weightsEach Try.prog (Try.f20.params.toList ++ Rows.segmentGathersSpec.plain.varTypes Try.prog) (ds ++ gs)).all (· ≤ reachBytes) = true := hsz0
  have hval : ∀ (j : Nat) t v, Try.f20.params[j]? = some t → args[j]? = some v → Value.okWide Try.prog W .any base t v := hval0
  have hW' := hW
  obtain ⟨p, q, hA0, hV, rfl, hfz, hnd⟩ := hW
  have hA : DataW.TrodAll enc Try.prog W 0 (fun _ => true) true Try.f20.params.toList args.toList ds p := hA0
  rw [Try.params20] at hA hval hsz
  obtain ⟨v0, vs0, d0, ds0, p0, q0, hargs, rfl, rfl, h0, r0⟩ := trodAll_cons hA
  obtain ⟨v1, vs1, d1, ds1, p1, q1, rfl, rfl, rfl, h1, r1⟩ := trodAll_cons r0
  obtain ⟨rfl, rfl, rfl⟩ := trodAll_nil r1
  obtain rfl : args = #[v0, v1] := by cases args; simp_all
  obtain ⟨rfl, rfl⟩ := trodVars_none hV
  have k0 := h0
  have lt0 : ∀ x ∈ p0, x.block < W.heap.size := by obtain ⟨m, hm⟩ := k0; exact DataW.trod_lt m _ _ _ hm
  have k1 := h1
  have lt1 : ∀ x ∈ p1, x.block < W.heap.size := by obtain ⟨m, hm⟩ := k1; exact DataW.trod_lt m _ _ _ hm
  obtain ⟨a0, n0, c0, rfl⟩ := okWide_slice (show Try.prog.underlying 96 = some (.slice 82) by kernel_rfl) (hval 0 96 v0 rfl rfl)
  obtain ⟨x0, hx0⟩ := Reads.trod (d := D.slice sgtD) (Reads.slice (show Try.prog.underlying 96 = some (.slice 82) by kernel_rfl) (by kernel_rfl) (Reads.struct (fs := fsIn Try.prog 82) (by kernel_rfl) (by kernel_rfl) (by rw [show (fsIn Try.prog 82).toList = [fld Try.prog 82 0, fld Try.prog 82 1, fld Try.prog 82 2] by kernel_rfl]; exact (ReadsFs.cons (by kernel_rfl) (by kernel_rfl) (Reads.struct (fs := fsIn Try.prog (fld Try.prog 82 0).type) (by kernel_rfl) (by kernel_rfl) (by rw [show (fsIn Try.prog (fld Try.prog 82 0).type).toList = [fld Try.prog (fld Try.prog 82 0).type 0, fld Try.prog (fld Try.prog 82 0).type 1, fld Try.prog (fld Try.prog 82 0).type 2, fld Try.prog (fld Try.prog 82 0).type 3, fld Try.prog (fld Try.prog 82 0).type 4, fld Try.prog (fld Try.prog 82 0).type 5, fld Try.prog (fld Try.prog 82 0).type 6, fld Try.prog (fld Try.prog 82 0).type 7, fld Try.prog (fld Try.prog 82 0).type 8, fld Try.prog (fld Try.prog 82 0).type 9] by kernel_rfl]; exact (ReadsFs.cons (by kernel_rfl) (by kernel_rfl) (Reads.int (show Try.prog.underlying (fld Try.prog (fld Try.prog 82 0).type 0).type = some (.int .u16) by kernel_rfl)) (ReadsFs.cons (by kernel_rfl) (by kernel_rfl) (Reads.int (show Try.prog.underlying (fld Try.prog (fld Try.prog 82 0).type 1).type = some (.int .u16) by kernel_rfl)) (ReadsFs.cons (by kernel_rfl) (by kernel_rfl) (Reads.int (show Try.prog.underlying (fld Try.prog (fld Try.prog 82 0).type 2).type = some (.int .u32) by kernel_rfl)) (ReadsFs.cons (by kernel_rfl) (by kernel_rfl) (Reads.int (show Try.prog.underlying (fld Try.prog (fld Try.prog 82 0).type 3).type = some (.int .u32) by kernel_rfl)) (ReadsFs.cons (by kernel_rfl) (by kernel_rfl) (Reads.int (show Try.prog.underlying (fld Try.prog (fld Try.prog 82 0).type 4).type = some (.int .u8) by kernel_rfl)) (ReadsFs.cons (by kernel_rfl) (by kernel_rfl) (Reads.int (show Try.prog.underlying (fld Try.prog (fld Try.prog 82 0).type 5).type = some (.int .u8) by kernel_rfl)) (ReadsFs.cons (by kernel_rfl) (by kernel_rfl) (Reads.int (show Try.prog.underlying (fld Try.prog (fld Try.prog 82 0).type 6).type = some (.int .u8) by kernel_rfl)) (ReadsFs.cons (by kernel_rfl) (by kernel_rfl) (Reads.int (show Try.prog.underlying (fld Try.prog (fld Try.prog 82 0).type 7).type = some (.int .u16) by kernel_rfl)) (ReadsFs.cons (by kernel_rfl) (by kernel_rfl) (Reads.int (show Try.prog.underlying (fld Try.prog (fld Try.prog 82 0).type 8).type = some (.int .u16) by kernel_rfl)) (ReadsFs.one (by kernel_rfl) (by kernel_rfl) (Reads.int (show Try.prog.underlying (fld Try.prog (fld Try.prog 82 0).type 9).type = some (.int .u16) by kernel_rfl)))))))))))))) (ReadsFs.cons (by kernel_rfl) (by kernel_rfl) (Reads.slice (show Try.prog.underlying (fld Try.prog 82 1).type = some (.slice 65) by kernel_rfl) (by kernel_rfl) (Reads.struct (fs := fsIn Try.prog 65) (by kernel_rfl) (by kernel_rfl) (by rw [show (fsIn Try.prog 65).toList = [fld Try.prog 65 0, fld Try.prog 65 1, fld Try.prog 65 2] by kernel_rfl]; exact (ReadsFs.cons (by kernel_rfl) (by kernel_rfl) (Reads.int (show Try.prog.underlying (fld Try.prog 65 0).type = some (.int .i64) by kernel_rfl)) (ReadsFs.cons (by kernel_rfl) (by kernel_rfl) (Reads.slice (show Try.prog.underlying (fld Try.prog 65 1).type = some (.slice 29) by kernel_rfl) (by kernel_rfl) (Reads.int (show Try.prog.underlying 29 = some (.int .u32) by kernel_rfl))) (ReadsFs.one (by kernel_rfl) (by kernel_rfl) (Reads.str (show Try.prog.underlying (fld Try.prog 65 2).type = some .string by kernel_rfl)))))))) (ReadsFs.one (by kernel_rfl) (by kernel_rfl) (Reads.str (show Try.prog.underlying (fld Try.prog 82 2).type = some .string by kernel_rfl)))))))) h0
  obtain ⟨A0, C0, e0, hle0, hmx0, hr0⟩ := hx0
  obtain ⟨rfl, rfl, rfl⟩ : a0 = A0 ∧ n0 = x0.length ∧ c0 = C0 := by simpa [Value.cells] using e0
  obtain ⟨x1, rfl⟩ := okWide_int (show Try.prog.underlying 29 = some (.int .u32) by kernel_rfl) (hval 1 29 v1 rfl rfl)
  obtain ⟨y1, e1, hlo1, hhi1⟩ := Reads.trod (Reads.int (show Try.prog.underlying 29 = some (.int .u32) by kernel_rfl)) h1
  obtain rfl : x1 = y1 := by simpa [Value.cells] using e1
  simp only [IntKind.lo, IntKind.hi] at hlo1 hhi1
  clear hA0 hval0 hsz0
  refine (CallsG.close (SegmentGathers_ok a0 c0 x0 x1 _ hr0 hle0 hmx0 ⟨hlo1, hhi1⟩)).mono fun e W' ⟨he, bel⟩ => ?_
  subst he
  exact ⟨_, rfl, _, _, _, [], _, [], hW', trodAll_mk1 (shut_bool (show Try.prog.underlying 4 = some .bool by kernel_rfl) _), (trodAll_cons_mk (Below.trod laidOut (by kernel_rfl) (of_decide_eq_true (by kernel_rfl)) k0 bel lt0) (trodAll_cons_mk (Below.trod laidOut (by kernel_rfl) (of_decide_eq_true (by kernel_rfl)) k1 bel lt1) (trodAll_mk0))), rfl, bel.frame _, fun h => by cases h⟩
theorem over : Rows.segmentGathersRow.holds Try.pinned (OpenSpec.ofChange Rows.segmentGathersSpec) :=
  OpenClaim.holds_of_wide 20 Try.f20 rfl rfl rfl rfl rfl rfl rfl ⟨rfl, rfl, rfl, rfl, rfl⟩ rfl rfl rfl rfl rfl (by kernel_rfl) Try.func20 (by unfold joinedFacts; rw [Whole.enters, Whole.lifts, Whole.makes]; kernel_rfl)
    (of_decide_eq_true (by kernel_rfl)) (by unfold Func.isWrapper; first | (rw [if_pos (by decide +kernel)]; kernel_rfl) | (rw [if_neg (by decide +kernel)]; exact ⟨rfl, rfl⟩))
    (fun os started H enc _ => lifted os started H enc)
theorem proved : Rows.SegmentGathersSaid := over
#print axioms proved
end Go.Proofs.Ytjgpdbkkpomhjaa.segmentGathers
namespace Go.Proofs.Ytjgpdbkkpomhjaa
/-- The row, under a short name, for the claim. -/
theorem segmentGathers_holds : Rows.SegmentGathersSaid := segmentGathers.proved
end Go.Proofs.Ytjgpdbkkpomhjaa
