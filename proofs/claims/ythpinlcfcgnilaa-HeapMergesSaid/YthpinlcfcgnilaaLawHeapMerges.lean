/- A law's row over its contract. Written by a small program of this session. Conditions: none. -/
import Derived.Test.YthpinlcfcgnilaaRows
import Derived.Test.YthpinlcfcgnilaaYHNc
import Derived.Test.YthpinlcfcgnilaaYR
import Derived.Test.YthpinlcfcgnilaaXF
import Derived.WalkKit
import Derived.ProofKit
import Derived.OpenShut
import Derived.ShutString
import Derived.ChangeOld
import Derived.Below
import Derived.SizedLaws
namespace Go.Proofs.Ythpinlcfcgnilaa.heapMerges
open Go.ChangeShapes Go.WideShapes Go.ChangeAt Go.RowKit
open Go.ChangeMaps (open_string shut_string)
open Go.Proofs.YthpinlcfcgnilaaX Go.Proofs.YthpinlcfcgnilaaX.Whole
set_option linter.unusedVariables false
set_option maxRecDepth 100000
theorem own : ownKnob Try.prog.godebug = none := by kernel_rfl
set_option maxHeartbeats 1000000 in
theorem lifted (os : Os) (started : os.Started) (H : Type) (enc : TypeId × Value → H) :
    ReturnsInHanded {} Try.checked os 13 .any (Rows.heapMergesSpec.pre6 enc Try.prog Try.f13 Rows.heapMergesRow.domain false) (Rows.heapMergesSpec.post enc Try.prog Try.f13 false true false false) := by
  refine returnsInHanded_of_change_sized (C := Try.checked) own started (by kernel_rfl) Try.func13
    (ChangeSpec.witness6 (enc := enc) (C := Try.checked) false ⟨#[], #[.slice none 0 0, .slice none 0 0], []⟩ 8 (by kernel_rfl) (by kernel_rfl) (by kernel_rfl) (by kernel_rfl)) ?_
  intro W base args ds gs before hval0 hW hcnd hsz0 _
  have hsz : (DataW.weightsEach Try.prog (Try.f13.params.toList ++ Rows.heapMergesSpec.plain.varTypes Try.prog) (ds ++ gs)).all (· ≤ reachBytes) = true := hsz0
  have hval : ∀ (j : Nat) t v, Try.f13.params[j]? = some t → args[j]? = some v → Value.okWide Try.prog W .any base t v := hval0
  have hW' := hW
  obtain ⟨p, q, hA0, hV, rfl, hfz, hnd⟩ := hW
  have hA : DataW.TrodAll enc Try.prog W 0 (fun _ => true) true Try.f13.params.toList args.toList ds p := hA0
  rw [Try.params13] at hA hval hsz
  obtain ⟨v0, vs0, d0, ds0, p0, q0, hargs, rfl, rfl, h0, r0⟩ := trodAll_cons hA
  obtain ⟨v1, vs1, d1, ds1, p1, q1, rfl, rfl, rfl, h1, r1⟩ := trodAll_cons r0
  obtain ⟨rfl, rfl, rfl⟩ := trodAll_nil r1
  obtain rfl : args = #[v0, v1] := by cases args; simp_all
  obtain ⟨rfl, rfl⟩ := trodVars_none hV
  have k0 := h0
  have lt0 : ∀ x ∈ p0, x.block < W.heap.size := by obtain ⟨m, hm⟩ := k0; exact DataW.trod_lt m _ _ _ hm
  have k1 := h1
  have lt1 : ∀ x ∈ p1, x.block < W.heap.size := by obtain ⟨m, hm⟩ := k1; exact DataW.trod_lt m _ _ _ hm
  obtain ⟨a0, n0, c0, rfl⟩ := okWide_slice (show Try.prog.underlying 80 = some (.slice 27) by kernel_rfl) (hval 0 80 v0 rfl rfl)
  obtain ⟨x0, hx0⟩ := Reads.trod (d := D.slice ev4D) (Reads.slice (show Try.prog.underlying 80 = some (.slice 27) by kernel_rfl) (by kernel_rfl) (Reads.struct (fs := fsIn Try.prog 27) (by kernel_rfl) (by kernel_rfl) (by rw [show (fsIn Try.prog 27).toList = [fld Try.prog 27 0, fld Try.prog 27 1, fld Try.prog 27 2, fld Try.prog 27 3] by kernel_rfl]; exact (ReadsFs.cons (by kernel_rfl) (by kernel_rfl) (Reads.int (show Try.prog.underlying (fld Try.prog 27 0).type = some (.int .i64) by kernel_rfl)) (ReadsFs.cons (by kernel_rfl) (by kernel_rfl) (Reads.int (show Try.prog.underlying (fld Try.prog 27 1).type = some (.int .i64) by kernel_rfl)) (ReadsFs.cons (by kernel_rfl) (by kernel_rfl) (Reads.int (show Try.prog.underlying (fld Try.prog 27 2).type = some (.int .i64) by kernel_rfl)) (ReadsFs.one (by kernel_rfl) (by kernel_rfl) (Reads.int (show Try.prog.underlying (fld Try.prog 27 3).type = some (.int .i64) by kernel_rfl))))))))) h0
  obtain ⟨A0, C0, e0, hle0, hmx0, hr0⟩ := hx0
  obtain ⟨rfl, rfl, rfl⟩ : a0 = A0 ∧ n0 = x0.length ∧ c0 = C0 := by simpa [Value.cells] using e0
  obtain ⟨a1, n1, c1, rfl⟩ := okWide_slice (show Try.prog.underlying 80 = some (.slice 27) by kernel_rfl) (hval 1 80 v1 rfl rfl)
  obtain ⟨x1, hx1⟩ := Reads.trod (d := D.slice ev4D) (Reads.slice (show Try.prog.underlying 80 = some (.slice 27) by kernel_rfl) (by kernel_rfl) (Reads.struct (fs := fsIn Try.prog 27) (by kernel_rfl) (by kernel_rfl) (by rw [show (fsIn Try.prog 27).toList = [fld Try.prog 27 0, fld Try.prog 27 1, fld Try.prog 27 2, fld Try.prog 27 3] by kernel_rfl]; exact (ReadsFs.cons (by kernel_rfl) (by kernel_rfl) (Reads.int (show Try.prog.underlying (fld Try.prog 27 0).type = some (.int .i64) by kernel_rfl)) (ReadsFs.cons (by kernel_rfl) (by kernel_rfl) (Reads.int (show Try.prog.underlying (fld Try.prog 27 1).type = some (.int .i64) by kernel_rfl)) (ReadsFs.cons (by kernel_rfl) (by kernel_rfl) (Reads.int (show Try.prog.underlying (fld Try.prog 27 2).type = some (.int .i64) by kernel_rfl)) (ReadsFs.one (by kernel_rfl) (by kernel_rfl) (Reads.int (show Try.prog.underlying (fld Try.prog 27 3).type = some (.int .i64) by kernel_rfl))))))))) h1
  obtain ⟨A1, C1, e1, hle1, hmx1, hr1⟩ := hx1
  obtain ⟨rfl, rfl, rfl⟩ : a1 = A1 ∧ n1 = x1.length ∧ c1 = C1 := by simpa [Value.cells] using e1
  clear hA0 hval0 hsz0
  refine (CallsG.close (HeapMerges_okR a0 a1 c0 c1 x0 x1 _ hr0 hr1 hle0 hle1 hmx0 hmx1)).mono fun e W' ⟨he, bel⟩ => ?_
  subst he
  exact ⟨_, rfl, _, _, _, [], _, [], hW', trodAll_mk1 (shut_bool (show Try.prog.underlying 4 = some .bool by kernel_rfl) _), (trodAll_cons_mk (Below.trod laidOut (by kernel_rfl) (of_decide_eq_true (by kernel_rfl)) k0 bel lt0) (trodAll_cons_mk (Below.trod laidOut (by kernel_rfl) (of_decide_eq_true (by kernel_rfl)) k1 bel lt1) (trodAll_mk0))), rfl, bel.frame _, fun h => by cases h⟩
theorem over : Rows.heapMergesRow.holds Try.pinned (OpenSpec.ofChange Rows.heapMergesSpec) :=
  OpenClaim.holds_of_wide 13 Try.f13 rfl rfl rfl rfl rfl rfl rfl ⟨rfl, rfl, rfl, rfl, rfl⟩ rfl rfl rfl rfl rfl (by kernel_rfl) Try.func13 (by unfold joinedFacts; rw [Whole.enters, Whole.lifts, Whole.makes]; kernel_rfl)
    (of_decide_eq_true (by kernel_rfl)) (by unfold Func.isWrapper; first | (rw [if_pos (by decide +kernel)]; kernel_rfl) | (rw [if_neg (by decide +kernel)]; exact ⟨rfl, rfl⟩))
    (fun os started H enc _ => lifted os started H enc)
theorem proved : Rows.HeapMergesSaid := over
#print axioms proved
end Go.Proofs.Ythpinlcfcgnilaa.heapMerges
namespace Go.Proofs.Ythpinlcfcgnilaa
/-- The row, under a short name, for the claim. -/
theorem heapMerges_holds : Rows.HeapMergesSaid := heapMerges.proved
end Go.Proofs.Ythpinlcfcgnilaa
