/- A law's row over its contract. Written by a small program of this session. Conditions: none. -/
import Derived.Test.YthpinlcfcgnilaaRows
import Derived.Test.YthpinlcfcgnilaaXR7
import Derived.Test.YthpinlcfcgnilaaXRA
import Derived.Test.YthpinlcfcgnilaaXR
import Derived.Test.YthpinlcfcgnilaaXF
import Derived.WalkKit
import Derived.ProofKit
import Derived.OpenShut
import Derived.ShutString
import Derived.ChangeOld
import Derived.Below
import Derived.SizedLaws
namespace Go.Proofs.Ythpinlcfcgnilaa.receiverTakes
open Go.ChangeShapes Go.WideShapes Go.ChangeAt Go.RowKit
open Go.ChangeMaps (open_string shut_string)
open Go.Proofs.YthpinlcfcgnilaaX Go.Proofs.YthpinlcfcgnilaaX.Whole
set_option linter.unusedVariables false
set_option maxRecDepth 100000
theorem own : ownKnob Try.prog.godebug = none := by kernel_rfl
set_option maxHeartbeats 1000000 in
theorem lifted (os : Os) (started : os.Started) (H : Type) (enc : TypeId × Value → H) :
    ReturnsInHanded {} Try.checked os 6 .any (Rows.receiverTakesSpec.pre6 enc Try.prog Try.f6 Rows.receiverTakesRow.domain false) (Rows.receiverTakesSpec.post enc Try.prog Try.f6 false true false false) := by
  refine returnsInHanded_of_change_sized (C := Try.checked) own started (by kernel_rfl) Try.func6
    (ChangeSpec.witness6 (enc := enc) (C := Try.checked) false ⟨#[], #[.int .i64 0, .agg #[.int .i64 0, .int .i64 0], .slice none 0 0], []⟩ 8 (by kernel_rfl) (by kernel_rfl) (by kernel_rfl) (by kernel_rfl)) ?_
  intro W base args ds gs before hval0 hW hcnd hsz0 _
  have hsz : (DataW.weightsEach Try.prog (Try.f6.params.toList ++ Rows.receiverTakesSpec.plain.varTypes Try.prog) (ds ++ gs)).all (· ≤ reachBytes) = true := hsz0
  have hval : ∀ (j : Nat) t v, Try.f6.params[j]? = some t → args[j]? = some v → Value.okWide Try.prog W .any base t v := hval0
  have hW' := hW
  obtain ⟨p, q, hA0, hV, rfl, hfz, hnd⟩ := hW
  have hA : DataW.TrodAll enc Try.prog W 0 (fun _ => true) true Try.f6.params.toList args.toList ds p := hA0
  rw [Try.params6] at hA hval hsz
  obtain ⟨v0, vs0, d0, ds0, p0, q0, hargs, rfl, rfl, h0, r0⟩ := trodAll_cons hA
  obtain ⟨v1, vs1, d1, ds1, p1, q1, rfl, rfl, rfl, h1, r1⟩ := trodAll_cons r0
  obtain ⟨v2, vs2, d2, ds2, p2, q2, rfl, rfl, rfl, h2, r2⟩ := trodAll_cons r1
  obtain ⟨rfl, rfl, rfl⟩ := trodAll_nil r2
  obtain rfl : args = #[v0, v1, v2] := by cases args; simp_all
  obtain ⟨rfl, rfl⟩ := trodVars_none hV
  have k0 := h0
  have lt0 : ∀ x ∈ p0, x.block < W.heap.size := by obtain ⟨m, hm⟩ := k0; exact DataW.trod_lt m _ _ _ hm
  have k1 := h1
  have lt1 : ∀ x ∈ p1, x.block < W.heap.size := by obtain ⟨m, hm⟩ := k1; exact DataW.trod_lt m _ _ _ hm
  have k2 := h2
  have lt2 : ∀ x ∈ p2, x.block < W.heap.size := by obtain ⟨m, hm⟩ := k2; exact DataW.trod_lt m _ _ _ hm
  obtain ⟨x0, rfl⟩ := okWide_int (show Try.prog.underlying 2 = some (.int .i64) by kernel_rfl) (hval 0 2 v0 rfl rfl)
  obtain ⟨y0, e0, hlo0, hhi0⟩ := Reads.trod (Reads.int (show Try.prog.underlying 2 = some (.int .i64) by kernel_rfl)) h0
  obtain rfl : x0 = y0 := by simpa [Value.cells] using e0
  simp only [IntKind.lo, IntKind.hi] at hlo0 hhi0
  obtain ⟨cs1, rfl⟩ : ∃ cs, v1 = .agg cs := by
    have h_ := hval 1 45 v1 rfl rfl
    simp only [Value.okWide, show Try.prog.underlying 45 = some (.array 2 3) by kernel_rfl] at h_
    obtain ⟨cs, h1, _⟩ := h_
    exact ⟨cs, h1⟩
  obtain ⟨y1, hx1⟩ := Reads.trod (d := (D.arr 2 (D.int .i64))) (Reads.arr (show Try.prog.underlying 45 = some (.array 2 3) by kernel_rfl) (by kernel_rfl) (by kernel_rfl) (Reads.int (show Try.prog.underlying 3 = some (.int .i64) by kernel_rfl))) h1
  obtain ⟨y10, y11, ky10, ky11, rfl, ey1, qy10, qy11⟩ := arr2 hx1
  obtain ⟨rfl, ly10, uy10⟩ := qy10
  obtain ⟨rfl, ly11, uy11⟩ := qy11
  have ee1 : cs1.toList = _ := ey1
  obtain rfl : cs1 = #[.int .i64 y10, .int .i64 y11] := Array.toList_inj.mp (by simpa [Value.cells] using ee1)
  simp only [IntKind.lo, IntKind.hi] at ly10 uy10 ly11 uy11
  obtain ⟨a2, n2, c2, rfl⟩ := okWide_slice (show Try.prog.underlying 46 = some (.slice 53) by kernel_rfl) (hval 2 46 v2 rfl rfl)
  obtain ⟨x2, hx2⟩ := Reads.trod (Reads.slice (show Try.prog.underlying 46 = some (.slice 53) by kernel_rfl) (by kernel_rfl) (Reads.struct (fs := fsIn Try.prog 53) (by kernel_rfl) (by kernel_rfl) (by rw [show (fsIn Try.prog 53).toList = [fld Try.prog 53 0, fld Try.prog 53 1] by kernel_rfl]; exact (ReadsFs.cons (by kernel_rfl) (by kernel_rfl) (Reads.int (show Try.prog.underlying (fld Try.prog 53 0).type = some (.int .i64) by kernel_rfl)) (ReadsFs.one (by kernel_rfl) (by kernel_rfl) (Reads.int (show Try.prog.underlying (fld Try.prog 53 1).type = some (.int .i64) by kernel_rfl))))))) h2
  obtain ⟨A2, C2, e2, hle2, hmx2, hr2⟩ := hx2
  obtain ⟨rfl, rfl, rfl⟩ : a2 = A2 ∧ n2 = x2.length ∧ c2 = C2 := by simpa [Value.cells] using e2
  clear hA0 hval0 hsz0
  refine (CallsG.close (ReceiverTakes_ok x0 y10 y11 a2 c2 x2 ⟨hlo0, hhi0⟩ ⟨ly10, uy10⟩ ⟨ly11, uy11⟩ _ hr2 hle2 hmx2)).mono fun e W' ⟨he, bel⟩ => ?_
  subst he
  exact ⟨_, rfl, _, _, _, [], _, [], hW', trodAll_mk1 (shut_bool (show Try.prog.underlying 4 = some .bool by kernel_rfl) _), (trodAll_cons_mk (Below.trod laidOut (by kernel_rfl) (of_decide_eq_true (by kernel_rfl)) k0 bel lt0) (trodAll_cons_mk (Below.trod laidOut (by kernel_rfl) (of_decide_eq_true (by kernel_rfl)) k1 bel lt1) (trodAll_cons_mk (Below.trod laidOut (by kernel_rfl) (of_decide_eq_true (by kernel_rfl)) k2 bel lt2) (trodAll_mk0)))), rfl, bel.frame _, fun h => by cases h⟩
theorem over : Rows.receiverTakesRow.holds Try.pinned (OpenSpec.ofChange Rows.receiverTakesSpec) :=
  OpenClaim.holds_of_wide 6 Try.f6 rfl rfl rfl rfl rfl rfl rfl ⟨rfl, rfl, rfl, rfl, rfl⟩ rfl rfl rfl rfl rfl (by kernel_rfl) Try.func6 (by unfold joinedFacts; rw [Whole.enters, Whole.lifts, Whole.makes]; kernel_rfl)
    (of_decide_eq_true (by kernel_rfl)) (by unfold Func.isWrapper; first | (rw [if_pos (by decide +kernel)]; kernel_rfl) | (rw [if_neg (by decide +kernel)]; exact ⟨rfl, rfl⟩))
    (fun os started H enc _ => lifted os started H enc)
theorem proved : Rows.ReceiverTakesSaid := over
#print axioms proved
end Go.Proofs.Ythpinlcfcgnilaa.receiverTakes
namespace Go.Proofs.Ythpinlcfcgnilaa
/-- The row, under a short name, for the claim. -/
theorem receiverTakes_holds : Rows.ReceiverTakesSaid := receiverTakes.proved
end Go.Proofs.Ythpinlcfcgnilaa
