/- A law's row over its contract. Written by a small program of this session. Conditions: none. -/
import Derived.Test.YthpinlcfcgnilaaRows
import Derived.Test.YthpinlcfcgnilaaXR3
import Derived.Test.YthpinlcfcgnilaaXR
import Derived.Test.YthpinlcfcgnilaaXF
import Derived.WalkKit
import Derived.ProofKit
import Derived.OpenShut
import Derived.ShutString
import Derived.ChangeOld
import Derived.Below
import Derived.SizedLaws
namespace Go.Proofs.Ythpinlcfcgnilaa.receiverFills
open Go.ChangeShapes Go.WideShapes Go.ChangeAt Go.RowKit
open Go.ChangeMaps (open_string shut_string)
open Go.Proofs.YthpinlcfcgnilaaX Go.Proofs.YthpinlcfcgnilaaX.Whole
set_option linter.unusedVariables false
set_option maxRecDepth 100000
theorem own : ownKnob Try.prog.godebug = none := by kernel_rfl
set_option maxHeartbeats 1000000 in
theorem lifted (os : Os) (started : os.Started) (H : Type) (enc : TypeId × Value → H) :
    ReturnsInHanded {} Try.checked os 4 .any (Rows.receiverFillsSpec.pre6 enc Try.prog Try.f4 Rows.receiverFillsRow.domain false) (Rows.receiverFillsSpec.post enc Try.prog Try.f4 false true false false) := by
  refine returnsInHanded_of_change_sized (C := Try.checked) own started (by kernel_rfl) Try.func4
    (ChangeSpec.witness6 (enc := enc) (C := Try.checked) false ⟨#[], #[.int .u8 0, .slice none 0 0], []⟩ 8 (by kernel_rfl) (by kernel_rfl) (by kernel_rfl) (by kernel_rfl)) ?_
  intro W base args ds gs before hval0 hW hcnd hsz0 _
  have hsz : (DataW.weightsEach Try.prog (Try.f4.params.toList ++ Rows.receiverFillsSpec.plain.varTypes Try.prog) (ds ++ gs)).all (· ≤ reachBytes) = true := hsz0
  have hval : ∀ (j : Nat) t v, Try.f4.params[j]? = some t → args[j]? = some v → Value.okWide Try.prog W .any base t v := hval0
  have hW' := hW
  obtain ⟨p, q, hA0, hV, rfl, hfz, hnd⟩ := hW
  have hA : DataW.TrodAll enc Try.prog W 0 (fun _ => true) true Try.f4.params.toList args.toList ds p := hA0
  rw [Try.params4] at hA hval hsz
  obtain ⟨v0, vs0, d0, ds0, p0, q0, hargs, rfl, rfl, h0, r0⟩ := trodAll_cons hA
  obtain ⟨v1, vs1, d1, ds1, p1, q1, rfl, rfl, rfl, h1, r1⟩ := trodAll_cons r0
  obtain ⟨rfl, rfl, rfl⟩ := trodAll_nil r1
  obtain rfl : args = #[v0, v1] := by cases args; simp_all
  obtain ⟨rfl, rfl⟩ := trodVars_none hV
  have k0 := h0
  have lt0 : ∀ x ∈ p0, x.block < W.heap.size := by obtain ⟨m, hm⟩ := k0; exact DataW.trod_lt m _ _ _ hm
  have k1 := h1
  have lt1 : ∀ x ∈ p1, x.block < W.heap.size := by obtain ⟨m, hm⟩ := k1; exact DataW.trod_lt m _ _ _ hm
  obtain ⟨x0, rfl⟩ := okWide_int (show Try.prog.underlying 5 = some (.int .u8) by kernel_rfl) (hval 0 5 v0 rfl rfl)
  obtain ⟨y0, e0, hlo0, hhi0⟩ := Reads.trod (Reads.int (show Try.prog.underlying 5 = some (.int .u8) by kernel_rfl)) h0
  obtain rfl : x0 = y0 := by simpa [Value.cells] using e0
  simp only [IntKind.lo, IntKind.hi] at hlo0 hhi0
  obtain ⟨a1, n1, c1, rfl⟩ := okWide_slice (show Try.prog.underlying 34 = some (.slice 5) by kernel_rfl) (hval 1 34 v1 rfl rfl)
  obtain ⟨x1, hx1⟩ := Reads.trod (Reads.slice (show Try.prog.underlying 34 = some (.slice 5) by kernel_rfl) (by kernel_rfl) (Reads.int (show Try.prog.underlying 5 = some (.int .u8) by kernel_rfl))) h1
  obtain ⟨A1, C1, e1, hle1, hmx1, hr1⟩ := hx1
  obtain ⟨rfl, rfl, rfl⟩ : a1 = A1 ∧ n1 = x1.length ∧ c1 = C1 := by simpa [Value.cells] using e1
  clear hA0 hval0 hsz0
  refine (CallsG.close (ReceiverFills_ok x0 a1 c1 x1 ⟨hlo0, hhi0⟩ _ hr1 hle1 hmx1)).mono fun e W' ⟨he, bel⟩ => ?_
  subst he
  exact ⟨_, rfl, _, _, _, [], _, [], hW', trodAll_mk1 (shut_bool (show Try.prog.underlying 4 = some .bool by kernel_rfl) _), (trodAll_cons_mk (Below.trod laidOut (by kernel_rfl) (of_decide_eq_true (by kernel_rfl)) k0 bel lt0) (trodAll_cons_mk (Below.trod laidOut (by kernel_rfl) (of_decide_eq_true (by kernel_rfl)) k1 bel lt1) (trodAll_mk0))), rfl, bel.frame _, fun h => by cases h⟩
theorem over : Rows.receiverFillsRow.holds Try.pinned (OpenSpec.ofChange Rows.receiverFillsSpec) :=
  OpenClaim.holds_of_wide 4 Try.f4 rfl rfl rfl rfl rfl rfl rfl ⟨rfl, rfl, rfl, rfl, rfl⟩ rfl rfl rfl rfl rfl (by kernel_rfl) Try.func4 (by unfold joinedFacts; rw [Whole.enters, Whole.lifts, Whole.makes]; kernel_rfl)
    (of_decide_eq_true (by kernel_rfl)) (by unfold Func.isWrapper; first | (rw [if_pos (by decide +kernel)]; kernel_rfl) | (rw [if_neg (by decide +kernel)]; exact ⟨rfl, rfl⟩))
    (fun os started H enc _ => lifted os started H enc)
theorem proved : Rows.ReceiverFillsSaid := over
#print axioms proved
end Go.Proofs.Ythpinlcfcgnilaa.receiverFills
namespace Go.Proofs.Ythpinlcfcgnilaa
/-- The row, under a short name, for the claim. -/
theorem receiverFills_holds : Rows.ReceiverFillsSaid := receiverFills.proved
end Go.Proofs.Ythpinlcfcgnilaa
