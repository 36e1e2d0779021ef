/- A law's row over its contract. Written by a small program of this session. Conditions: none. -/
import Derived.Test.YthpinlcfcgnilaaRows
import Derived.Test.YthpinlcfcgnilaaXBG
import Derived.Test.YthpinlcfcgnilaaXR
import Derived.Test.YthpinlcfcgnilaaXF
import Derived.WalkKit
import Derived.ProofKit
import Derived.OpenShut
import Derived.ShutString
import Derived.ChangeOld
import Derived.Below
import Derived.SizedLaws
namespace Go.Proofs.Ythpinlcfcgnilaa.roundsSend
open Go.ChangeShapes Go.WideShapes Go.ChangeAt Go.RowKit
open Go.ChangeMaps (open_string shut_string)
open Go.Proofs.YthpinlcfcgnilaaX Go.Proofs.YthpinlcfcgnilaaX.Whole
set_option linter.unusedVariables false
set_option maxRecDepth 100000
theorem own : ownKnob Try.prog.godebug = none := by kernel_rfl
set_option maxHeartbeats 1000000 in
theorem lifted (os : Os) (started : os.Started) (H : Type) (enc : TypeId × Value → H) :
    ReturnsInHanded {} Try.checked os 12 .any (Rows.roundsSendSpec.pre6 enc Try.prog Try.f12 Rows.roundsSendRow.domain false) (Rows.roundsSendSpec.post enc Try.prog Try.f12 false true false false) := by
  refine returnsInHanded_of_change_sized (C := Try.checked) own started (by kernel_rfl) Try.func12
    (ChangeSpec.witness6 (enc := enc) (C := Try.checked) false ⟨#[], #[.agg #[.int .i64 0, .int .i64 0, .int .i64 0, .slice none 0 0, .slice none 0 0], .int .u8 0], []⟩ 8 (by kernel_rfl) (by kernel_rfl) (by kernel_rfl) (by kernel_rfl)) ?_
  intro W base args ds gs before hval0 hW hcnd hsz0 _
  have hsz : (DataW.weightsEach Try.prog (Try.f12.params.toList ++ Rows.roundsSendSpec.plain.varTypes Try.prog) (ds ++ gs)).all (· ≤ reachBytes) = true := hsz0
  have hval : ∀ (j : Nat) t v, Try.f12.params[j]? = some t → args[j]? = some v → Value.okWide Try.prog W .any base t v := hval0
  have hW' := hW
  obtain ⟨p, q, hA0, hV, rfl, hfz, hnd⟩ := hW
  have hA : DataW.TrodAll enc Try.prog W 0 (fun _ => true) true Try.f12.params.toList args.toList ds p := hA0
  rw [Try.params12] at hA hval hsz
  obtain ⟨v0, vs0, d0, ds0, p0, q0, hargs, rfl, rfl, h0, r0⟩ := trodAll_cons hA
  obtain ⟨v1, vs1, d1, ds1, p1, q1, rfl, rfl, rfl, h1, r1⟩ := trodAll_cons r0
  obtain ⟨rfl, rfl, rfl⟩ := trodAll_nil r1
  obtain rfl : args = #[v0, v1] := by cases args; simp_all
  obtain ⟨rfl, rfl⟩ := trodVars_none hV
  have k0 := h0
  have lt0 : ∀ x ∈ p0, x.block < W.heap.size := by obtain ⟨m, hm⟩ := k0; exact DataW.trod_lt m _ _ _ hm
  have k1 := h1
  have lt1 : ∀ x ∈ p1, x.block < W.heap.size := by obtain ⟨m, hm⟩ := k1; exact DataW.trod_lt m _ _ _ hm
  obtain ⟨cs0, rfl, _⟩ := okWide_struct (show Try.prog.underlying 71 = some (.struct (fsIn Try.prog 71)) by kernel_rfl) (hval 0 71 v0 rfl rfl)
  obtain ⟨⟨y00, y01, y02, y03, y04⟩, hx0⟩ := Reads.trod (d := (D.pair (D.int .i64) (D.pair (D.int .i64) (D.pair (D.int .i64) (D.pair (D.slice (D.int .i64)) (D.slice (D.int .i64))))))) (Reads.struct (fs := fsIn Try.prog 71) (by kernel_rfl) (by kernel_rfl) (by rw [show (fsIn Try.prog 71).toList = [fld Try.prog 71 0, fld Try.prog 71 1, fld Try.prog 71 2, fld Try.prog 71 3, fld Try.prog 71 4] by kernel_rfl]; exact (ReadsFs.cons (by kernel_rfl) (by kernel_rfl) (Reads.int (show Try.prog.underlying (fld Try.prog 71 0).type = some (.int .i64) by kernel_rfl)) (ReadsFs.cons (by kernel_rfl) (by kernel_rfl) (Reads.int (show Try.prog.underlying (fld Try.prog 71 1).type = some (.int .i64) by kernel_rfl)) (ReadsFs.cons (by kernel_rfl) (by kernel_rfl) (Reads.int (show Try.prog.underlying (fld Try.prog 71 2).type = some (.int .i64) by kernel_rfl)) (ReadsFs.cons (by kernel_rfl) (by kernel_rfl) (Reads.slice (show Try.prog.underlying (fld Try.prog 71 3).type = some (.slice 2) by kernel_rfl) (by kernel_rfl) (Reads.int (show Try.prog.underlying 2 = some (.int .i64) by kernel_rfl))) (ReadsFs.one (by kernel_rfl) (by kernel_rfl) (Reads.slice (show Try.prog.underlying (fld Try.prog 71 4).type = some (.slice 2) by kernel_rfl) (by kernel_rfl) (Reads.int (show Try.prog.underlying 2 = some (.int .i64) by kernel_rfl)))))))))) h0
  obtain ⟨_, _, ee0, ⟨rfl, ly00, uy00⟩, ⟨_, _, rfl, ⟨rfl, ly01, uy01⟩, ⟨_, _, rfl, ⟨rfl, ly02, uy02⟩, ⟨_, _, rfl, ⟨Ay03, cy03, rfl, ey03, my03, ry03⟩, ⟨Ay04, cy04, rfl, ey04, my04, ry04⟩⟩⟩⟩⟩ := hx0
  obtain rfl : cs0 = #[.int .i64 y00, .int .i64 y01, .int .i64 y02, .slice Ay03 y03.length cy03, .slice Ay04 y04.length cy04] := Array.toList_inj.mp (by simpa [Value.cells] using ee0)
  simp only [IntKind.lo, IntKind.hi] at ly00 uy00 ly01 uy01 ly02 uy02
  obtain ⟨x1, rfl⟩ := okWide_int (show Try.prog.underlying 5 = some (.int .u8) by kernel_rfl) (hval 1 5 v1 rfl rfl)
  obtain ⟨y1, e1, hlo1, hhi1⟩ := Reads.trod (Reads.int (show Try.prog.underlying 5 = some (.int .u8) by kernel_rfl)) h1
  obtain rfl : x1 = y1 := by simpa [Value.cells] using e1
  simp only [IntKind.lo, IntKind.hi] at hlo1 hhi1
  clear hA0 hval0 hsz0
  refine (CallsG.close (RoundsSend_ok Ay03 Ay04 cy03 cy04 y00 y01 y02 y03 y04 x1 _ ry03 ry04 ey03 ey04 my03 my04 ⟨hlo1, hhi1⟩)).mono fun e W' ⟨he, bel⟩ => ?_
  subst he
  exact ⟨_, rfl, _, _, _, [], _, [], hW', trodAll_mk1 (shut_bool (show Try.prog.underlying 4 = some .bool by kernel_rfl) _), (trodAll_cons_mk (Below.trod laidOut (by kernel_rfl) (of_decide_eq_true (by kernel_rfl)) k0 bel lt0) (trodAll_cons_mk (Below.trod laidOut (by kernel_rfl) (of_decide_eq_true (by kernel_rfl)) k1 bel lt1) (trodAll_mk0))), rfl, bel.frame _, fun h => by cases h⟩
theorem over : Rows.roundsSendRow.holds Try.pinned (OpenSpec.ofChange Rows.roundsSendSpec) :=
  OpenClaim.holds_of_wide 12 Try.f12 rfl rfl rfl rfl rfl rfl rfl ⟨rfl, rfl, rfl, rfl, rfl⟩ rfl rfl rfl rfl rfl (by kernel_rfl) Try.func12 (by unfold joinedFacts; rw [Whole.enters, Whole.lifts, Whole.makes]; kernel_rfl)
    (of_decide_eq_true (by kernel_rfl)) (by unfold Func.isWrapper; first | (rw [if_pos (by decide +kernel)]; kernel_rfl) | (rw [if_neg (by decide +kernel)]; exact ⟨rfl, rfl⟩))
    (fun os started H enc _ => lifted os started H enc)
theorem proved : Rows.RoundsSendSaid := over
#print axioms proved
end Go.Proofs.Ythpinlcfcgnilaa.roundsSend
namespace Go.Proofs.Ythpinlcfcgnilaa
/-- The row, under a short name, for the claim. -/
theorem roundsSend_holds : Rows.RoundsSendSaid := roundsSend.proved
end Go.Proofs.Ythpinlcfcgnilaa
