/- A law's row over its contract. Written by a small program of this session. Conditions: none. -/
import Derived.Test.YtjgpdbkkpomhjaaRows
import Derived.Test.YtjgpdbkkpomhjaaQYV6
import Derived.Test.YtjgpdbkkpomhjaaQYR
import Derived.Test.YtjgpdbkkpomhjaaQXF
import Derived.WalkKit
import Derived.ProofKit
import Derived.OpenShut
import Derived.ShutString
import Derived.ChangeOld
import Derived.Below
import Derived.SizedLaws
namespace Go.Proofs.Ytjgpdbkkpomhjaa.pathWrites
open Go.ChangeShapes Go.WideShapes Go.ChangeAt Go.RowKit
open Go.ChangeMaps (open_string shut_string)
open Go.Proofs.YtjgpdbkkpomhjaaX Go.Proofs.YtjgpdbkkpomhjaaX.Whole
set_option linter.unusedVariables false
set_option maxRecDepth 100000
theorem own : ownKnob Try.prog.godebug = none := by kernel_rfl
set_option maxHeartbeats 1000000 in
theorem lifted (os : Os) (started : os.Started) (H : Type) (enc : TypeId × Value → H) :
    ReturnsInHanded {} Try.checked os 21 .any (Rows.pathWritesSpec.pre6 enc Try.prog Try.f21 Rows.pathWritesRow.domain false) (Rows.pathWritesSpec.post enc Try.prog Try.f21 false true false false) := by
  refine returnsInHanded_of_change_sized (C := Try.checked) own started (by kernel_rfl) Try.func21
    (ChangeSpec.witness6 (enc := enc) (C := Try.checked) false ⟨#[], #[.int .i64 0, .agg #[.int .i64 0, .int .u32 0, .int .u8 0, .int .i64 0, .int .i64 0, .int .i64 0], .slice none 0 0], []⟩ 8 (by kernel_rfl) (by kernel_rfl) (by kernel_rfl) (by kernel_rfl)) ?_
  intro W base args ds gs before hval0 hW hcnd hsz0 _
  have hsz : (DataW.weightsEach Try.prog (Try.f21.params.toList ++ Rows.pathWritesSpec.plain.varTypes Try.prog) (ds ++ gs)).all (· ≤ reachBytes) = true := hsz0
  have hval : ∀ (j : Nat) t v, Try.f21.params[j]? = some t → args[j]? = some v → Value.okWide Try.prog W .any base t v := hval0
  have hW' := hW
  obtain ⟨p, q, hA0, hV, rfl, hfz, hnd⟩ := hW
  have hA : DataW.TrodAll enc Try.prog W 0 (fun _ => true) true Try.f21.params.toList args.toList ds p := hA0
  rw [Try.params21] at hA hval hsz
  obtain ⟨v0, vs0, d0, ds0, p0, q0, hargs, rfl, rfl, h0, r0⟩ := trodAll_cons hA
  obtain ⟨v1, vs1, d1, ds1, p1, q1, rfl, rfl, rfl, h1, r1⟩ := trodAll_cons r0
  obtain ⟨v2, vs2, d2, ds2, p2, q2, rfl, rfl, rfl, h2, r2⟩ := trodAll_cons r1
  obtain ⟨rfl, rfl, rfl⟩ := trodAll_nil r2
  obtain rfl : args = #[v0, v1, v2] := by cases args; simp_all
  obtain ⟨rfl, rfl⟩ := trodVars_none hV
  have k0 := h0
  have lt0 : ∀ x ∈ p0, x.block < W.heap.size := by obtain ⟨m, hm⟩ := k0; exact DataW.trod_lt m _ _ _ hm
  have k1 := h1
  have lt1 : ∀ x ∈ p1, x.block < W.heap.size := by obtain ⟨m, hm⟩ := k1; exact DataW.trod_lt m _ _ _ hm
  have k2 := h2
  have lt2 : ∀ x ∈ p2, x.block < W.heap.size := by obtain ⟨m, hm⟩ := k2; exact DataW.trod_lt m _ _ _ hm
  obtain ⟨x0, rfl⟩ := okWide_int (show Try.prog.underlying 3 = some (.int .i64) by kernel_rfl) (hval 0 3 v0 rfl rfl)
  obtain ⟨y0, e0, hlo0, hhi0⟩ := Reads.trod (Reads.int (show Try.prog.underlying 3 = some (.int .i64) by kernel_rfl)) h0
  obtain rfl : x0 = y0 := by simpa [Value.cells] using e0
  simp only [IntKind.lo, IntKind.hi] at hlo0 hhi0
  obtain ⟨cs1, rfl, _⟩ := okWide_struct (show Try.prog.underlying 103 = some (.struct (fsIn Try.prog 103)) by kernel_rfl) (hval 1 103 v1 rfl rfl)
  obtain ⟨⟨y10, y11, y12, y13⟩, hx1⟩ := Reads.trod (d := (D.pair (D.int .i64) (D.pair (D.int .u32) (D.pair (D.int .u8) (D.arr 3 (D.int .i64)))))) (Reads.struct (fs := fsIn Try.prog 103) (by kernel_rfl) (by kernel_rfl) (by rw [show (fsIn Try.prog 103).toList = [fld Try.prog 103 0, fld Try.prog 103 1, fld Try.prog 103 2, fld Try.prog 103 3] by kernel_rfl]; exact (ReadsFs.cons (by kernel_rfl) (by kernel_rfl) (Reads.int (show Try.prog.underlying (fld Try.prog 103 0).type = some (.int .i64) by kernel_rfl)) (ReadsFs.cons (by kernel_rfl) (by kernel_rfl) (Reads.int (show Try.prog.underlying (fld Try.prog 103 1).type = some (.int .u32) by kernel_rfl)) (ReadsFs.cons (by kernel_rfl) (by kernel_rfl) (Reads.int (show Try.prog.underlying (fld Try.prog 103 2).type = some (.int .u8) by kernel_rfl)) (ReadsFs.one (by kernel_rfl) (by kernel_rfl) (Reads.arr (show Try.prog.underlying (fld Try.prog 103 3).type = some (.array 3 2) by kernel_rfl) (by kernel_rfl) (by kernel_rfl) (Reads.int (show Try.prog.underlying 2 = some (.int .i64) by kernel_rfl))))))))) h1
  obtain ⟨_, _, ee1, ⟨rfl, ly10, uy10⟩, ⟨_, _, rfl, ⟨rfl, ly11, uy11⟩, ⟨_, _, rfl, ⟨rfl, ly12, uy12⟩, hqy13⟩⟩⟩ := hx1
  obtain ⟨y130, y131, y132, ky130, ky131, ky132, rfl, rfl, qy130, qy131, qy132⟩ := arr3 hqy13
  obtain ⟨rfl, ly130, uy130⟩ := qy130
  obtain ⟨rfl, ly131, uy131⟩ := qy131
  obtain ⟨rfl, ly132, uy132⟩ := qy132
  obtain rfl : cs1 = #[.int .i64 y10, .int .u32 y11, .int .u8 y12, .int .i64 y130, .int .i64 y131, .int .i64 y132] := Array.toList_inj.mp (by simpa [Value.cells] using ee1)
  simp only [IntKind.lo, IntKind.hi] at ly10 uy10 ly11 uy11 ly12 uy12 ly130 uy130 ly131 uy131 ly132 uy132
  obtain ⟨a2, n2, c2, rfl⟩ := okWide_slice (show Try.prog.underlying 22 = some (.slice 5) by kernel_rfl) (hval 2 22 v2 rfl rfl)
  obtain ⟨x2, hx2⟩ := Reads.trod (Reads.slice (show Try.prog.underlying 22 = some (.slice 5) by kernel_rfl) (by kernel_rfl) (Reads.int (show Try.prog.underlying 5 = some (.int .u8) by kernel_rfl))) h2
  obtain ⟨A2, C2, e2, hle2, hmx2, hr2⟩ := hx2
  obtain ⟨rfl, rfl, rfl⟩ : a2 = A2 ∧ n2 = x2.length ∧ c2 = C2 := by simpa [Value.cells] using e2
  clear hA0 hval0 hsz0
  refine (CallsG.close (PathWrites_ok x0 y10 y11 y12 y130 y131 y132 a2 c2 x2 _ ⟨ly11, uy11⟩ ⟨ly12, uy12⟩ ⟨ly130, uy130⟩ ⟨ly131, uy131⟩ ⟨ly132, uy132⟩ hr2 hle2 hmx2)).mono fun e W' ⟨he, bel⟩ => ?_
  subst he
  exact ⟨_, rfl, _, _, _, [], _, [], hW', trodAll_mk1 (shut_bool (show Try.prog.underlying 4 = some .bool by kernel_rfl) _), (trodAll_cons_mk (Below.trod laidOut (by kernel_rfl) (of_decide_eq_true (by kernel_rfl)) k0 bel lt0) (trodAll_cons_mk (Below.trod laidOut (by kernel_rfl) (of_decide_eq_true (by kernel_rfl)) k1 bel lt1) (trodAll_cons_mk (Below.trod laidOut (by kernel_rfl) (of_decide_eq_true (by kernel_rfl)) k2 bel lt2) (trodAll_mk0)))), rfl, bel.frame _, fun h => by cases h⟩
theorem over : Rows.pathWritesRow.holds Try.pinned (OpenSpec.ofChange Rows.pathWritesSpec) :=
  OpenClaim.holds_of_wide 21 Try.f21 rfl rfl rfl rfl rfl rfl rfl ⟨rfl, rfl, rfl, rfl, rfl⟩ rfl rfl rfl rfl rfl (by kernel_rfl) Try.func21 (by unfold joinedFacts; rw [Whole.enters, Whole.lifts, Whole.makes]; kernel_rfl)
    (of_decide_eq_true (by kernel_rfl)) (by unfold Func.isWrapper; first | (rw [if_pos (by decide +kernel)]; kernel_rfl) | (rw [if_neg (by decide +kernel)]; exact ⟨rfl, rfl⟩))
    (fun os started H enc _ => lifted os started H enc)
theorem proved : Rows.PathWritesSaid := over
#print axioms proved
end Go.Proofs.Ytjgpdbkkpomhjaa.pathWrites
namespace Go.Proofs.Ytjgpdbkkpomhjaa
/-- The row, under a short name, for the claim. -/
theorem pathWrites_holds : Rows.PathWritesSaid := pathWrites.proved
end Go.Proofs.Ytjgpdbkkpomhjaa
