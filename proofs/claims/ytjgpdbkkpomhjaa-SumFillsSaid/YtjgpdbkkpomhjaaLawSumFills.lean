/- A law's row over its contract. Written by a small program of this session. Conditions: none. -/
import Derived.Test.YtjgpdbkkpomhjaaRows
import Derived.Test.YtjgpdbkkpomhjaaXA6
import Derived.Test.YtjgpdbkkpomhjaaXRA
import Derived.Test.YtjgpdbkkpomhjaaXR
import Derived.Test.YtjgpdbkkpomhjaaXF
import Derived.WalkKit
import Derived.ProofKit
import Derived.OpenShut
import Derived.ShutString
import Derived.ChangeOld
import Derived.Below
import Derived.SizedLaws
namespace Go.Proofs.Ytjgpdbkkpomhjaa.sumFills
open Go.ChangeShapes Go.WideShapes Go.ChangeAt Go.RowKit
open Go.ChangeMaps (open_string shut_string)
open Go.Proofs.YtjgpdbkkpomhjaaX Go.Proofs.YtjgpdbkkpomhjaaX.Whole
set_option linter.unusedVariables false
set_option maxRecDepth 100000
theorem own : ownKnob Try.prog.godebug = none := by kernel_rfl
set_option maxHeartbeats 1000000 in
theorem lifted (os : Os) (started : os.Started) (H : Type) (enc : TypeId × Value → H) :
    ReturnsInHanded {} Try.checked os 10 .any (Rows.sumFillsSpec.pre6 enc Try.prog Try.f10 Rows.sumFillsRow.domain false) (Rows.sumFillsSpec.post enc Try.prog Try.f10 false true false false) := by
  refine returnsInHanded_of_change_sized (C := Try.checked) own started (by kernel_rfl) Try.func10
    (ChangeSpec.witness6 (enc := enc) (C := Try.checked) false ⟨#[], #[.slice none 0 0, .int .i64 0, .agg #[.int .u8 0, .int .u8 0, .int .u8 0, .int .u8 0, .int .u8 0, .int .u8 0, .int .u8 0, .int .u8 0]], []⟩ 8 (by kernel_rfl) (by kernel_rfl) (by kernel_rfl) (by kernel_rfl)) ?_
  intro W base args ds gs before hval0 hW hcnd hsz0 _
  have hsz : (DataW.weightsEach Try.prog (Try.f10.params.toList ++ Rows.sumFillsSpec.plain.varTypes Try.prog) (ds ++ gs)).all (· ≤ reachBytes) = true := hsz0
  have hval : ∀ (j : Nat) t v, Try.f10.params[j]? = some t → args[j]? = some v → Value.okWide Try.prog W .any base t v := hval0
  have hW' := hW
  obtain ⟨p, q, hA0, hV, rfl, hfz, hnd⟩ := hW
  have hA : DataW.TrodAll enc Try.prog W 0 (fun _ => true) true Try.f10.params.toList args.toList ds p := hA0
  rw [Try.params10] at hA hval hsz
  obtain ⟨v0, vs0, d0, ds0, p0, q0, hargs, rfl, rfl, h0, r0⟩ := trodAll_cons hA
  obtain ⟨v1, vs1, d1, ds1, p1, q1, rfl, rfl, rfl, h1, r1⟩ := trodAll_cons r0
  obtain ⟨v2, vs2, d2, ds2, p2, q2, rfl, rfl, rfl, h2, r2⟩ := trodAll_cons r1
  obtain ⟨rfl, rfl, rfl⟩ := trodAll_nil r2
  obtain rfl : args = #[v0, v1, v2] := by cases args; simp_all
  obtain ⟨rfl, rfl⟩ := trodVars_none hV
  have k0 := h0
  have lt0 : ∀ x ∈ p0, x.block < W.heap.size := by obtain ⟨m, hm⟩ := k0; exact DataW.trod_lt m _ _ _ hm
  have k1 := h1
  have lt1 : ∀ x ∈ p1, x.block < W.heap.size := by obtain ⟨m, hm⟩ := k1; exact DataW.trod_lt m _ _ _ hm
  have k2 := h2
  have lt2 : ∀ x ∈ p2, x.block < W.heap.size := by obtain ⟨m, hm⟩ := k2; exact DataW.trod_lt m _ _ _ hm
  obtain ⟨a0, n0, c0, rfl⟩ := okWide_slice (show Try.prog.underlying 22 = some (.slice 5) by kernel_rfl) (hval 0 22 v0 rfl rfl)
  obtain ⟨x0, hx0⟩ := Reads.trod (Reads.slice (show Try.prog.underlying 22 = some (.slice 5) by kernel_rfl) (by kernel_rfl) (Reads.int (show Try.prog.underlying 5 = some (.int .u8) by kernel_rfl))) h0
  obtain ⟨A0, C0, e0, hle0, hmx0, hr0⟩ := hx0
  obtain ⟨rfl, rfl, rfl⟩ : a0 = A0 ∧ n0 = x0.length ∧ c0 = C0 := by simpa [Value.cells] using e0
  obtain ⟨x1, rfl⟩ := okWide_int (show Try.prog.underlying 3 = some (.int .i64) by kernel_rfl) (hval 1 3 v1 rfl rfl)
  obtain ⟨y1, e1, hlo1, hhi1⟩ := Reads.trod (Reads.int (show Try.prog.underlying 3 = some (.int .i64) by kernel_rfl)) h1
  obtain rfl : x1 = y1 := by simpa [Value.cells] using e1
  simp only [IntKind.lo, IntKind.hi] at hlo1 hhi1
  obtain ⟨cs2, rfl⟩ : ∃ cs, v2 = .agg cs := by
    have h_ := hval 2 56 v2 rfl rfl
    simp only [Value.okWide, show Try.prog.underlying 56 = some (.array 2 55) by kernel_rfl] at h_
    obtain ⟨cs, h1, _⟩ := h_
    exact ⟨cs, h1⟩
  obtain ⟨y2, hx2⟩ := Reads.trod (d := (D.arr 2 (D.arr 4 (D.int .u8)))) (Reads.arr (show Try.prog.underlying 56 = some (.array 2 55) by kernel_rfl) (by kernel_rfl) (by kernel_rfl) (Reads.arr (show Try.prog.underlying 55 = some (.array 4 5) by kernel_rfl) (by kernel_rfl) (by kernel_rfl) (Reads.int (show Try.prog.underlying 5 = some (.int .u8) by kernel_rfl)))) h2
  obtain ⟨y20, y21, ky20, ky21, rfl, ey2, qy20, qy21⟩ := arr2 hx2
  obtain ⟨y200, y201, y202, y203, ky200, ky201, ky202, ky203, rfl, rfl, qy200, qy201, qy202, qy203⟩ := arr4 qy20
  obtain ⟨rfl, ly200, uy200⟩ := qy200
  obtain ⟨rfl, ly201, uy201⟩ := qy201
  obtain ⟨rfl, ly202, uy202⟩ := qy202
  obtain ⟨rfl, ly203, uy203⟩ := qy203
  obtain ⟨y210, y211, y212, y213, ky210, ky211, ky212, ky213, rfl, rfl, qy210, qy211, qy212, qy213⟩ := arr4 qy21
  obtain ⟨rfl, ly210, uy210⟩ := qy210
  obtain ⟨rfl, ly211, uy211⟩ := qy211
  obtain ⟨rfl, ly212, uy212⟩ := qy212
  obtain ⟨rfl, ly213, uy213⟩ := qy213
  have ee2 : cs2.toList = _ := ey2
  obtain rfl : cs2 = #[.int .u8 y200, .int .u8 y201, .int .u8 y202, .int .u8 y203, .int .u8 y210, .int .u8 y211, .int .u8 y212, .int .u8 y213] := Array.toList_inj.mp (by simpa [Value.cells] using ee2)
  simp only [IntKind.lo, IntKind.hi] at ly200 uy200 ly201 uy201 ly202 uy202 ly203 uy203 ly210 uy210 ly211 uy211 ly212 uy212 ly213 uy213
  clear hA0 hval0 hsz0
  refine (CallsG.close (SumFills_ok a0 c0 x0 x1 y200 y201 y202 y203 y210 y211 y212 y213 _ hr0 hle0 hmx0 ⟨hlo1, hhi1⟩ ⟨⟨ly200, uy200⟩, ⟨ly201, uy201⟩, ⟨ly202, uy202⟩, ⟨ly203, uy203⟩, ⟨ly210, uy210⟩, ⟨ly211, uy211⟩, ⟨ly212, uy212⟩, ⟨ly213, uy213⟩⟩)).mono fun e W' ⟨he, bel⟩ => ?_
  subst he
  exact ⟨_, rfl, _, _, _, [], _, [], hW', trodAll_mk1 (shut_bool (show Try.prog.underlying 4 = some .bool by kernel_rfl) _), (trodAll_cons_mk (Below.trod laidOut (by kernel_rfl) (of_decide_eq_true (by kernel_rfl)) k0 bel lt0) (trodAll_cons_mk (Below.trod laidOut (by kernel_rfl) (of_decide_eq_true (by kernel_rfl)) k1 bel lt1) (trodAll_cons_mk (Below.trod laidOut (by kernel_rfl) (of_decide_eq_true (by kernel_rfl)) k2 bel lt2) (trodAll_mk0)))), rfl, bel.frame _, fun h => by cases h⟩
theorem over : Rows.sumFillsRow.holds Try.pinned (OpenSpec.ofChange Rows.sumFillsSpec) :=
  OpenClaim.holds_of_wide 10 Try.f10 rfl rfl rfl rfl rfl rfl rfl ⟨rfl, rfl, rfl, rfl, rfl⟩ rfl rfl rfl rfl rfl (by kernel_rfl) Try.func10 (by unfold joinedFacts; rw [Whole.enters, Whole.lifts, Whole.makes]; kernel_rfl)
    (of_decide_eq_true (by kernel_rfl)) (by unfold Func.isWrapper; first | (rw [if_pos (by decide +kernel)]; kernel_rfl) | (rw [if_neg (by decide +kernel)]; exact ⟨rfl, rfl⟩))
    (fun os started H enc _ => lifted os started H enc)
theorem proved : Rows.SumFillsSaid := over
#print axioms proved
end Go.Proofs.Ytjgpdbkkpomhjaa.sumFills
namespace Go.Proofs.Ytjgpdbkkpomhjaa
/-- The row, under a short name, for the claim. -/
theorem sumFills_holds : Rows.SumFillsSaid := sumFills.proved
end Go.Proofs.Ytjgpdbkkpomhjaa
