/- A law's row over its contract. Written by a small program of this session. Conditions: none. -/
import Derived.Test.YtjgpdbkkpomhjaaRows
import Derived.Test.YtjgpdbkkpomhjaaYQI
import Derived.Test.YtjgpdbkkpomhjaaYR
import Derived.Test.YtjgpdbkkpomhjaaXF
import Derived.WalkKit
import Derived.ProofKit
import Derived.OpenShut
import Derived.ShutString
import Derived.ChangeOld
import Derived.Below
import Derived.SizedLaws
namespace Go.Proofs.Ytjgpdbkkpomhjaa.ipBack
open Go.ChangeShapes Go.WideShapes Go.ChangeAt Go.RowKit
open Go.ChangeMaps (open_string shut_string)
open Go.Proofs.YtjgpdbkkpomhjaaX Go.Proofs.YtjgpdbkkpomhjaaX.Whole
set_option linter.unusedVariables false
set_option maxRecDepth 100000
theorem own : ownKnob Try.prog.godebug = none := by kernel_rfl
set_option maxHeartbeats 1000000 in
theorem lifted (os : Os) (started : os.Started) (H : Type) (enc : TypeId × Value → H) :
    ReturnsInHanded {} Try.checked os 25 .any (Rows.ipBackSpec.pre6 enc Try.prog Try.f25 Rows.ipBackRow.domain false) (Rows.ipBackSpec.post enc Try.prog Try.f25 false true false false) := by
  refine returnsInHanded_of_change_sized (C := Try.checked) own started (by kernel_rfl) Try.func25
    (ChangeSpec.witness6 (enc := enc) (C := Try.checked) false ⟨#[], #[.agg #[.int .u8 0, .int .u8 0, .int .u8 0, .int .u16 0, .int .u16 0, .int .u8 0, .int .u8 0, .int .u8 0, .int .u8 0, .int .u8 0, .int .u8 0, .int .u8 0, .int .u8 0], .string .empty, .agg #[.int .u8 0, .int .u8 0, .int .u8 0, .int .u8 0]], []⟩ 8 (by kernel_rfl) (by kernel_rfl) (by kernel_rfl) (by kernel_rfl)) ?_
  intro W base args ds gs before hval0 hW hcnd hsz0 _
  have hsz : (DataW.weightsEach Try.prog (Try.f25.params.toList ++ Rows.ipBackSpec.plain.varTypes Try.prog) (ds ++ gs)).all (· ≤ reachBytes) = true := hsz0
  have hval : ∀ (j : Nat) t v, Try.f25.params[j]? = some t → args[j]? = some v → Value.okWide Try.prog W .any base t v := hval0
  have hW' := hW
  obtain ⟨p, q, hA0, hV, rfl, hfz, hnd⟩ := hW
  have hA : DataW.TrodAll enc Try.prog W 0 (fun _ => true) true Try.f25.params.toList args.toList ds p := hA0
  rw [Try.params25] at hA hval hsz
  obtain ⟨v0, vs0, d0, ds0, p0, q0, hargs, rfl, rfl, h0, r0⟩ := trodAll_cons hA
  obtain ⟨v1, vs1, d1, ds1, p1, q1, rfl, rfl, rfl, h1, r1⟩ := trodAll_cons r0
  obtain ⟨v2, vs2, d2, ds2, p2, q2, rfl, rfl, rfl, h2, r2⟩ := trodAll_cons r1
  obtain ⟨rfl, rfl, rfl⟩ := trodAll_nil r2
  obtain rfl : args = #[v0, v1, v2] := by cases args; simp_all
  obtain ⟨rfl, rfl⟩ := trodVars_none hV
  have k0 := h0
  have lt0 : ∀ x ∈ p0, x.block < W.heap.size := by obtain ⟨m, hm⟩ := k0; exact DataW.trod_lt m _ _ _ hm
  have k1 := h1
  have lt1 : ∀ x ∈ p1, x.block < W.heap.size := by obtain ⟨m, hm⟩ := k1; exact DataW.trod_lt m _ _ _ hm
  have k2 := h2
  have lt2 : ∀ x ∈ p2, x.block < W.heap.size := by obtain ⟨m, hm⟩ := k2; exact DataW.trod_lt m _ _ _ hm
  obtain ⟨cs0, rfl, _⟩ := okWide_struct (show Try.prog.underlying 113 = some (.struct (fsIn Try.prog 113)) by kernel_rfl) (hval 0 113 v0 rfl rfl)
  obtain ⟨⟨y00, y01, y02, y03, y04, y05, y06⟩, hx0⟩ := Reads.trod (d := (D.pair (D.int .u8) (D.pair (D.int .u8) (D.pair (D.int .u8) (D.pair (D.int .u16) (D.pair (D.int .u16) (D.pair (D.arr 4 (D.int .u8)) (D.arr 4 (D.int .u8))))))))) (Reads.struct (fs := fsIn Try.prog 113) (by kernel_rfl) (by kernel_rfl) (by rw [show (fsIn Try.prog 113).toList = [fld Try.prog 113 0, fld Try.prog 113 1, fld Try.prog 113 2, fld Try.prog 113 3, fld Try.prog 113 4, fld Try.prog 113 5, fld Try.prog 113 6] by kernel_rfl]; exact (ReadsFs.cons (by kernel_rfl) (by kernel_rfl) (Reads.int (show Try.prog.underlying (fld Try.prog 113 0).type = some (.int .u8) by kernel_rfl)) (ReadsFs.cons (by kernel_rfl) (by kernel_rfl) (Reads.int (show Try.prog.underlying (fld Try.prog 113 1).type = some (.int .u8) by kernel_rfl)) (ReadsFs.cons (by kernel_rfl) (by kernel_rfl) (Reads.int (show Try.prog.underlying (fld Try.prog 113 2).type = some (.int .u8) by kernel_rfl)) (ReadsFs.cons (by kernel_rfl) (by kernel_rfl) (Reads.int (show Try.prog.underlying (fld Try.prog 113 3).type = some (.int .u16) by kernel_rfl)) (ReadsFs.cons (by kernel_rfl) (by kernel_rfl) (Reads.int (show Try.prog.underlying (fld Try.prog 113 4).type = some (.int .u16) by kernel_rfl)) (ReadsFs.cons (by kernel_rfl) (by kernel_rfl) (Reads.arr (show Try.prog.underlying (fld Try.prog 113 5).type = some (.array 4 5) by kernel_rfl) (by kernel_rfl) (by kernel_rfl) (Reads.int (show Try.prog.underlying 5 = some (.int .u8) by kernel_rfl))) (ReadsFs.one (by kernel_rfl) (by kernel_rfl) (Reads.arr (show Try.prog.underlying (fld Try.prog 113 6).type = some (.array 4 5) by kernel_rfl) (by kernel_rfl) (by kernel_rfl) (Reads.int (show Try.prog.underlying 5 = some (.int .u8) by kernel_rfl)))))))))))) h0
  obtain ⟨_, _, ee0, ⟨rfl, ly00, uy00⟩, ⟨_, _, rfl, ⟨rfl, ly01, uy01⟩, ⟨_, _, rfl, ⟨rfl, ly02, uy02⟩, ⟨_, _, rfl, ⟨rfl, ly03, uy03⟩, ⟨_, _, rfl, ⟨rfl, ly04, uy04⟩, ⟨_, _, rfl, hqy05, hqy06⟩⟩⟩⟩⟩⟩ := hx0
  obtain ⟨y050, y051, y052, y053, ky050, ky051, ky052, ky053, rfl, rfl, qy050, qy051, qy052, qy053⟩ := arr4 hqy05
  obtain ⟨rfl, ly050, uy050⟩ := qy050
  obtain ⟨rfl, ly051, uy051⟩ := qy051
  obtain ⟨rfl, ly052, uy052⟩ := qy052
  obtain ⟨rfl, ly053, uy053⟩ := qy053
  obtain ⟨y060, y061, y062, y063, ky060, ky061, ky062, ky063, rfl, rfl, qy060, qy061, qy062, qy063⟩ := arr4 hqy06
  obtain ⟨rfl, ly060, uy060⟩ := qy060
  obtain ⟨rfl, ly061, uy061⟩ := qy061
  obtain ⟨rfl, ly062, uy062⟩ := qy062
  obtain ⟨rfl, ly063, uy063⟩ := qy063
  obtain rfl : cs0 = #[.int .u8 y00, .int .u8 y01, .int .u8 y02, .int .u16 y03, .int .u16 y04, .int .u8 y050, .int .u8 y051, .int .u8 y052, .int .u8 y053, .int .u8 y060, .int .u8 y061, .int .u8 y062, .int .u8 y063] := Array.toList_inj.mp (by simpa [Value.cells] using ee0)
  simp only [IntKind.lo, IntKind.hi] at ly00 uy00 ly01 uy01 ly02 uy02 ly03 uy03 ly04 uy04 ly050 uy050 ly051 uy051 ly052 uy052 ly053 uy053 ly060 uy060 ly061 uy061 ly062 uy062 ly063 uy063
  obtain ⟨x1, rfl⟩ := okWide_string (show Try.prog.underlying 9 = some .string by kernel_rfl) (hval 1 9 v1 rfl rfl)
  obtain ⟨y1, e1, hz1⟩ := Reads.trod (Reads.str (show Try.prog.underlying 9 = some .string by kernel_rfl)) h1
  obtain rfl : x1 = y1 := by simpa [Value.cells] using e1
  obtain ⟨cs2, rfl⟩ : ∃ cs, v2 = .agg cs := by
    have h_ := hval 2 55 v2 rfl rfl
    simp only [Value.okWide, show Try.prog.underlying 55 = some (.array 4 5) by kernel_rfl] at h_
    obtain ⟨cs, h1, _⟩ := h_
    exact ⟨cs, h1⟩
  obtain ⟨y2, hx2⟩ := Reads.trod (d := (D.arr 4 (D.int .u8))) (Reads.arr (show Try.prog.underlying 55 = some (.array 4 5) by kernel_rfl) (by kernel_rfl) (by kernel_rfl) (Reads.int (show Try.prog.underlying 5 = some (.int .u8) by kernel_rfl))) h2
  obtain ⟨y20, y21, y22, y23, ky20, ky21, ky22, ky23, rfl, ey2, qy20, qy21, qy22, qy23⟩ := arr4 hx2
  obtain ⟨rfl, ly20, uy20⟩ := qy20
  obtain ⟨rfl, ly21, uy21⟩ := qy21
  obtain ⟨rfl, ly22, uy22⟩ := qy22
  obtain ⟨rfl, ly23, uy23⟩ := qy23
  have ee2 : cs2.toList = _ := ey2
  obtain rfl : cs2 = #[.int .u8 y20, .int .u8 y21, .int .u8 y22, .int .u8 y23] := Array.toList_inj.mp (by simpa [Value.cells] using ee2)
  simp only [IntKind.lo, IntKind.hi] at ly20 uy20 ly21 uy21 ly22 uy22 ly23 uy23
  clear hA0 hval0 hsz0
  refine (CallsG.close (IpBack_ok ⟨y00, y01, y02, y03, y04, y050, y051, y052, y053, y060, y061, y062, y063⟩ x1 y20 y21 y22 y23 _ ⟨⟨ly00, uy00⟩, ⟨ly01, uy01⟩, ⟨ly02, uy02⟩, ⟨ly03, uy03⟩, ⟨ly04, uy04⟩, ⟨ly050, uy050⟩, ⟨ly051, uy051⟩, ⟨ly052, uy052⟩, ⟨ly053, uy053⟩, ⟨ly060, uy060⟩, ⟨ly061, uy061⟩, ⟨ly062, uy062⟩, ⟨ly063, uy063⟩⟩ hz1 ⟨ly20, uy20⟩ ⟨ly21, uy21⟩ ⟨ly22, uy22⟩ ⟨ly23, uy23⟩)).mono fun e W' ⟨he, bel⟩ => ?_
  subst he
  exact ⟨_, rfl, _, _, _, [], _, [], hW', trodAll_mk1 (shut_bool (show Try.prog.underlying 4 = some .bool by kernel_rfl) _), (trodAll_cons_mk (Below.trod laidOut (by kernel_rfl) (of_decide_eq_true (by kernel_rfl)) k0 bel lt0) (trodAll_cons_mk (Below.trod laidOut (by kernel_rfl) (of_decide_eq_true (by kernel_rfl)) k1 bel lt1) (trodAll_cons_mk (Below.trod laidOut (by kernel_rfl) (of_decide_eq_true (by kernel_rfl)) k2 bel lt2) (trodAll_mk0)))), rfl, bel.frame _, fun h => by cases h⟩
theorem over : Rows.ipBackRow.holds Try.pinned (OpenSpec.ofChange Rows.ipBackSpec) :=
  OpenClaim.holds_of_wide 25 Try.f25 rfl rfl rfl rfl rfl rfl rfl ⟨rfl, rfl, rfl, rfl, rfl⟩ rfl rfl rfl rfl rfl (by kernel_rfl) Try.func25 (by unfold joinedFacts; rw [Whole.enters, Whole.lifts, Whole.makes]; kernel_rfl)
    (of_decide_eq_true (by kernel_rfl)) (by unfold Func.isWrapper; first | (rw [if_pos (by decide +kernel)]; kernel_rfl) | (rw [if_neg (by decide +kernel)]; exact ⟨rfl, rfl⟩))
    (fun os started H enc _ => lifted os started H enc)
theorem proved : Rows.IpBackSaid := over
#print axioms proved
end Go.Proofs.Ytjgpdbkkpomhjaa.ipBack
namespace Go.Proofs.Ytjgpdbkkpomhjaa
/-- The row, under a short name, for the claim. -/
theorem ipBack_holds : Rows.IpBackSaid := ipBack.proved
end Go.Proofs.Ytjgpdbkkpomhjaa
