/- Contracts of the program's functions, and a law's row over its pure statement: written by this session's own program (wip/pr-patch.py over a copy of the kit's print). -/
import Derived.Test.YthoeidcpemfmlaaRows
import Derived.Test.YthoeidcpemfmlaaPRenoStepsx3
import Derived.Test.YthoeidcpemfmlaaPureRenoSteps
import Derived.WalkKit
import Derived.ProofKit
import Derived.OpenShut
import Derived.ShutString
import Derived.ChangeOld
import Derived.Below
import Derived.SizedLaws
import Derived.Test.YthoeidcpemfmlaaMine
namespace Go.Proofs.Ythoeidcpemfmlaa.renoSteps
open Go.ChangeShapes Go.WideShapes Go.ChangeAt Go.RowKit
open Go.ChangeMaps (open_string shut_string)
set_option linter.unusedVariables false
theorem own : ownKnob Try.prog.godebug = none := by kernel_rfl
theorem laidOut : laidOutB Try.prog = true := by kernel_rfl
def IsRow (k : IntKind) (w : World) (a : Option Addr) (len cap : Nat) (zs : List Int) : Prop :=
  (a = none ∧ len = 0 ∧ cap = 0 ∧ zs = []) ∨
  ∃ x, a = some x ∧ len ≤ cap ∧ cap ≤ maxLen ∧ zs.length = cap ∧ (∀ i, i < zs.length → w.cell? (x.add i) = some (.int k (zs.getD i 0))) ∧ ∀ n ∈ zs, (Lit.int k n).wf = true
set_option maxRecDepth 100000 in
theorem flat_23 {w : World} {r : Reach} {base : Nat} {v : Value} (h : Value.okWide Try.prog w r base 23 v) :
    ∃ (a0 : Int) (a1 : Int) (a2 : Int), v = .agg #[.int .i64 a0, .int .i64 a1, .int .i64 a2] ∧ (Lit.int .i64 a0).wf = true ∧ (Lit.int .i64 a1).wf = true ∧ (Lit.int .i64 a2).wf = true := by
  simp only [Value.okWide, Try.underlying23] at h
  obtain ⟨cs, rfl, hsz, ts, hts, hn, hc⟩ := h
  have hts' : Try.prog.cellTypes Try.prog.depth 23 = some [2, 2, 2] := by kernel_rfl
  rw [hts'] at hts
  obtain rfl := Option.some.inj hts
  have hN : cs.size = 3 := hsz.trans (by kernel_rfl)
  obtain ⟨l⟩ := cs
  match l, hN with
  | [c0, c1, c2], _ =>
    obtain ⟨u0, hu0, ho0⟩ := hc 0 c0 rfl
    obtain rfl := Option.some.inj (hu0 : some 2 = some u0)
    obtain ⟨a0, rfl, w0⟩ := Go.Proofs.YthoeidcpemfmlaaMine.cell_int Try.underlying2 ho0
    obtain ⟨u1, hu1, ho1⟩ := hc 1 c1 rfl
    obtain rfl := Option.some.inj (hu1 : some 2 = some u1)
    obtain ⟨a1, rfl, w1⟩ := Go.Proofs.YthoeidcpemfmlaaMine.cell_int Try.underlying2 ho1
    obtain ⟨u2, hu2, ho2⟩ := hc 2 c2 rfl
    obtain rfl := Option.some.inj (hu2 : some 2 = some u2)
    obtain ⟨a2, rfl, w2⟩ := Go.Proofs.YthoeidcpemfmlaaMine.cell_int Try.underlying2 ho2
    exact ⟨a0, a1, a2, rfl, w0, w1, w2⟩
set_option maxRecDepth 100000 in
theorem flat_24 {w : World} {r : Reach} {base : Nat} {v : Value} (h : Value.okWide Try.prog w r base 24 v) :
    ∃ (a0 : Int) (a1 : Int), v = .agg #[.int .i64 a0, .int .i64 a1] ∧ (Lit.int .i64 a0).wf = true ∧ (Lit.int .i64 a1).wf = true := by
  simp only [Value.okWide, Try.underlying24] at h
  obtain ⟨cs, rfl, hsz, ts, hts, hn, hc⟩ := h
  have hts' : Try.prog.cellTypes Try.prog.depth 24 = some [2, 2] := by kernel_rfl
  rw [hts'] at hts
  obtain rfl := Option.some.inj hts
  have hN : cs.size = 2 := hsz.trans (by kernel_rfl)
  obtain ⟨l⟩ := cs
  match l, hN with
  | [c0, c1], _ =>
    obtain ⟨u0, hu0, ho0⟩ := hc 0 c0 rfl
    obtain rfl := Option.some.inj (hu0 : some 2 = some u0)
    obtain ⟨a0, rfl, w0⟩ := Go.Proofs.YthoeidcpemfmlaaMine.cell_int Try.underlying2 ho0
    obtain ⟨u1, hu1, ho1⟩ := hc 1 c1 rfl
    obtain rfl := Option.some.inj (hu1 : some 2 = some u1)
    obtain ⟨a1, rfl, w1⟩ := Go.Proofs.YthoeidcpemfmlaaMine.cell_int Try.underlying2 ho1
    exact ⟨a0, a1, rfl, w0, w1⟩
set_option maxRecDepth 100000 in
theorem lifted (os : Os) (started : os.Started) (H : Type) (enc : TypeId × Value → H) :
    ReturnsInHanded {} Try.checked os 5 .any (Rows.renoStepsSpec.pre6 enc Try.prog Try.f5 Rows.renoStepsRow.domain false) (Rows.renoStepsSpec.post enc Try.prog Try.f5 false true false false) := by
  refine returnsInHanded_of_change_sized (C := Try.checked) own started (by kernel_rfl) Try.func5
    (ChangeSpec.witness6 (enc := enc) (C := Try.checked) false ⟨#[], #[.agg #[.int .i64 0, .int .i64 0, .int .i64 0], .int .i64 0, .agg #[.int .i64 0, .int .i64 0]], []⟩ 8 (by kernel_rfl) (by kernel_rfl) (by kernel_rfl) (by kernel_rfl)) ?_
  intro W base args ds gs before hval0 hW hcnd hsz0 _
  have hsz : (DataW.weightsEach Try.prog (Try.f5.params.toList ++ Rows.renoStepsSpec.plain.varTypes Try.prog) (ds ++ gs)).all (· ≤ reachBytes) = true := hsz0
  have hval : ∀ (j : Nat) t v, Try.f5.params[j]? = some t → args[j]? = some v → Value.okWide Try.prog W .any base t v := hval0
  have hW' := hW
  obtain ⟨p, q, hA0, hV, rfl, hfz, hnd⟩ := hW
  have hA : DataW.TrodAll enc Try.prog W 0 (fun _ => true) true Try.f5.params.toList args.toList ds p := hA0
  rw [Try.params5] at hA hval hsz
  obtain ⟨v0, vs0, d0, ds0, p0, q0, hargs, rfl, rfl, h0, r0⟩ := trodAll_cons hA
  obtain ⟨v1, vs1, d1, ds1, p1, q1, rfl, rfl, rfl, h1, r1⟩ := trodAll_cons r0
  obtain ⟨v2, vs2, d2, ds2, p2, q2, rfl, rfl, rfl, h2, r2⟩ := trodAll_cons r1
  obtain ⟨rfl, rfl, rfl⟩ := trodAll_nil r2
  obtain rfl : args = #[v0, v1, v2] := by cases args; simp_all
  obtain ⟨rfl, rfl⟩ := trodVars_none hV
  have k0 := h0
  have lt0 : ∀ x ∈ p0, x.block < W.heap.size := by obtain ⟨m, hm⟩ := k0; exact DataW.trod_lt m _ _ _ hm
  obtain ⟨a0_0, a0_1, a0_2, rfl, w0_0, w0_1, w0_2⟩ := flat_23 (hval 0 23 v0 rfl rfl)
  obtain ⟨a1, rfl, rfl, rfl, w1⟩ := open_int Try.underlying2 (hval 1 2 v1 rfl rfl) h1
  have k2 := h2
  have lt2 : ∀ x ∈ p2, x.block < W.heap.size := by obtain ⟨m, hm⟩ := k2; exact DataW.trod_lt m _ _ _ hm
  obtain ⟨a2_0, a2_1, rfl, w2_0, w2_1⟩ := flat_24 (hval 2 24 v2 rfl rfl)
  clear hA0 hval0 hsz0 hsz
  refine (PRenoSteps.leatlaw24_RenoSteps.walk Pure.RenoSteps a0_0 a0_1 a0_2 a1 a2_0 a2_1 W w0_0 w0_1 w0_2 w1 w2_0 w2_1).mono fun e W' ⟨he, bel⟩ => ?_
  subst he
  exact ⟨_, rfl, _, _, _, [], _, [], hW', trodAll_mk1 (shut_bool Try.underlying4 _), (trodAll_cons_mk (Below.trod laidOut (by kernel_rfl) (of_decide_eq_true (by kernel_rfl)) k0 bel lt0) (trodAll_cons_mk (shut_int Try.underlying2 w1) (trodAll_cons_mk (Below.trod laidOut (by kernel_rfl) (of_decide_eq_true (by kernel_rfl)) k2 bel lt2) trodAll_mk0))), rfl, bel.frame _, fun h => by cases h⟩
theorem over : Rows.renoStepsRow.holds Try.pinned (OpenSpec.ofChange Rows.renoStepsSpec) :=
  OpenClaim.holds_of_wide 5 Try.f5 rfl rfl rfl rfl rfl rfl rfl ⟨rfl, rfl, rfl, rfl, rfl⟩ rfl rfl rfl rfl rfl (by kernel_rfl) Try.func5 (by kernel_rfl)
    (of_decide_eq_true (by kernel_rfl)) (by unfold Func.isWrapper; first | (rw [if_pos (by decide +kernel)]; kernel_rfl) | (rw [if_neg (by decide +kernel)]; exact ⟨rfl, rfl⟩))
    (fun os started H enc _ => lifted os started H enc)
theorem proved : Rows.RenoStepsSaid := over
#print axioms proved
end Go.Proofs.Ythoeidcpemfmlaa.renoSteps
namespace Go.Proofs.Ythoeidcpemfmlaa
/-- The row, under a short name, for the claim. -/
theorem renoSteps_holds : Rows.RenoStepsSaid := renoSteps.proved
end Go.Proofs.Ythoeidcpemfmlaa
