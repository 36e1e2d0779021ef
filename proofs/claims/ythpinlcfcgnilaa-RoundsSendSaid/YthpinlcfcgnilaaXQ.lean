/- Structs of numbers compared. Conditions: none. -/
import Derived.Test.YthpinlcfcgnilaaXJ
import Derived.Test.YthpinlcfcgnilaaWEqStruct
namespace Go.Proofs.YthpinlcfcgnilaaX
open Go.RowKit
open Go.Proofs.YthpinlcfcgnilaaW.PrintLast Go.Proofs.YthpinlcfcgnilaaW.PrintWords
set_option linter.unusedVariables false
set_option linter.unusedSimpArgs false
def eqI (P : Program) (xs ys : Array Value) : List Field → Option Bool
  | [] => some true
  | f :: r => match f.name == "_", P.underlying f.type, spure P (isAgg f.type), xs[f.offset]?, ys[f.offset]?, eqI P xs ys r with
    | false, some (.int _), some false, some (.int k a), some (.int k' b), some s => if k = k' then some ((a == b) && s) else none
    | _, _, _, _, _, _ => none
theorem eqI_ok {P : Program} {xs ys : Array Value} {d : Nat} {w : World} : ∀ {fs : List Field} {r : Bool}, eqI P xs ys fs = some r → (Op.eqFields (d + 1) xs ys fs).run P w = .ok r w
  | [], r, h => by simp only [eqI, Option.some.injEq] at h; subst h; exact eqf_nil
  | f :: fs, r, h => by
    simp only [eqI] at h
    split at h
    · rename_i kk k a k' b s hn hu hg hx hy hr
      split at h
      · rename_i hk
        subst hk
        injection h with h
        subst h
        have part_ : ∀ (cs : Array Value) v, cs[f.offset]? = some v → (part f.type cs f.offset).run P w = .ok v w := fun cs v hv => by
          unfold part
          rw [run_bind_ok (spure_run hg w)]
          simp [hv]
        refine eqf_cons hn (part_ xs _ hx) (part_ ys _ hy) ?_ (eqI_ok hr)
        simp only [Op.equalIn]
        rw [run_bind_ok (run_underlying hu w)]
        simp
      · cases h
    · cases h
section
variable {C : Ctx} {k : List CK} {s : S} {R : List (Nat × Row)} {G : Mem} {arr : Array Oper} {o : Oper} {r : List Oper}
theorem run_eqAgg {P : Program} {t : Nat} {xs ys : Array Value} {fs : Array Field} {b : Bool} {w : World} (hu : P.underlying t = some (.struct fs)) (hp : P.stoodInHeld t = false) (he : eqI P xs ys fs.toList = some b) : (Op.equal t (.agg xs) (.agg ys)).run P w = .ok b w :=
  eqA_of (d := 9999) hu hp (eqI_ok (d := 9998) he)
theorem X.eqAgg {t t' : Nat} {x y : Operand} {xs ys : Array Value} {fs : Array Field} {b : Bool} (hop : o.op = .binOp .eql t x y t') (hgd : spure C.P (eqGuard .eql t x y (.agg xs) (.agg ys)) = some ()) (hx : s.ev x = some (.v (.agg xs))) (hy : s.ev y = some (.v (.agg ys))) (hu : C.P.underlying t = some (.struct fs)) (hp : C.P.stoodInHeld t = false) (he : eqI C.P xs ys fs.toList = some b) (hg : (guardOk s arr o && s.can o.dst) = true)
    (H : X C (.ops arr r) k (s.put o.dst (.v (.bool b))) R G) : X C (.ops arr (o :: r)) k s R G := by
  simp only [Bool.and_eq_true] at hg
  refine X.val _ hg.1 hg.2 (fun ρ a w hs => ?_) H
  simp only [execOp, hop, hs.ev hx, hs.ev hy, AV.real]
  refine run_v ?_
  simp only [binOp]
  rw [run_bind_ok (spure_run hgd w), run_bind_ok (run_eqAgg hu hp he)]
  rfl
theorem X.neAgg {t t' : Nat} {x y : Operand} {xs ys : Array Value} {fs : Array Field} {b : Bool} (hop : o.op = .binOp .neq t x y t') (hgd : spure C.P (eqGuard .neq t x y (.agg xs) (.agg ys)) = some ()) (hx : s.ev x = some (.v (.agg xs))) (hy : s.ev y = some (.v (.agg ys))) (hu : C.P.underlying t = some (.struct fs)) (hp : C.P.stoodInHeld t = false) (he : eqI C.P xs ys fs.toList = some b) (hg : (guardOk s arr o && s.can o.dst) = true)
    (H : X C (.ops arr r) k (s.put o.dst (.v (.bool (!b)))) R G) : X C (.ops arr (o :: r)) k s R G := by
  simp only [Bool.and_eq_true] at hg
  refine X.val _ hg.1 hg.2 (fun ρ a w hs => ?_) H
  simp only [execOp, hop, hs.ev hx, hs.ev hy, AV.real]
  refine run_v ?_
  simp only [binOp]
  rw [run_bind_ok (spure_run hgd w), run_bind_ok (run_eqAgg hu hp he)]
  rfl
end
end Go.Proofs.YthpinlcfcgnilaaX
