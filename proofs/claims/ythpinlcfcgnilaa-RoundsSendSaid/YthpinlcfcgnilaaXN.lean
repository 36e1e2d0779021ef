/- Structs and arrays of numbers compared, one in the other; a cut from the start. Conditions: none. -/
import Derived.Test.YthpinlcfcgnilaaXQ
import Derived.ChangeKeysEq
namespace Go.Proofs.YthpinlcfcgnilaaX
open Go.RowKit
open Go.Proofs.YthpinlcfcgnilaaW.PrintLast Go.Proofs.YthpinlcfcgnilaaW.PrintWords
set_option linter.unusedVariables false
set_option linter.unusedSimpArgs false
theorem cutA_zero (A : Option Addr) (c sz : Nat) : cutA A c 0 sz = A := by
  unfold cutA
  split
  · rfl
  · cases A with
    | none => rfl
    | some ad => simp [Addr.add]
/-- Two values compared, as far as numbers, truth values and texts go. -/
def eqVal (P : Program) : Nat → TypeId → Value → Value → Option Bool
  | 0, _, _, _ => none
  | d + 1, t, x, y => match P.underlying t, x, y with
    | some (.int _), .int k a, .int k' b => if k = k' then some (a == b) else none
    | some .bool, .bool a, .bool b => some (a == b)
    | some .string, .string a, .string b => some (a == b)
    | some (.struct fs), .agg xs, .agg ys => if P.stoodInHeld t then none else
      fs.toList.foldr (fun f acc => match f.name == "_", spure P (part f.type xs f.offset), spure P (part f.type ys f.offset), acc with
        | false, some a, some b, some s => (eqVal P d f.type a b).map (· && s)
        | _, _, _, _ => none) (some true)
    | some (.array n e), .agg xs, .agg ys => match P.info? e with
      | some _ => (List.range n).foldr (fun i acc => match spure P (part e xs (i * P.cellsOf e)), spure P (part e ys (i * P.cellsOf e)), acc with
        | some a, some b, some s => (eqVal P d e a b).map (· && s)
        | _, _, _ => none) (some true)
      | none => none
    | _, _, _ => none
theorem eqVal_ok {P : Program} : ∀ {d : Nat} {t : TypeId} {x y : Value} {r : Bool}, eqVal P d t x y = some r → ∀ (m : Nat) (w : World), (Op.equalIn (d + m) t x y).run P w = .ok r w
  | 0, t, x, y, r, h => by cases h
  | d + 1, t, x, y, r, h => fun m w => by
    rw [show d + 1 + m = (d + m) + 1 by omega]
    unfold eqVal at h
    split at h
    · rename_i k0 k a k' b hu
      split at h
      · rename_i hk
        subst hk
        injection h with h
        subst h
        simp only [Op.equalIn]
        rw [run_bind_ok (run_underlying hu w)]
        simp
      · cases h
    · rename_i a b hu
      injection h with h
      subst h
      simp only [Op.equalIn]
      rw [run_bind_ok (run_underlying hu w)]
      simp
    · rename_i a b hu
      injection h with h
      subst h
      simp only [Op.equalIn]
      rw [run_bind_ok (run_underlying hu w)]
      simp
    · rename_i fs xs ys hu
      split at h
      · cases h
      · rename_i hst
        refine eqA_of hu (by simpa using hst) ?_
        generalize fs.toList = l at h
        induction l generalizing r with
        | nil => simp only [List.foldr, Option.some.injEq] at h; subst h; exact eqf_nil
        | cons f l ih =>
          simp only [List.foldr] at h
          split at h
          · rename_i a b s hn ha hb hs
            simp only [Option.map_eq_some_iff] at h
            obtain ⟨q, hq, rfl⟩ := h
            exact eqf_cons hn (spure_run ha w) (spure_run hb w) (eqVal_ok hq m w) (ih _ hs)
          · cases h
    · rename_i n e xs ys hu
      split at h
      · rename_i i hi
        rw [run_equalIn_array w (d + m) xs ys hu hi]
        generalize List.range n = l at h
        induction l generalizing r with
        | nil => simp only [List.foldr, Option.some.injEq] at h; subst h; simp [Op.eqItems]
        | cons j l ih =>
          simp only [List.foldr] at h
          split at h
          · rename_i a b s ha hb hs
            simp only [Option.map_eq_some_iff] at h
            obtain ⟨q, hq, rfl⟩ := h
            simp only [Op.eqItems]
            rw [run_bind_ok (spure_run ha w), run_bind_ok (spure_run hb w), run_bind_ok (eqVal_ok hq m w)]
            cases q
            · simp
            · simpa using ih _ hs
          · cases h
      · cases h
    · cases h
section
variable {C : Ctx} {k : List CK} {s : S} {R : List (Nat × Row)} {G : Mem} {arr : Array Oper} {o : Oper} {r : List Oper}
theorem X.eqV {t t' : Nat} {x y : Operand} {xs ys : Array Value} {b : Bool} (hop : o.op = .binOp .eql t x y t') (hgd : spure C.P (eqGuard .eql t x y (.agg xs) (.agg ys)) = some ()) (hx : s.ev x = some (.v (.agg xs))) (hy : s.ev y = some (.v (.agg ys))) (he : eqVal C.P 9 t (.agg xs) (.agg ys) = some b) (hg : (guardOk s arr o && s.can o.dst) = true)
    (H : X C (.ops arr r) k (s.put o.dst (.v (.bool b))) R G) : X C (.ops arr (o :: r)) k s R G := by
  simp only [Bool.and_eq_true] at hg
  refine X.val _ hg.1 hg.2 (fun ρ a w hs => ?_) H
  simp only [execOp, hop, hs.ev hx, hs.ev hy, AV.real]
  refine run_v ?_
  simp only [binOp]
  rw [run_bind_ok (spure_run hgd w), run_bind_ok (show (Op.equal t (.agg xs) (.agg ys)).run C.P w = .ok b w from eqVal_ok he 9991 w)]
  rfl
theorem X.neV {t t' : Nat} {x y : Operand} {xs ys : Array Value} {b : Bool} (hop : o.op = .binOp .neq t x y t') (hgd : spure C.P (eqGuard .neq t x y (.agg xs) (.agg ys)) = some ()) (hx : s.ev x = some (.v (.agg xs))) (hy : s.ev y = some (.v (.agg ys))) (he : eqVal C.P 9 t (.agg xs) (.agg ys) = some b) (hg : (guardOk s arr o && s.can o.dst) = true)
    (H : X C (.ops arr r) k (s.put o.dst (.v (.bool (!b)))) R G) : X C (.ops arr (o :: r)) k s R G := by
  simp only [Bool.and_eq_true] at hg
  refine X.val _ hg.1 hg.2 (fun ρ a w hs => ?_) H
  simp only [execOp, hop, hs.ev hx, hs.ev hy, AV.real]
  refine run_v ?_
  simp only [binOp]
  rw [run_bind_ok (spure_run hgd w), run_bind_ok (show (Op.equal t (.agg xs) (.agg ys)).run C.P w = .ok b w from eqVal_ok he 9991 w)]
  rfl
end
end Go.Proofs.YthpinlcfcgnilaaX
