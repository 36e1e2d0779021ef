/- Sums that stop at the ends. Conditions: none. -/
import Derived.Test.YthpinlcfcgnilaaXML
namespace Go.Proofs.YthpinlcfcgnilaaX
open Go.RowKit
set_option linter.unusedVariables false
set_option linter.unusedSimpArgs false
def r64 (x : Int) : Prop := -9223372036854775808 ≤ x ∧ x ≤ 9223372036854775807
theorem wrap_if (x : Int) : IntKind.i64.wrap x = if 9223372036854775808 ≤ x % 18446744073709551616 then x % 18446744073709551616 - 18446744073709551616 else x % 18446744073709551616 := by
  simp [IntKind.wrap, IntKind.bits, IntKind.signed]
theorem wrap_toInt (v : BitVec 64) : IntKind.i64.wrap ((v.toNat : Nat) : Int) = v.toInt := by
  have h := v.isLt
  rw [BitVec.toInt_eq_toNat_bmod]
  rw [wrap_if, Int.bmod_def]
  split <;> omega
theorem ofInt_neg {a : Int} (h : r64 a) : (BitVec.ofInt 64 a).msb = decide (a < 0) := by
  rw [BitVec.msb_eq_toInt, BitVec.toInt_ofInt]
  congr 1
  have : a.bmod (2 ^ 64) = a := by
    obtain ⟨h1, h2⟩ := h
    rw [Int.bmod_def]
    omega
  rw [this]
theorem bxor_neg {a b : Int} (ha : r64 a) (hb : r64 b) : r64 (bxor .i64 a b) ∧ decide (bxor .i64 a b < 0) = (decide (a < 0) ^^ decide (b < 0)) := by
  have e : bxor .i64 a b = (BitVec.ofInt 64 a ^^^ BitVec.ofInt 64 b).toInt := wrap_toInt _
  rw [e]
  refine ⟨?_, ?_⟩
  · have h1 := BitVec.le_toInt (x := BitVec.ofInt 64 a ^^^ BitVec.ofInt 64 b)
    have h2 := BitVec.toInt_lt (x := BitVec.ofInt 64 a ^^^ BitVec.ofInt 64 b)
    exact ⟨by simpa using h1, by omega⟩
  · rw [← BitVec.msb_eq_toInt, BitVec.msb_xor, ofInt_neg ha, ofInt_neg hb]
theorem band_neg {a b : Int} (ha : r64 a) (hb : r64 b) : decide (band .i64 a b < 0) = (decide (a < 0) && decide (b < 0)) := by
  have e : band .i64 a b = (BitVec.ofInt 64 a &&& BitVec.ofInt 64 b).toInt := wrap_toInt _
  rw [e, ← BitVec.msb_eq_toInt, BitVec.msb_and, ofInt_neg ha, ofInt_neg hb]
def sadd (a b : Int) : Int := max (-9223372036854775808) (min 9223372036854775807 (a + b))
theorem wrap64r (x : Int) : r64 (IntKind.i64.wrap x) := by
  rw [wrap_if]
  unfold r64
  split <;> omega
theorem sat_over {a b : Int} (ha : r64 a) (hb : r64 b) : band .i64 (bxor .i64 a (IntKind.i64.wrap (a + b))) (bxor .i64 b (IntKind.i64.wrap (a + b))) < 0 ↔ ¬ r64 (a + b) := by
  have hc := wrap64r (a + b)
  have h1 := bxor_neg ha hc
  have h2 := bxor_neg hb hc
  have h3 := band_neg h1.1 h2.1
  rw [h1.2, h2.2] at h3
  have h4 : IntKind.i64.wrap (a + b) = (a + b + 9223372036854775808) % 18446744073709551616 - 9223372036854775808 := by
    rw [wrap_if]
    split <;> omega
  rw [h4] at h3 ⊢
  obtain ⟨a1, a2⟩ := ha
  obtain ⟨b1, b2⟩ := hb
  constructor
  · intro h hr
    rw [decide_eq_true h] at h3
    obtain ⟨r1, r2⟩ := hr
    by_cases p : a < 0 <;> by_cases q : b < 0 <;> simp [p, q] at h3 <;> omega
  · intro hr
    refine of_decide_eq_true ?_
    rw [h3]
    unfold r64 at hr
    by_cases p : a < 0 <;> by_cases q : b < 0 <;> simp [p, q] <;> omega
theorem sadd_in {a b : Int} (h : r64 (a + b)) : IntKind.i64.wrap (a + b) = sadd a b := by
  obtain ⟨h1, h2⟩ := h
  rw [wi64 h1 h2]
  unfold sadd
  omega
theorem sadd_r (a b : Int) : r64 (sadd a b) := by
  unfold sadd r64
  omega
theorem none_of_le {G G' : Mem} {g : Nat} (h : Le G G') (h2 : G' g = none) : G g = none := by
  cases e : G g with
  | none => rfl
  | some o => rw [h g o e] at h2; cases h2
theorem rowAt_other {kd : IntKind} {G : Mem} {g : Nat} {ob : Obj} {A : Option Addr} {xs : List Int} {es : Array MapEntry} {clock : Nat} (h : rowAt (D.int kd) G A xs) (hg : G g = some (.map es clock)) : rowAt (D.int kd) (updG G g ob) A xs := fun i hi => by
  obtain ⟨ad, cs, h1, h2, h3⟩ := h i hi
  refine ⟨ad, cs, h1, h2, fun j v hj => ?_⟩
  have h4 := h3 j v hj
  unfold cellG at h4 ⊢
  unfold updG
  by_cases e : (ad.add (i * (D.int kd).sz + j)).block = g
  · rw [e, hg] at h4
    simp at h4
  · rw [if_neg e]
    exact h4
section
open Go.Proofs.YthpinlcfcgnilaaW.PrintLast Go.Proofs.YthpinlcfcgnilaaW.PrintWords
variable {C : Ctx} {k : List CK} {s : S} {R : List (Nat × Row)} {G : Mem} {arr : Array Oper} {o : Oper} {r : List Oper}
theorem X.mapUpdateK {t kt et g : Nat} {x y z : Operand} {j : Int} {ks : List Int} {Gp : Mem} (hpre : Ge Gp C.w0.heap.size G) (hgn : Gp g = none) (hn : C.w0.heap.size ≤ g) (hop : o.op = .mapUpdate t x y z) (hx : s.ev x = some (.v (.map (some g)))) (hy : s.ev y = some (.v (.int .i64 j))) (hz : s.ev z = some (.v (.bool true))) (ht : C.P.underlying t = some (.map kt et)) (hk : C.P.underlying kt = some (.int .i64)) (hm : MapAt G g ks) (hg : (guardOk s arr o && s.can o.dst) = true)
    (H : ∀ G', Ge Gp C.w0.heap.size G' → MapAt G' g (if j ∈ ks then ks else ks ++ [j]) → (∀ {kd : IntKind} {A : Option Addr} {xs : List Int}, rowAt (D.int kd) G A xs → rowAt (D.int kd) G' A xs) → X C (.ops arr r) k (s.put o.dst (.v undef)) R G') : X C (.ops arr (o :: r)) k s R G := by
  simp only [Bool.and_eq_true] at hg
  obtain ⟨es, clock, h1, h2⟩ := hm
  refine X.op hg.1 fun ρ a w hs next hnx => ?_
  obtain ⟨es', clock', h3, h4⟩ := update_run (x := j) ht hk (hs.g _ _ h1) h2
  refine wp_skip' (w' := { w with heap := w.heap.setIfInBounds g (.map es' clock') }) ?_ (hnx ρ _ _ _ _ _ (H _ (updG_ge hpre hn hgn) ⟨es', clock', updG_at G g _, h4⟩ (fun h => rowAt_other h h1)) ((hs.turnG h1 hn _).put (x := .v undef) hg.2))
  simp only [execOp, hop, hs.ev hx, hs.ev hy, hs.ev hz, AV.real]
  rw [run_bind_ok h3]
  rfl
theorem X.deleteK {t kt et g : Nat} {x y : Operand} {j : Int} {ks : List Int} {Gp : Mem} (hpre : Ge Gp C.w0.heap.size G) (hgn : Gp g = none) (hn : C.w0.heap.size ≤ g) (hop : o.op = .call { callee := .builtin .delete, args := #[x, y], argTypes := #[t, kt] }) (hx : s.ev x = some (.v (.map (some g)))) (hy : s.ev y = some (.v (.int .i64 j))) (ht : C.P.underlying t = some (.map kt et)) (hk : C.P.underlying kt = some (.int .i64)) (hm : MapAt G g ks) (hg : (guardOk s arr o && s.can o.dst) = true)
    (H : ∀ G', Ge Gp C.w0.heap.size G' → MapAt G' g (ks.erase j) → (∀ {kd : IntKind} {A : Option Addr} {xs : List Int}, rowAt (D.int kd) G A xs → rowAt (D.int kd) G' A xs) → X C (.ops arr r) k (s.put o.dst (.v (.tuple #[]))) R G') : X C (.ops arr (o :: r)) k s R G := by
  simp only [Bool.and_eq_true] at hg
  obtain ⟨es, clock, h1, h2⟩ := hm
  refine X.op hg.1 fun ρ a w hs next hnx => ?_
  obtain ⟨es', clock', h3, h4⟩ := delete_run (ty := o.type) (x := j) ht hk (hs.g _ _ h1) h2
  refine wp_value (w' := { w with heap := w.heap.setIfInBounds g (.map es' clock') }) ?_ (hnx ρ _ _ _ _ _ (H _ (updG_ge hpre hn hgn) ⟨es', clock', updG_at G g _, h4⟩ (fun h => rowAt_other h h1)) ((hs.turnG h1 hn _).put (x := .v _) hg.2))
  unfold execOp
  simp only [hop]
  unfold resolve
  have e1 : (#[x, y] : Array Operand).map a.eval = #[.map (some g), .int .i64 j] := by simp [hs.ev hx, hs.ev hy, AV.real]
  simp only [e1]
  rw [run_bind_ok (show (pure _ : Sem Deferred).run C.P w = .ok _ w from rfl)]
  unfold invoke
  exact run_v h3
theorem X.joinM {cur : Cur} (cur2 : Cur) (k2 : List CK) (s2 : Nat → S) (R2 : List (Nat × Row)) (HJ : ∀ g G2, C.w0.heap.size ≤ g → G g = none → Ge G C.w0.heap.size G2 → MapAt G2 g [] → X C cur2 k2 (s2 g) R2 G2) (K : (∀ g G2, C.w0.heap.size ≤ g → G g = none → Ge G C.w0.heap.size G2 → MapAt G2 g [] → X C cur2 k2 (s2 g) R2 G2) → X C cur k s R G) : X C cur k s R G := K HJ
end
end Go.Proofs.YthpinlcfcgnilaaX
