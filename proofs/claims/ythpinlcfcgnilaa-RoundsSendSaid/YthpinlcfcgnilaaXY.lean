/- Maps whose keys are numbers and whose values are all true: they lie in a block of G. Conditions: none. -/
import Derived.Test.YthpinlcfcgnilaaXW
namespace Go.Proofs.YthpinlcfcgnilaaX
open Go.RowKit
open Go.Proofs.YthpinlcfcgnilaaW.PrintLast Go.Proofs.YthpinlcfcgnilaaW.PrintWords
set_option linter.unusedVariables false
set_option linter.unusedSimpArgs false
def kv (e : MapEntry) : Value × Value := (e.key, e.val)
def kvs (ks : List Int) : List (Value × Value) := ks.map fun x => (.int .i64 x, .bool true)
def MapAt (G : Mem) (g : Nat) (ks : List Int) : Prop := ∃ es clock, G g = some (.map es clock) ∧ es.toList.map kv = kvs ks
theorem MapAt.mono {G G' : Mem} {g : Nat} {ks : List Int} (h : MapAt G g ks) (hl : Le G G') : MapAt G' g ks := by
  obtain ⟨es, c, h1, h2⟩ := h
  exact ⟨es, c, hl _ _ h1, h2⟩
theorem findNow_ok (x : Int) : ∀ (es : List MapEntry) (ks : List Int) (i : Nat), es.map kv = kvs ks → Instr.findNow (.int .i64) (.int .i64 x) es i = some (if x ∈ ks then some (i + ks.idxOf x, .bool true) else none)
  | [], [], i, _ => by simp [Instr.findNow]
  | [], k :: ks, i, h => by simp [kvs] at h
  | e :: es, [], i, h => by simp [kvs] at h
  | e :: es, k :: ks, i, h => by
    simp only [List.map_cons, kvs, List.cons.injEq] at h
    obtain ⟨h1, h2⟩ := h
    simp only [kv, Prod.mk.injEq] at h1
    obtain ⟨h1, h3⟩ := h1
    have ih := findNow_ok x es ks (i + 1) h2
    simp only [Instr.findNow, h1, Instr.sameNow, if_true]
    by_cases hx : x = k
    · subst hx
      simp [h3]
    · have hb : (x == k) = false := by simpa using hx
      have hb2 : (k == x) = false := by simpa using fun e => hx e.symm
      simp only [hb]
      rw [ih]
      simp only [List.mem_cons, hx, false_or, List.idxOf_cons, hb2]
      split
      · simp; omega
      · rfl
theorem checkKey_ok {P : Program} {b : Bool} {t : TypeId} {x : Int} (n : Nat) (ht : P.underlying t = some (.int .i64)) (w : World) : (Instr.checkKey b (n + 1) t (.int .i64 x)).run P w = .ok () w := by
  simp only [Instr.checkKey]
  rw [run_bind_ok (run_underlying ht w)]
  rfl
theorem findKey_ok {P : Program} {t : TypeId} {x : Int} {es : Array MapEntry} {ks : List Int} (ht : P.underlying t = some (.int .i64)) (h : es.toList.map kv = kvs ks) (w : World) : (Instr.findKey t (.int .i64 x) es.toList).run P w = .ok (if x ∈ ks then some (ks.idxOf x, .bool true) else none) w := by
  unfold Instr.findKey
  rw [run_bind_ok (run_underlying ht w), findNow_ok x es.toList ks 0 h]
  simp
theorem getObj_ok {P : Program} {g clock : Nat} {es : Array MapEntry} {w : World} (h : w.heap[g]? = some (.map es clock)) : (getObj g).run P w = .ok (.map es clock) w := by simp [getObj, Sem.run, h]
theorem setObj_ok {P : Program} {g clock : Nat} {es : Array MapEntry} {ob' : Obj} {w : World} (h : w.heap[g]? = some (.map es clock)) : (setObj g ob').run P w = .ok () { w with heap := w.heap.setIfInBounds g ob' } := by simp [setObj, Sem.run, h]
theorem map_eraseIdx' {α β : Type} (f : α → β) : ∀ (l : List α) (i : Nat), (l.eraseIdx i).map f = (l.map f).eraseIdx i
  | [], _ => by simp
  | x :: l, 0 => by simp
  | x :: l, i + 1 => by simp [map_eraseIdx' f l i]
theorem lookup_run {P : Program} {t kt et : TypeId} {g clock : Nat} {x : Int} {es : Array MapEntry} {ks : List Int} {w : World} (ht : P.underlying t = some (.map kt et)) (hk : P.underlying kt = some (.int .i64)) (hz : spure P (zeroValue et) = some (.bool false)) (hg : w.heap[g]? = some (.map es clock)) (h : es.toList.map kv = kvs ks) : (Instr.lookup t (.map (some g)) (.int .i64 x) false).run P w = .ok (.bool (decide (x ∈ ks))) w := by
  unfold Instr.lookup
  rw [run_bind_ok (run_underlying ht w)]
  simp only
  rw [run_bind_ok (getObj_ok hg)]
  simp only
  rw [run_bind_ok (show (pure es : Sem (Array MapEntry)).run P w = .ok es w from rfl), run_bind_ok (checkKey_ok 9999 hk w), run_bind_ok (findKey_ok hk h w)]
  by_cases hx : x ∈ ks
  · simp [hx]
  · simp only [hx, if_false]
    rw [run_bind_ok (spure_run hz w)]
    simp
theorem update_run {P : Program} {t kt et : TypeId} {g clock : Nat} {x : Int} {es : Array MapEntry} {ks : List Int} {w : World} (ht : P.underlying t = some (.map kt et)) (hk : P.underlying kt = some (.int .i64)) (hg : w.heap[g]? = some (.map es clock)) (h : es.toList.map kv = kvs ks) : ∃ es' clock', (Instr.mapUpdate t (.map (some g)) (.int .i64 x) (.bool true)).run P w = .ok () { w with heap := w.heap.setIfInBounds g (.map es' clock') } ∧ es'.toList.map kv = kvs (if x ∈ ks then ks else ks ++ [x]) := by
  unfold Instr.mapUpdate
  rw [run_bind_ok (run_underlying ht w)]
  simp only
  rw [run_bind_ok (getObj_ok hg)]
  simp only
  rw [run_bind_ok (checkKey_ok 9999 hk w), run_bind_ok (findKey_ok hk h w)]
  by_cases hx : x ∈ ks
  · simp only [hx, if_true]
    have hi : ks.idxOf x < ks.length := List.idxOf_lt_length_of_mem hx
    have hl : es.toList.length = ks.length := by have := congrArg List.length h; simpa [kvs] using this
    have hie : ks.idxOf x < es.size := by rw [← Array.length_toList, hl]; exact hi
    have hk0 : kv es[ks.idxOf x] = (.int .i64 x, .bool true) := by
      have h3 : (es.toList.map kv)[ks.idxOf x]? = (kvs ks)[ks.idxOf x]? := by rw [h]
      rw [List.getElem?_map, List.getElem?_eq_getElem (by rw [hl]; exact hi)] at h3
      simp only [kvs, List.getElem?_map, List.getElem?_eq_getElem hi, Option.map_some, Option.some.injEq, List.getElem_idxOf] at h3
      simpa using h3
    have hst : (Instr.keyThatStays (((es[ks.idxOf x]?).map (·.key)).getD (.int .i64 x)) (.int .i64 x)).run P w = .ok (.int .i64 x) w := by
      have hkey : es[ks.idxOf x].key = .int .i64 x := congrArg Prod.fst hk0
      simp only [Array.getElem?_eq_getElem hie, Option.map_some, Option.getD_some, hkey]
      unfold Instr.keyThatStays
      have : Instr.sameBits 10000 (.int .i64 x) (.int .i64 x) = true := by unfold Instr.sameBits; simp
      simp only [this, if_true]
      rfl
    rw [run_bind_ok hst]
    refine ⟨_, clock, setObj_ok hg, ?_⟩
    rw [Array.toList_modify, ← h]
    apply List.ext_getElem?
    intro j
    rw [List.getElem?_map, List.getElem?_map, List.getElem?_modify]
    by_cases hj : ks.idxOf x = j
    · subst hj
      simp only [if_true, Array.getElem?_toList, Array.getElem?_eq_getElem hie, Option.map_some, Option.map_eq_map]
      rw [hk0]
      rfl
    · simp [hj]
  · simp only [hx, if_false]
    refine ⟨_, clock + 1, setObj_ok hg, ?_⟩
    simp [kvs, kv] at h ⊢
    rw [← h]
theorem delete_run {P : Program} {t kt et ty : TypeId} {g clock : Nat} {x : Int} {es : Array MapEntry} {ks : List Int} {w : World} (ht : P.underlying t = some (.map kt et)) (hk : P.underlying kt = some (.int .i64)) (hg : w.heap[g]? = some (.map es clock)) (h : es.toList.map kv = kvs ks) : ∃ es' clock', (Builtin.delete_ #[t, kt] ty #[.map (some g), .int .i64 x]).run P w = .ok (.tuple #[]) { w with heap := w.heap.setIfInBounds g (.map es' clock') } ∧ es'.toList.map kv = kvs (ks.erase x) := by
  unfold Builtin.delete_
  simp only [List.getElem?_toArray, List.getElem?_cons_zero, List.getElem?_cons_succ]
  rw [run_bind_ok (run_underlying ht w)]
  simp only
  rw [run_bind_ok (getObj_ok hg)]
  simp only
  rw [run_bind_ok (checkKey_ok 9999 hk w), run_bind_ok (findKey_ok hk h w)]
  by_cases hx : x ∈ ks
  · simp only [hx, if_true]
    refine ⟨_, clock, run_bind_ok (setObj_ok hg), ?_⟩
    have hl : es.toList.length = ks.length := by have := congrArg List.length h; simpa [kvs] using this
    have hi : ks.idxOf x < es.size := by rw [← Array.length_toList, hl]; exact List.idxOf_lt_length_of_mem hx
    rw [Array.eraseIdxIfInBounds, dif_pos hi, Array.toList_eraseIdx, List.erase_eq_eraseIdx_of_idxOf (rfl : ks.idxOf x = ks.idxOf x)]
    unfold kvs at h ⊢
    rw [map_eraseIdx', map_eraseIdx', h]
  · simp only [hx, if_false]
    refine ⟨_, clock, run_bind_ok (setObj_ok hg), ?_⟩
    rw [List.erase_of_not_mem hx]
    exact h
section
variable {C : Ctx} {k : List CK} {s : S} {R : List (Nat × Row)} {G : Mem} {arr : Array Oper} {o : Oper} {r : List Oper}
theorem X.makeMap {t : Nat} (hop : o.op = .makeMap t none) (hg : (guardOk s arr o && s.can o.dst) = true)
    (H : ∀ g G', C.w0.heap.size ≤ g → G g = none → Ge G C.w0.heap.size G' → MapAt G' g [] → X C (.ops arr r) k (s.put o.dst (.v (.map (some g)))) R G') : X C (.ops arr (o :: r)) k s R G := by
  simp only [Bool.and_eq_true] at hg
  refine X.op hg.1 fun ρ a w hs next hn => ?_
  have hN : G w.heap.size = none := by
    cases e : G w.heap.size with
    | none => rfl
    | some q => have := hs.g_lt e; omega
  refine wp_value (z := .map (some w.heap.size)) (w' := w.alloc (.map #[] 0)) ?_ (hn ρ _ _ _ _ _ (H w.heap.size _ hs.fr.size hN (updG_ge (Ge.refl G _) hs.fr.size hN) ⟨#[], 0, updG_at G _ _, rfl⟩) ((hs.freshG (.map #[] 0)).put (x := .v (.map (some w.heap.size))) hg.2))
  simp only [execOp, hop, Option.map_none]
  exact run_v (run_makeMap t w)
theorem X.lookup {t kt et g : Nat} {x y : Operand} {j : Int} {ks : List Int} (hop : o.op = .lookup t x y false) (hx : s.ev x = some (.v (.map (some g)))) (hy : s.ev y = some (.v (.int .i64 j))) (ht : C.P.underlying t = some (.map kt et)) (hk : C.P.underlying kt = some (.int .i64)) (hz : spure C.P (zeroValue et) = some (.bool false)) (hm : MapAt G g ks) (hg : (guardOk s arr o && s.can o.dst) = true)
    (H : X C (.ops arr r) k (s.put o.dst (.v (.bool (decide (j ∈ ks))))) R G) : X C (.ops arr (o :: r)) k s R G := by
  simp only [Bool.and_eq_true] at hg
  obtain ⟨es, clock, h1, h2⟩ := hm
  refine X.val _ hg.1 hg.2 (fun ρ a w hs => ?_) H
  simp only [execOp, hop, hs.ev hx, hs.ev hy, AV.real]
  exact run_v (lookup_run ht hk hz (hs.g _ _ h1) h2)
theorem X.mapUpdate {t kt et g : Nat} {x y z : Operand} {j : Int} {ks : List Int} {Gp : Mem} (hpre : Ge Gp C.w0.heap.size G) (hgn : Gp g = none) (hn : C.w0.heap.size ≤ g) (hop : o.op = .mapUpdate t x y z) (hx : s.ev x = some (.v (.map (some g)))) (hy : s.ev y = some (.v (.int .i64 j))) (hz : s.ev z = some (.v (.bool true))) (ht : C.P.underlying t = some (.map kt et)) (hk : C.P.underlying kt = some (.int .i64)) (hm : MapAt G g ks) (hg : (guardOk s arr o && s.can o.dst) = true)
    (H : ∀ G', Ge Gp C.w0.heap.size G' → MapAt G' g (if j ∈ ks then ks else ks ++ [j]) → X C (.ops arr r) k (s.put o.dst (.v undef)) R G') : X C (.ops arr (o :: r)) k s R G := by
  simp only [Bool.and_eq_true] at hg
  obtain ⟨es, clock, h1, h2⟩ := hm
  refine X.op hg.1 fun ρ a w hs next hnx => ?_
  obtain ⟨es', clock', h3, h4⟩ := update_run (x := j) ht hk (hs.g _ _ h1) h2
  refine wp_skip' (w' := { w with heap := w.heap.setIfInBounds g (.map es' clock') }) ?_ (hnx ρ _ _ _ _ _ (H _ (updG_ge hpre hn hgn) ⟨es', clock', updG_at G g _, h4⟩) ((hs.turnG h1 hn _).put (x := .v undef) hg.2))
  simp only [execOp, hop, hs.ev hx, hs.ev hy, hs.ev hz, AV.real]
  rw [run_bind_ok h3]
  rfl
theorem X.delete {t kt et g : Nat} {x y : Operand} {j : Int} {ks : List Int} {Gp : Mem} (hpre : Ge Gp C.w0.heap.size G) (hgn : Gp g = none) (hn : C.w0.heap.size ≤ g) (hop : o.op = .call { callee := .builtin .delete, args := #[x, y], argTypes := #[t, kt] }) (hx : s.ev x = some (.v (.map (some g)))) (hy : s.ev y = some (.v (.int .i64 j))) (ht : C.P.underlying t = some (.map kt et)) (hk : C.P.underlying kt = some (.int .i64)) (hm : MapAt G g ks) (hg : (guardOk s arr o && s.can o.dst) = true)
    (H : ∀ G', Ge Gp C.w0.heap.size G' → MapAt G' g (ks.erase j) → X C (.ops arr r) k (s.put o.dst (.v (.tuple #[]))) R G') : X C (.ops arr (o :: r)) k s R G := by
  simp only [Bool.and_eq_true] at hg
  obtain ⟨es, clock, h1, h2⟩ := hm
  refine X.op hg.1 fun ρ a w hs next hnx => ?_
  obtain ⟨es', clock', h3, h4⟩ := delete_run (ty := o.type) (x := j) ht hk (hs.g _ _ h1) h2
  refine wp_value (w' := { w with heap := w.heap.setIfInBounds g (.map es' clock') }) ?_ (hnx ρ _ _ _ _ _ (H _ (updG_ge hpre hn hgn) ⟨es', clock', updG_at G g _, h4⟩) ((hs.turnG h1 hn _).put (x := .v _) hg.2))
  unfold execOp
  simp only [hop]
  unfold resolve
  have e1 : (#[x, y] : Array Operand).map a.eval = #[.map (some g), .int .i64 j] := by simp [hs.ev hx, hs.ev hy, AV.real]
  simp only [e1]
  rw [run_bind_ok (show (pure _ : Sem Deferred).run C.P w = .ok _ w from rfl)]
  unfold invoke
  exact run_v h3
end
end Go.Proofs.YthpinlcfcgnilaaX
