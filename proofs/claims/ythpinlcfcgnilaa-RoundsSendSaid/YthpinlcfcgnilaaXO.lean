/- A string ranged over: what goes through it lies in a new block of G. Conditions: none. -/
import Derived.Test.YthpinlcfcgnilaaXN
import Derived.Laws.RangeAny
namespace Go.Proofs.YthpinlcfcgnilaaX
open Go.RowKit
open Go.Proofs.YthpinlcfcgnilaaW.PrintLast Go.Proofs.YthpinlcfcgnilaaW.PrintWords
set_option linter.unusedVariables false
set_option linter.unusedSimpArgs false
def updG (G : Mem) (g : Nat) (o : Obj) : Mem := fun k => if k = g then some o else G k
theorem updG_at (G : Mem) (g : Nat) (o : Obj) : updG G g o g = some o := by simp [updG]
theorem updG_le {G : Mem} {g : Nat} {o : Obj} (h : G g = none) : Le G (updG G g o) := fun k x hk => by
  unfold updG
  split
  · rename_i e; subst e; rw [h] at hk; cases hk
  · exact hk
theorem updG_ge {G G' : Mem} {g n : Nat} {o : Obj} (h : Ge G n G') (hn : n ≤ g) (hg : G g = none) : Ge G n (updG G' g o) :=
  ⟨fun k x hk => by
    unfold updG
    split
    · rename_i e; subst e; rw [hg] at hk; cases hk
    · exact h.le k x hk, fun k x hk => by
    unfold updG at hk
    split at hk
    · rename_i e; subst e; exact .inr hn
    · exact h.new k x hk⟩
theorem St.freshG {w0 w : World} {M : Mk} {ρ : Nat → Nat} {G : Mem} {R : List (Nat × Row)} {s : S} {a : Act} (h : St w0 M ρ G R s a w) (ob : Obj) : St w0 M ρ (updG G w.heap.size ob) R s a (w.alloc ob) := by
  have k := h.alloc (o := ob)
  refine ⟨k.tm, k.sz, k.df, k.bx, k.bo, k.bi, k.rw, k.ro, k.ri, k.rb, fun q o hq => ?_, fun q o j b hq hj e => ?_, fun q o i r hq hi e => ?_, k.fr, k.pn⟩
  · unfold updG at hq
    split at hq
    · rename_i e; subst e; injection hq with hq; subst hq; show (w.heap.push ob)[w.heap.size]? = _; simp
    · exact k.g q o hq
  · unfold updG at hq
    split at hq
    · have := h.b_lt hj; omega
    · exact k.gb q o j b hq hj e
  · unfold updG at hq
    split at hq
    · rename_i e2; subst e2; have := h.r_lt hi e; omega
    · exact k.gr q o i r hq hi e
theorem St.turnG {w0 w : World} {M : Mk} {ρ : Nat → Nat} {G : Mem} {R : List (Nat × Row)} {s : S} {a : Act} {g : Nat} {ob : Obj} (h : St w0 M ρ G R s a w) (hg : G g = some ob) (hn : w0.heap.size ≤ g) (ob' : Obj) : St w0 M ρ (updG G g ob') R s a { w with heap := w.heap.setIfInBounds g ob' } := by
  have hlt := h.g_lt hg
  have hmd : Md (fun k => k = g) w { w with heap := w.heap.setIfInBounds g ob' } := ⟨rfl, rfl, rfl, by simp, fun k hk hne => by simp [Array.getElem?_setIfInBounds, Ne.symm hne]⟩
  have old : ∀ {q : Nat} {o' : Obj}, w.heap[q]? = some o' → q ≠ g → ({ w with heap := w.heap.setIfInBounds g ob' } : World).heap[q]? = some o' := fun {q o'} hq hne => (hmd.block q (Array.getElem?_eq_some_iff.1 hq).1 hne).trans hq
  refine ⟨h.tm, h.sz, h.df, fun i b hi => old (h.bx i b hi) (h.gb g ob i b hg hi), h.bo, h.bi, fun i r hi => ?_, h.ro, h.ri, h.rb, fun q o hq => ?_, fun q o j b hq hj e => ?_, fun q o i r hq hi e => ?_, h.fr.md hmd (fun i hi => by subst hi; exact .inl hn), h.pn⟩
  · obtain ⟨h1, h2⟩ := h.rw i r hi
    refine ⟨h1, ?_⟩
    rcases h2 with h2 | ⟨b, cap, cur, hv, hb', hh, rest⟩
    · exact .inl h2
    · exact .inr ⟨b, cap, cur, hv, hb', old hh (fun e => h.gr g ob i r hg hi (by rw [hv, ← e]; rfl)), rest⟩
  · unfold updG at hq
    split at hq
    · rename_i e; subst e; injection hq with hq; subst hq; simp [Array.getElem?_setIfInBounds, hlt]
    · rename_i e; exact old (h.g q o hq) e
  · unfold updG at hq
    split at hq
    · rename_i e2; subst e2; exact h.gb _ ob j b hg hj e
    · exact h.gb q o j b hq hj e
  · unfold updG at hq
    split at hq
    · rename_i e2; subst e2; exact h.gr _ ob i r hg hi e
    · exact h.gr q o i r hq hi e
section
variable {C : Ctx} {k : List CK} {s : S} {R : List (Nat × Row)} {G : Mem} {arr : Array Oper} {o : Oper} {r : List Oper}
def itOf (g : Nat) : Value := .pointer (some ⟨g, 0, none⟩)
theorem X.rangeStr {t : Nat} {x : Operand} {b : ByteArray} (hop : o.op = .range t x) (hx : s.ev x = some (.v (.string b))) (ht : C.P.underlying t = some .string) (hg : (guardOk s arr o && s.can o.dst) = true)
    (H : ∀ g G', C.w0.heap.size ≤ g → G g = none → Ge G C.w0.heap.size G' → G' g = some (.stringIter b 0) → X C (.ops arr r) k (s.put o.dst (.v (itOf g))) R G') : X C (.ops arr (o :: r)) k s R G := by
  simp only [Bool.and_eq_true] at hg
  refine X.op hg.1 fun ρ a w hs next hn => ?_
  have hN : G w.heap.size = none := by
    cases e : G w.heap.size with
    | none => rfl
    | some q => have := hs.g_lt e; omega
  refine wp_value (z := itOf w.heap.size) (w' := w.iter b 0) ?_ (hn ρ _ _ _ _ _ (H w.heap.size _ hs.fr.size hN (updG_ge (Ge.refl G _) hs.fr.size hN) (updG_at G _ _)) ((hs.freshG (.stringIter b 0)).put (x := .v (itOf w.heap.size)) hg.2))
  simp only [execOp, hop, hs.ev hx, AV.real]
  exact run_v (run_range_string w t b ht)
theorem X.nextStr {x : Operand} {b : ByteArray} {g pos : Nat} {Gp : Mem} (hpre : Ge Gp C.w0.heap.size G) (hgn : Gp g = none) (hop : o.op = .next x true) (hx : s.ev x = some (.v (itOf g))) (hG : G g = some (.stringIter b pos)) (hn : C.w0.heap.size ≤ g) (hp : pos < b.size) (hg : (guardOk s arr o && s.can o.dst) = true)
    (H : ∀ G', Ge Gp C.w0.heap.size G' → G' g = some (.stringIter b (pos + (Utf8.decode b pos).2)) → X C (.ops arr r) k (s.put o.dst (.v (.tuple #[.bool true, .int .i64 (pos : Int), .int .i32 ((Utf8.decode b pos).1 : Int)]))) R G') : X C (.ops arr (o :: r)) k s R G := by
  simp only [Bool.and_eq_true] at hg
  refine X.op hg.1 fun ρ a w hs next hnx => ?_
  have hh := hs.g g _ hG
  refine wp_value (w' := { w with heap := w.heap.setIfInBounds g (.stringIter b (pos + (Utf8.decode b pos).2)) }) ?_ (hnx ρ _ _ _ _ _ (H _ (updG_ge hpre hn hgn) (updG_at G g _)) ((hs.turnG hG hn _).put (x := .v _) hg.2))
  simp only [execOp, hop, hs.ev hx, AV.real]
  refine run_v ?_
  simp only [itOf, Instr.next, getObj, setObj, Sem.run_bind, Sem.run, hh, Result.andThen, hp, if_true]
  simp [goInt, Sem.run, hh]
theorem X.nextEnd {x : Operand} {b : ByteArray} {g pos : Nat} (hop : o.op = .next x true) (hx : s.ev x = some (.v (itOf g))) (hG : G g = some (.stringIter b pos)) (hp : ¬ pos < b.size) (hg : (guardOk s arr o && s.can o.dst) = true)
    (H : X C (.ops arr r) k (s.put o.dst (.v (.tuple #[.bool false]))) R G) : X C (.ops arr (o :: r)) k s R G := by
  simp only [Bool.and_eq_true] at hg
  refine X.op hg.1 fun ρ a w hs next hnx => ?_
  have hh := hs.g g _ hG
  refine wp_value (w' := w) ?_ (hnx ρ _ _ _ _ _ H (hs.put (x := .v _) hg.2))
  simp only [execOp, hop, hs.ev hx, AV.real]
  refine run_v ?_
  simp [itOf, Instr.next, getObj, Sem.run, hh, hp]
def byteAt (b : ByteArray) (n : Nat) : Int := (((b.data[n]?).getD 0).toNat : Int)
theorem byteAt_lt (b : ByteArray) (n : Nat) : 0 ≤ byteAt b n ∧ byteAt b n ≤ 255 := by
  unfold byteAt
  have := ((b.data[n]?).getD 0).toNat_lt
  omega
theorem byteAt_eq {b : ByteArray} {n : Nat} (h : n < b.size) : byteAt b n = ((b[n]'h).toNat : Int) := by
  have h' : n < b.data.size := h
  simp only [byteAt, Array.getElem?_eq_getElem h', Option.getD_some]
  rfl
theorem X.indexStr {t : Nat} {x ix : Operand} {b : ByteArray} {ki : IntKind} {i : Int} (hop : o.op = .index t x ix) (hx : s.ev x = some (.v (.string b))) (hi : s.ev ix = some (.v (.int ki i))) (ht : C.P.underlying t = some .string) (hg : (guardOk s arr o && s.can o.dst) = true) (h0 : 0 ≤ i) (h1 : i < (b.size : Int))
    (H : X C (.ops arr r) k (s.put o.dst (.v (.int .u8 (byteAt b i.toNat)))) R G) : X C (.ops arr (o :: r)) k s R G := by
  simp only [Bool.and_eq_true] at hg
  refine X.val _ hg.1 hg.2 (fun ρ a w hs => ?_) H
  simp only [execOp, hop, hs.ev hx, hs.ev hi, AV.real]
  refine run_v ?_
  have hlt : i.toNat < b.size := by omega
  have hb : b[i.toNat]? = some (b[i.toNat]'hlt) := getElem?_pos b i.toNat hlt
  rw [byteAt_eq hlt]
  simp [Instr.index, asIntOf, h0, hb, run_underlying ht]
theorem X.indexInts {t e len : Nat} {x ix : Operand} {ns : List Int} {kd ki : IntKind} {i : Int} {cs : Array Value} (hop : o.op = .index t x ix) (hx : s.ev x = some (.v (.agg cs))) (hc : cs = (ns.map (Value.int kd)).toArray) (hi : s.ev ix = some (.v (.int ki i))) (ht : C.P.underlying t = some (.array len e)) (hz : spure C.P (sizeOf e) = some 1) (hag : spure C.P (isAgg e) = some false) (hl : ns.length = len) (hg : (guardOk s arr o && s.can o.dst) = true) (h0 : 0 ≤ i) (h1 : i < (len : Int))
    (H : X C (.ops arr r) k (s.put o.dst (.v (.int kd (ns.getD i.toNat 0)))) R G) : X C (.ops arr (o :: r)) k s R G := by
  simp only [Bool.and_eq_true] at hg
  refine X.val _ hg.1 hg.2 (fun ρ a w hs => ?_) H
  simp only [execOp, hop, hs.ev hx, hs.ev hi, AV.real]
  refine run_v ?_
  subst hc
  have hlt : i.toNat < ns.length := by omega
  have hq : (part e (ns.map (Value.int kd)).toArray (i.toNat * 1)).run C.P w = .ok (.int kd (ns.getD i.toNat 0)) w := by
    unfold part
    rw [run_bind_ok (spure_run hag w)]
    simp [hlt]
  simp only [Instr.index, asIntOf]
  simp only [Sem.run_bind, Sem.run_pure, Result.andThen_ok, run_underlying ht, h0, h1, and_self, if_true, spure_run hz w]
  exact hq
end
end Go.Proofs.YthpinlcfcgnilaaX
