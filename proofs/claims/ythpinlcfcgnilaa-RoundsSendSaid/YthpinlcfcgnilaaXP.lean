/- A slice of an array of the own: the array goes over into what stays. Conditions: none. -/
import Derived.Test.YthpinlcfcgnilaaXO
namespace Go.Proofs.YthpinlcfcgnilaaX
open Go.RowKit
open Go.Proofs.YthpinlcfcgnilaaW.PrintLast Go.Proofs.YthpinlcfcgnilaaW.PrintWords
set_option linter.unusedVariables false
set_option linter.unusedSimpArgs false
theorem lk_filter {β : Type} {l : List (Nat × β)} {b i : Nat} {x : β} (h : lk (l.filter (fun p => p.1 != b)) i = some x) : i ≠ b ∧ lk l i = some x := by
  induction l with
  | nil => cases h
  | cons p l ih =>
    obtain ⟨j, y⟩ := p
    rw [List.filter_cons] at h
    by_cases e : j = b
    · subst e
      simp only [bne_self_eq_false, Bool.false_eq_true, if_false] at h
      obtain ⟨h1, h2⟩ := ih h
      exact ⟨h1, by rw [lk_cons, if_neg (Ne.symm h1)]; exact h2⟩
    · have e' : (j != b) = true := by simpa using e
      simp only [e', if_true] at h
      rw [lk_cons] at h
      by_cases e2 : j = i
      · subst e2
        rw [if_pos rfl] at h
        exact ⟨e, by rw [lk_cons, if_pos rfl]; exact h⟩
      · rw [if_neg e2] at h
        obtain ⟨h1, h2⟩ := ih h
        exact ⟨h1, by rw [lk_cons, if_neg e2]; exact h2⟩
def S.less (s : S) (b : Nat) : S := ⟨s.n, s.tmps, s.boxes.filter (fun p => p.1 != b)⟩
theorem St.boxG {w0 w : World} {M : Mk} {ρ : Nat → Nat} {G : Mem} {R : List (Nat × Row)} {s : S} {a : Act} {b : Nat} {bx : Box} (h : St w0 M ρ G R s a w) (hb : lk s.boxes b = some bx) : St w0 M ρ (updG G (ρ b) (bx.obj ρ)) R (s.less b) a w := by
  refine ⟨h.tm, h.sz, h.df, fun i c hi => h.bx i c (lk_filter hi).2, fun i c hi => h.bo i c (lk_filter hi).2, fun i j c q hi hj e => h.bi i j c q (lk_filter hi).2 (lk_filter hj).2 e, h.rw, h.ro, h.ri, fun i j r c hi hj => h.rb i j r c hi (lk_filter hj).2, fun q o hq => ?_, fun q o j c hq hj e => ?_, fun q o i r hq hi e => ?_, h.fr, h.pn⟩
  · unfold updG at hq
    split at hq
    · rename_i e; subst e; injection hq with hq; subst hq; exact h.bx b bx hb
    · exact h.g q o hq
  · unfold updG at hq
    split at hq
    · rename_i e2; subst e2; exact (lk_filter hj).1 (h.bi j b c bx (lk_filter hj).2 hb e)
    · exact h.gb q o j c hq (lk_filter hj).2 e
  · unfold updG at hq
    split at hq
    · rename_i e2; subst e2; exact h.rb i b r bx hi hb e
    · exact h.gr q o i r hq hi e
section
variable {C : Ctx} {k : List CK} {s : S} {R : List (Nat × Row)} {G : Mem} {arr : Array Oper} {o : Oper} {r : List Oper}
theorem X.sliceBox {t e len bt b : Nat} {x : Operand} {kd : IntKind} {cs : List AV} (ns : List Int) (hop : o.op = .slice t x none none none) (hx : s.ev x = some (.own b 0)) (hb : lk s.boxes b = some ⟨bt, cs⟩) (hc : cs = ns.map (fun n => .v (.int kd n))) (ht : C.P.underlying t = some (.array len e)) (hz : spure C.P (sizeOf e) = some 1) (hl : ns.length = len) (hM : ∀ g, ¬ C.M.can g) (hr : ∀ n ∈ ns, IntKind.lo kd ≤ n ∧ n ≤ IntKind.hi kd) (hg : (guardOk s arr o && s.can o.dst) = true)
    (H : ∀ A G', Ge G C.w0.heap.size G' → rowAt (D.int kd) G' A ns → X C (.ops arr r) k ((s.less b).put o.dst (.v (.slice A len len))) R G') : X C (.ops arr (o :: r)) k s R G := by
  simp only [Bool.and_eq_true] at hg
  refine X.op hg.1 fun ρ a w hs next hn => ?_
  have hle : C.w0.heap.size ≤ ρ b := (hs.bo b _ hb).resolve_right (hM _)
  have hN : G (ρ b) = none := by
    cases e : G (ρ b) with
    | none => rfl
    | some q => exact absurd rfl (hs.gb _ _ _ _ e hb)
  subst hc
  have hrow : rowAt (D.int kd) (updG G (ρ b) ((⟨bt, ns.map (fun n => .v (.int kd n))⟩ : Box).obj ρ)) (some ⟨ρ b, 0, none⟩) ns := fun i hi => by
    refine ⟨_, [.int kd ns[i]], rfl, ⟨rfl, hr _ (List.getElem_mem hi)⟩, fun j v hj => ?_⟩
    cases j with
    | succ j => simp at hj
    | zero =>
      simp only [List.getElem?_cons_zero, Option.some.injEq] at hj
      subst hj
      have e1 : (⟨ρ b, 0, none⟩ : Addr).add (i * (D.int kd).sz + 0) = ⟨ρ b, i, none⟩ := by rw [add_ptr]; show (⟨ρ b, 0 + (i * 1 + 0), none⟩ : Addr) = _; simp
      rw [e1]
      unfold cellG
      simp only [updG_at]
      simp [Box.obj, List.getElem?_map, hi, AV.real]
  refine wp_value (z := .slice (some ⟨ρ b, 0, none⟩) len len) (w' := w) ?_ (hn ρ _ _ _ _ _ (H (some ⟨ρ b, 0, none⟩) _ (updG_ge (Ge.refl G _) hle hN) hrow) ((hs.boxG hb).put (x := .v _) hg.2))
  simp only [execOp, hop, hs.ev hx, AV.real, Option.map_none]
  refine run_v ?_
  unfold Instr.sliceAt
  rw [run_bind_ok (run_underlying ht w)]
  simp only
  rw [run_bind_ok (show (Instr.sureAddr (ptr (ρ b) 0)).run C.P w = .ok ⟨ρ b, 0, none⟩ w by rfl)]
  rw [run_bind_ok (show (Instr.sliceBounds false len len none none none).run C.P w = .ok (0, len, len) w by simp [Instr.sliceBounds])]
  simp only
  rw [run_bind_ok (spure_run hz w)]
  have e3 : (if len = 0 then (⟨ρ b, 0, none⟩ : Addr) else (⟨ρ b, 0, none⟩ : Addr).add (0 * 1)) = ⟨ρ b, 0, none⟩ := by split <;> simp [add_ptr]
  simp only [Nat.sub_zero]
  rw [e3]
  rfl
theorem X.freezeHd {cur : Cur} {i n c : Nat} {q : Row} {A : Option Addr} {kd : IntKind} (ns : List Int) (hqv : q.v = .slice A n c) (hcs : q.cells = ns.map (Value.int kd)) (hr : ∀ x ∈ ns, IntKind.lo kd ≤ x ∧ x ≤ IntKind.hi kd) (hn : R.all (fun p => p.1 != i) = true) (hM : ∀ x, ¬ C.M.can x)
    (H : ∀ G', Ge G C.w0.heap.size G' → rowAt (D.int kd) G' A ns → X C cur k s R G') : X C cur k s ((i, q) :: R) G := by
  refine X.freeze (i := i) (q := q) (R' := R) (by rw [lk_cons, if_pos rfl]) hqv (fun j p hj => ?_) (fun G' hG hc => H G' hG ?_) hM
  · have hne : j ≠ i := by
      have := List.all_eq_true.mp hn _ (lk_mem hj)
      simpa using this
    exact ⟨hne, by rw [lk_cons, if_neg (Ne.symm hne)]; exact hj⟩
  · exact rowAt_of_cells (reps_ints hr) (Nat.succ_pos 0) (by rw [← hcs]; exact hc)
end
section
variable {C : Ctx} {arr : Array Oper} {ρ0 : Nat → Nat} {F : List Pin} {RF : List (Nat × Row)} {G0 G : Mem} {ds : List Nat} {n : Nat} {l l' : Array Bool} {k : List CK} {s : S} {R : List (Nat × Row)}
/-- A move, first, behind a store too. -/
theorem XD.pureMove {i : Nat} (o : Oper) {x : Operand} (y : AV) (hQ : QOk C) (ho : arr[i]? = some o) (hop : o.op = .move x) (hx : s.ev x = some y) (hc : anyB .any arr l l' i = true) (hg : (guardOk s arr o && s.can o.dst) = true) (hd : F.all (offPin o.dst) = true)
    (H : XD C arr ρ0 F RF G0 ds n l' k (s.put o.dst y) R G) : XD C arr ρ0 F RF G0 ds (n + 1) l k s R G := by
  intro hr hp hG hR ρ a w hs ha
  simp only [Bool.and_eq_true] at hg
  refine pure_ (N := o.dst) l' ho rfl hc (fun c a w h => den_panic hQ k c a w _ _ h) (v := y.real ρ) (.inl ⟨guardOk_ok hg.1 hs, fun w2 => ?_⟩) rfl ?_
  · rw [← hs.ev hx]
    simp [execOp, hop]
  · exact H hr (hp.put hd) hG hR ρ _ w (hs.put hg.2) (ha.put hd)
end
theorem strT {a b : ByteArray} (h : (a.toList == b.toList) = true) : a = b := by
  have h := eq_of_beq h
  rw [ByteArray.toList_eq, ByteArray.toList_eq] at h
  exact str_inj.mp h
theorem strF {a b : ByteArray} (h : (a.toList == b.toList) = false) : a ≠ b := fun e => by
  subst e
  simp at h
section
variable {C : Ctx} {arr : Array Oper} {ρ0 : Nat → Nat} {F : List Pin} {RF : List (Nat × Row)} {G0 G : Mem} {ds : List Nat} {n : Nat} {l l' : Array Bool} {k : List CK} {s : S} {R : List (Nat × Row)}
/-- The place of an element in an array of the own. -/
theorem XD.ownIndex {i : Nat} (o : Oper) {t e len b off j m : Nat} {ki : IntKind} {x ix : Operand} (hQ : QOk C) (ho : arr[i]? = some o) (hc : takeB .any arr ds l l' i = true) (hop : o.op = .indexAddr t x ix) (hx : s.ev x = some (.own b off)) (hi : s.ev ix = some (.v (.int ki (j : Int)))) (ht : C.P.underlying t = some (.array len e)) (hz : spure C.P (sizeOf e) = some m) (hj : j < len) (hg : (guardOk s arr o && s.can o.dst) = true) (hd : F.all (offPin o.dst) = true)
    (H : XD C arr ρ0 F RF G0 ds n l' k (s.put o.dst (.own b (off + j * m))) R G) : XD C arr ρ0 F RF G0 ds (n + 1) l k s R G := by
  refine XD.takeV (.own b (off + j * m)) hQ ho hc hg (fun ρ a w hs => ?_) hd H
  have h1 : (s.pinned F).ev x = some (.own b off) := by cases x <;> exact hx
  have h2 : (s.pinned F).ev ix = some (.v (.int ki (j : Int))) := by cases ix <;> exact hi
  simp only [execOp, hop, hs.ev h1, hs.ev h2, AV.real]
  exact run_v (index_run ht hz hj)
end
end Go.Proofs.YthpinlcfcgnilaaX
