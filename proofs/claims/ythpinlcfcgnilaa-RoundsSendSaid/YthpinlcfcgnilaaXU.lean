/- A string appended; a string cut in a drawn region. Conditions: none. -/
import Derived.Test.YthpinlcfcgnilaaXT
import Derived.Lib.AppendStr
namespace Go.Proofs.YthpinlcfcgnilaaX
open Go.RowKit
open Go.Proofs.YthpinlcfcgnilaaW.PrintLast Go.Proofs.YthpinlcfcgnilaaW.PrintWords
set_option linter.unusedVariables false
set_option linter.unusedSimpArgs false
set_option maxRecDepth 100000
theorem run_appendStr {P : Program} (w : World) (t u ty e : TypeId) (i : TypeInfo) (ht : P.underlying t = some (.slice e)) (hu : P.underlying u = some .string) (hi : P.info? e = some i) (hz : i.zero = some (.int .u8 0)) (hsize : i.size = 1) (hby : i.bytes = 1)
    (v : Value) (n : Nat) (xs : List Value) (hown : w.ownsRow 0 e 1 v n xs) (s : ByteArray) (hb : n + s.size ≤ 140737488355328) :
    ∃ v' w', (Builtin.append_ #[t, u] ty #[v, .string s]).run P w = .ok v' w' ∧ w'.ownsRow 0 e 1 v' (n + s.size) (xs ++ Lib.strCells s) ∧ w.grownBy w' v.ownBlock ∧ (v'.ownBlock = v.ownBlock ∨ v'.ownBlock = some w.heap.size) := by
  obtain ⟨v', w', r1, r2, r3, r4⟩ := Lib.run_append_own_string (P := P) w 0 t u ty e i ht hu hi hz hsize hby v n xs hown s (by simp only [maxLen]; omega) hb (Nat.zero_le _)
  refine ⟨v', w', r1, r2, r3, ?_⟩
  have hxl : xs.length = n := by simpa using hown.1
  rcases hown.2 with ⟨rfl, rfl⟩ | ⟨g, cap, cur, rfl, hbg, hg, hnc, hcm, hcs, htake⟩
  · by_cases hm : s.size = 0
    · exact .inl (by rw [r4.2 ⟨rfl, hm⟩])
    · have hr := run_append_nil_string (P := P) w t u ty e i (.int .u8 0) ht hu hi hz s (by omega) (by omega) (by rw [hby]; omega)
      rw [r1] at hr
      injection hr with h1 h2
      exact .inr (by rw [h1]; rfl)
  · by_cases hroom : n + s.size ≤ cap
    · have hcs' : cur.size = cap := by simpa using hcs
      have hr := Lib.run_append_room_string (P := P) w t u ty e i ht hu hi hsize g n cap cur hg s hroom (by omega)
      rw [r1] at hr
      injection hr with h1 h2
      exact .inl (by rw [h1]; rfl)
    · have holds : ∀ j u, xs[j]? = some u → w.cell? ((⟨g, 0, none⟩ : Addr).add j) = some u := hown.cells (g := g) rfl
      have hr := Lib.run_append_grow_string (P := P) w t u ty e i (.int .u8 0) ht hu hi hz ⟨g, 0, none⟩ n cap xs (by rw [hsize]; simpa using hxl) holds s (by omega) (by omega) (by rw [hby]; exact growslice_fits (by omega) (by omega))
      rw [r1] at hr
      injection hr with h1 h2
      exact .inr (by rw [h1]; rfl)
theorem strCells_bytes (s : ByteArray) : Lib.strCells s = (bytesL s).map (Value.int .u8) := by
  simp [Lib.strCells, bytesL]
section
variable {C : Ctx} {k : List CK} {s : S} {R : List (Nat × Row)} {G : Mem} {arr : Array Oper} {o : Oper} {r : List Oper}
theorem X.appendStr (i : Nat) (q : Row) (t u : Nat) {x y : Operand} {n c : Nat} {A : Option Addr} {b : ByteArray}
    (hop : o.op = .call { callee := .builtin .append, args := #[x, y], argTypes := #[t, u] }) (hx : s.ev x = some (.v (.slice A n c))) (hy : s.ev y = some (.v (.string b)))
    (ht : C.P.underlying t = some (.slice q.e)) (hu : C.P.underlying u = some .string) (hinfo : (C.P.info? q.e).map (fun i => (i.zero, i.size, i.bytes)) = some (some (.int .u8 0), 1, 1)) (hqs : q.size = 1) (hg : (guardOk s arr o && s.can o.dst) = true)
    (hq : lk R i = some q ∨ (A = none ∧ c = 0 ∧ q.n = 0 ∧ q.cells = [])) (hqv : q.v = .slice A n c) (hqn : q.n = n) (hb : n + b.size ≤ 140737488355328)
    (H : ∀ A' c', n + b.size ≤ c' → X C (.ops arr r) k (s.put o.dst (.v (.slice A' (n + b.size) c'))) ((i, ⟨q.e, 1, .slice A' (n + b.size) c', n + b.size, q.cells ++ (bytesL b).map (Value.int .u8)⟩) :: R) G) : X C (.ops arr (o :: r)) k s R G := by
  simp only [Bool.and_eq_true] at hg
  refine X.op hg.1 fun ρ a w hs next hnx => ?_
  obtain ⟨i0, hi, hzz⟩ := Option.map_eq_some_iff.1 hinfo
  simp only [Prod.mk.injEq] at hzz
  obtain ⟨hz0, hz1, hz2⟩ := hzz
  have hown : w.ownsRow 0 q.e 1 (.slice A n c) n q.cells := by
    rcases hq with hq | ⟨rfl, rfl, h3, h4⟩
    · have := hs.rw i q hq
      rw [hqv, hqn, hqs] at this
      exact this
    · rw [hqn] at h3
      subst h3
      rw [h4]
      exact World.ownsRow_nil w 0 q.e 1
  have hold : ∀ g, (Value.slice A n c).ownBlock = some g → ∃ p, lk R i = some p ∧ p.v.ownBlock = some g := fun g hg' => by
    rcases hq with hq | ⟨rfl, _⟩
    · exact ⟨q, hq, by rw [hqv]; exact hg'⟩
    · simp [Value.ownBlock] at hg'
  obtain ⟨v', w', r1, r2, r3, r5⟩ := run_appendStr (P := C.P) w t u o.type q.e i0 ht hu hi hz0 hz1 hz2 (.slice A n c) n q.cells hown b hb
  rw [strCells_bytes] at r2
  obtain ⟨A', c', hv', hle⟩ : ∃ A' c', v' = .slice A' (n + b.size) c' ∧ n + b.size ≤ c' := by
    rcases r2.2 with ⟨h2, h3⟩ | ⟨g, cap, cur, h2, _, _, h3, _⟩
    · exact ⟨none, 0, by rw [h2, h3], by omega⟩
    · exact ⟨_, cap, h2, h3⟩
  subst hv'
  have hrun : (execOp a.eval o).run C.P w = .ok (.value (.slice A' (n + b.size) c')) w' := by
    unfold execOp
    simp only [hop]
    unfold resolve
    have e : (#[x, y] : Array Operand).map a.eval = #[.slice A n c, .string b] := by simp [hs.ev hx, hs.ev hy, AV.real]
    simp only [e]
    rw [run_bind_ok (show (pure _ : Sem Deferred).run C.P w = .ok _ w from rfl)]
    unfold invoke
    exact run_v r1
  refine wp_value hrun (hnx ρ _ _ _ _ _ (H A' c' hle) ?_)
  exact (hs.row i (q := ⟨q.e, 1, .slice A' (n + b.size) c', n + b.size, q.cells ++ (bytesL b).map (Value.int .u8)⟩) hold r3 r2 (fun g hg' => by
    rcases r5 with h | h
    · exact .inl (by rw [← h]; exact hg')
    · exact .inr (by rw [show (Value.slice A' (n + b.size) c').ownBlock = some g from hg'] at h; injection h with h; omega))).put (x := .v _) hg.2
end
section
variable {C : Ctx} {arr : Array Oper} {ρ0 : Nat → Nat} {F : List Pin} {RF : List (Nat × Row)} {G0 G : Mem} {ds : List Nat} {n : Nat} {l l' : Array Bool} {k : List CK} {s : S} {R : List (Nat × Row)}
theorem XD.cutStr {i : Nat} (o : Oper) {t : Nat} {b : ByteArray} {x : Operand} {l0 h : Option Operand} {lv hv : Option Value} (lo hi : Nat) (hQ : QOk C) (ho : arr[i]? = some o) (hc : takeB .any arr ds l l' i = true) (hop : o.op = .slice t x l0 h none) (hx : s.ev x = some (.v (.string b))) (hlv : evO s l0 = some lv) (hhv : evO s h = some hv) (ht : C.P.underlying t = some .string) (hg : (guardOk s arr o && s.can o.dst) = true) (hl : bndV lv 0 lo) (hh : bndV hv b.size hi) (h1 : lo ≤ hi) (h2 : hi ≤ b.size) (hd : F.all (offPin o.dst) = true)
    (H : XD C arr ρ0 F RF G0 ds n l' k (s.put o.dst (.v (.string (b.extract lo hi)))) R G) : XD C arr ρ0 F RF G0 ds (n + 1) l k s R G := by
  refine XD.takeV (.v (.string (b.extract lo hi))) hQ ho hc hg (fun ρ a w hs => ?_) hd H
  have e1 : a.eval x = .string b := hs.ev (x := x) hx
  have e2 := evO_ok (C := ⟨C.P, C.Q, w, ⟨fun _ => True, fun _ => none⟩⟩) (s := s.pinned F) hs hlv
  have e3 := evO_ok (C := ⟨C.P, C.Q, w, ⟨fun _ => True, fun _ => none⟩⟩) (s := s.pinned F) hs hhv
  simp only [execOp, hop, e1, e2, e3, Option.map_none, AV.real]
  exact run_v (run_cut_str ht hl hh h1 h2 w)
end
theorem strLitT {a b : ByteArray} (h : a.data.toList = b.data.toList) : (a.toList == b.toList) = true := by
  rw [ByteArray.toList_eq, ByteArray.toList_eq, h]
  simp
theorem strLitF {a b : ByteArray} (h : a.data.toList ≠ b.data.toList) : (a.toList == b.toList) = false := by
  rw [ByteArray.toList_eq, ByteArray.toList_eq]
  simpa using h
end Go.Proofs.YthpinlcfcgnilaaX
