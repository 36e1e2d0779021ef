/- How many are in a map; sets of numbers within ends. Conditions: none. -/
import Derived.Test.YthpinlcfcgnilaaXDJ
namespace Go.Proofs.YthpinlcfcgnilaaX
open Go.RowKit
open Go.Proofs.YthpinlcfcgnilaaW.PrintLast Go.Proofs.YthpinlcfcgnilaaW.PrintWords
set_option linter.unusedVariables false
set_option linter.unusedSimpArgs false
theorem maplen_run {P : Program} {t kt et ty : TypeId} {g clock : Nat} {es : Array MapEntry} {ks : List Int} {w : World} (ht : P.underlying t = some (.map kt et)) (hg : w.heap[g]? = some (.map es clock)) (h : es.toList.map kv = kvs ks) : (Builtin.len_ #[t] ty #[.map (some g)]).run P w = .ok (.int .i64 ((ks.length : Nat) : Int)) w := by
  have hl : es.size = ks.length := by have := congrArg List.length h; simpa [kvs] using this
  unfold Builtin.len_
  simp only [List.getElem?_toArray, List.getElem?_cons_zero]
  rw [run_bind_ok (run_underlying ht w)]
  simp only
  rw [run_bind_ok (getObj_ok hg)]
  simp only [hl]
  rfl
section
variable {C : Ctx} {k : List CK} {s : S} {R : List (Nat × Row)} {G : Mem} {arr : Array Oper} {o : Oper} {r : List Oper}
theorem X.mapLen {t kt et g : Nat} {x : Operand} {ks : List Int} (hop : o.op = .call { callee := .builtin .len, args := #[x], argTypes := #[t] }) (hx : s.ev x = some (.v (.map (some g)))) (ht : C.P.underlying t = some (.map kt et)) (hm : MapAt G g ks) (hg : (guardOk s arr o && s.can o.dst) = true)
    (H : X C (.ops arr r) k (s.put o.dst (.v (.int .i64 ((ks.length : Nat) : Int)))) R G) : X C (.ops arr (o :: r)) k s R G := by
  simp only [Bool.and_eq_true] at hg
  obtain ⟨es, clock, h1, h2⟩ := hm
  refine X.val _ hg.1 hg.2 (fun ρ a w hs => ?_) H
  unfold execOp
  simp only [hop]
  unfold resolve
  have e1 : (#[x] : Array Operand).map a.eval = #[.map (some g)] := by simp [hs.ev hx, AV.real]
  simp only [e1]
  rw [run_bind_ok (show (pure _ : Sem Deferred).run C.P w = .ok _ w from rfl)]
  unfold invoke
  exact run_v (maplen_run ht (hs.g _ _ h1) h2)
end
theorem X.joinC {C : Ctx} {cur : Cur} {k : List CK} {s : S} {R : List (Nat × Row)} {G : Mem} (cur2 : Cur) (k2 : List CK) (s2 : S) (HJ : X C cur2 k2 s2 R G) (K : X C cur2 k2 s2 R G → X C cur k s R G) : X C cur k s R G := K HJ
def okm (ks : List Int) (lo n : Int) : Prop := ks.Nodup ∧ ∀ k ∈ ks, lo ≤ k ∧ k < n
theorem okm_upd {ks : List Int} {lo n s : Int} (h : okm ks lo n) (h0 : lo ≤ s) (h1 : s < n) : okm (if s ∈ ks then ks else ks ++ [s]) lo n := by
  split
  · exact h
  · rename_i hs
    refine ⟨List.nodup_append.mpr ⟨h.1, by simp, fun a ha b hb => ?_⟩, fun k hk => ?_⟩
    · simp only [List.mem_singleton] at hb
      subst hb
      exact fun e => hs (e ▸ ha)
    · rcases List.mem_append.mp hk with h2 | h2
      · exact h.2 k h2
      · simp only [List.mem_singleton] at h2
        subst h2
        exact ⟨h0, h1⟩
theorem okm_erase {ks : List Int} {u n : Int} (h : okm ks u n) : okm (ks.erase u) (u + 1) n := by
  refine ⟨h.1.erase u, fun k hk => ?_⟩
  have h2 := (List.Nodup.mem_erase_iff h.1).mp hk
  have h3 := h.2 k h2.2
  have h4 : k ≠ u := h2.1
  omega
theorem okm_none {ks : List Int} {u n : Int} (h : okm ks u n) (hu : u ∉ ks) : okm ks (u + 1) n := by
  refine ⟨h.1, fun k hk => ?_⟩
  have h3 := h.2 k hk
  have h4 : k ≠ u := fun e => hu (e ▸ hk)
  omega
theorem okm_empty {ks : List Int} {u n : Int} (h : okm ks u n) (hu : n ≤ u) : ks = [] := by
  cases ks with
  | nil => rfl
  | cons k ks =>
    have := h.2 k List.mem_cons_self
    omega
theorem okm_lt {ks : List Int} {u n : Int} (h : okm ks u n) (hu : u ∈ ks) : u < n := (h.2 u hu).2
end Go.Proofs.YthpinlcfcgnilaaX
