/- Options in a row: what they are, and what is read of them. Conditions: none. -/
import Derived.Test.YtjgpdbkkpomhjaaXO2
import Derived.Test.YtjgpdbkkpomhjaaXRA
namespace Go.Proofs.YtjgpdbkkpomhjaaX
open Go.RowKit
set_option linter.unusedVariables false
set_option linter.unusedSimpArgs false
abbrev Opt := Int × List Int × ByteArray
def optD : D Opt := D.pair (D.int .i64) (D.pair (D.slice (D.int .u32)) D.str)
def opt0 : Opt := (0, [], ⟨#[]⟩)
theorem optD_sz : optD.sz = 3 := rfl
theorem At.opt {G : Mem} {A : Option Addr} {xs : List Opt} (R : List (Nat × Row)) (h : rowAt optD G A xs) (i : Nat) (hi : i < xs.length) : ∃ B c, At G R A (i * 3) [.int .i64 (xs.getD i opt0).1, .slice B (xs.getD i opt0).2.1.length c, .string (xs.getD i opt0).2.2] ∧ (IntKind.lo .i64 ≤ (xs.getD i opt0).1 ∧ (xs.getD i opt0).1 ≤ IntKind.hi .i64) ∧ (xs.getD i opt0).2.1.length ≤ c ∧ c ≤ maxLen ∧ rowAt (D.int .u32) G B (xs.getD i opt0).2.1 := by
  obtain ⟨cs, ⟨c0, c1, rfl, ⟨rfl, h1, h2⟩, c2, c3, rfl, ⟨B, c, rfl, h4, h5, h6⟩, rfl, h7⟩, h3⟩ := At.of_rowAt R h i hi
  have e : xs.getD i opt0 = xs[i] := by simp [List.getD, hi]
  rw [e]
  exact ⟨B, c, h3, ⟨h1, h2⟩, h4, h5, h6⟩
theorem opt_rep {G : Mem} {A : Option Addr} {c : Nat} {k : Int} {ns : List Int} {s : ByteArray} (h1 : IntKind.lo .i64 ≤ k ∧ k ≤ IntKind.hi .i64) (h2 : ns.length ≤ c) (h3 : c ≤ maxLen) (h4 : rowAt (D.int .u32) G A ns) (h5 : D.str.rep G s [.string s]) : optD.rep G (k, ns, s) [.int .i64 k, .slice A ns.length c, .string s] :=
  ⟨[.int .i64 k], _, rfl, ⟨rfl, h1⟩, [.slice A ns.length c], [.string s], rfl, ⟨A, c, rfl, h2, h3, h4⟩, h5⟩
theorem repsD_snoc {α : Type} {d : D α} {G : Mem} : ∀ {xs : List α} {x : α} {cs c : List Value}, repsD d G xs cs → d.rep G x c → repsD d G (xs ++ [x]) (cs ++ c)
  | [], x, cs, c, h, hx => by
    have h : cs = [] := h
    subst h
    exact ⟨c, [], by simp, hx, rfl⟩
  | y :: xs, x, cs, c, ⟨c0, c1, e, h0, h1⟩, hx => by
    subst e
    exact ⟨c0, c1 ++ c, by simp, h0, repsD_snoc h1 hx⟩
/-- Of a kind: how many bytes a number has, how few and how many numbers there are. -/
def szk (k : Int) : Int := if k = 2 then 2 else if k = 8 then 4 else if k = 172 ∨ k = 174 then 3 else 0
def lk2 (k : Int) : Int := if k = 2 then 1 else if k = 8 then 2 else 0
def mk2 (k : Int) : Int := if k = 2 then 1 else if k = 8 then 2 else if k = 172 ∨ k = 174 then 3 else 0
def fineB (o : Opt) : Bool := decide (2 ≤ o.1 ∧ o.1 ≤ 255) && (if szk o.1 = 0 then decide (o.2.1.length = 0) else decide (o.2.2 = ⟨#[]⟩) && (decide (lk2 o.1 ≤ (o.2.1.length : Int) ∧ (o.2.1.length : Int) ≤ mk2 o.1) && decide (∀ n ∈ o.2.1, n < 256 ^ (szk o.1).toNat)))
def hadB (xs : List Opt) (k : Int) : Bool := decide (∃ o ∈ xs, o.1 = k) && decide (0 < szk k)
/-- The first one of a kind. -/
def findO : List Opt → Int → Opt × Bool
  | [], _ => (opt0, false)
  | o :: l, k => if o.1 = k then (o, true) else findO l k
theorem findO_none {xs : List Opt} {k : Int} (h : ∀ o ∈ xs, o.1 ≠ k) : findO xs k = (opt0, false) := by
  induction xs with
  | nil => rfl
  | cons o l ih => rw [findO, if_neg (h o List.mem_cons_self), ih (fun o ho => h o (List.mem_cons_of_mem _ ho))]
theorem findO_some {xs : List Opt} {k : Int} {i : Nat} (hi : i < xs.length) (h : ∀ o ∈ xs.take i, o.1 ≠ k) (hk : (xs.getD i opt0).1 = k) : findO xs k = (xs.getD i opt0, true) := by
  induction xs generalizing i with
  | nil => simp at hi
  | cons o l ih =>
    cases i with
    | zero => simp at hk ⊢; rw [findO, if_pos hk]
    | succ i =>
      rw [findO, if_neg (h o (by simp)), ih (by simpa using hi) (fun o ho => h o (by simp [ho])) (by simpa using hk)]
      simp
theorem take_all {α : Type} {p : α → Prop} {xs : List α} {i : Nat} {d : α} (h : ∀ o ∈ xs.take i, p o) (hi : i < xs.length) (hp : p (xs.getD i d)) : ∀ o ∈ xs.take (i + 1), p o := by
  intro o ho
  rw [List.take_succ_eq_append_getElem hi, List.mem_append, List.mem_singleton] at ho
  rcases ho with ho | rfl
  · exact h o ho
  · simpa [List.getD, hi] using hp
theorem getD_mem {α : Type} {xs : List α} {i : Nat} {d : α} (hi : i < xs.length) : xs.getD i d ∈ xs := by
  simp [List.getD, hi]
theorem fine_out {k : Int} {ns : List Int} {s : ByteArray} (h : ¬ (2 ≤ k ∧ k ≤ 255)) : fineB (k, ns, s) = false := by
  unfold fineB
  rw [decide_eq_false h]
  rfl
theorem fine_free {k : Int} {ns : List Int} {s : ByteArray} (h : 2 ≤ k ∧ k ≤ 255) (h0 : szk k = 0) : fineB (k, ns, s) = decide (ns.length = 0) := by
  unfold fineB
  rw [decide_eq_true h, if_pos h0, Bool.true_and]
theorem fine_eq {k : Int} {ns : List Int} {s : ByteArray} (h : 2 ≤ k ∧ k ≤ 255) (h0 : szk k ≠ 0) : fineB (k, ns, s) = (decide (s = ⟨#[]⟩) && (decide (lk2 k ≤ (ns.length : Int) ∧ (ns.length : Int) ≤ mk2 k) && decide (∀ n ∈ ns, n < 256 ^ (szk k).toNat))) := by
  unfold fineB
  rw [decide_eq_true h, if_neg h0, Bool.true_and]
theorem fine_raw {k : Int} {ns : List Int} {s : ByteArray} (h : 2 ≤ k ∧ k ≤ 255) (h0 : szk k ≠ 0) (hs : s ≠ ⟨#[]⟩) : fineB (k, ns, s) = false := by
  rw [fine_eq h h0, decide_eq_false hs]
  rfl
theorem fine_few {k : Int} {ns : List Int} {s : ByteArray} (h : 2 ≤ k ∧ k ≤ 255) (h0 : szk k ≠ 0) (hl : ¬ (lk2 k ≤ (ns.length : Int) ∧ (ns.length : Int) ≤ mk2 k)) : fineB (k, ns, s) = false := by
  rw [fine_eq h h0, decide_eq_false hl]
  simp
theorem fine_big {k M n : Int} {ns : List Int} {s : ByteArray} (h : 2 ≤ k ∧ k ≤ 255) (h0 : szk k ≠ 0) (hM : 256 ^ (szk k).toNat = M) (hn : n ∈ ns) (hb : M ≤ n) : fineB (k, ns, s) = false := by
  rw [fine_eq h h0, hM]
  have : ¬ (∀ n ∈ ns, n < M) := fun ha => by have := ha n hn; omega
  rw [decide_eq_false this]
  simp
theorem fine_yes {k M : Int} {ns : List Int} {s : ByteArray} (h : 2 ≤ k ∧ k ≤ 255) (h0 : szk k ≠ 0) (hM : 256 ^ (szk k).toNat = M) (hs : s = ⟨#[]⟩) (hl : lk2 k ≤ (ns.length : Int) ∧ (ns.length : Int) ≤ mk2 k) (hb : ∀ n ∈ ns, n < M) : fineB (k, ns, s) = true := by
  rw [fine_eq h h0, hM, decide_eq_true hs, decide_eq_true hl, decide_eq_true hb]
  rfl
theorem had_yes {xs : List Opt} {k : Int} {i : Nat} (hi : i < xs.length) (hk : (xs.getD i opt0).1 = k) (hz : 0 < szk k) : hadB xs k = true := by
  unfold hadB
  rw [decide_eq_true ⟨_, getD_mem hi, hk⟩, decide_eq_true hz]
  rfl
theorem had_off {xs : List Opt} {k : Int} (hz : ¬ 0 < szk k) : hadB xs k = false := by
  unfold hadB
  rw [decide_eq_false hz]
  simp
theorem had_no {xs : List Opt} {k : Int} (h : ∀ o ∈ xs, o.1 ≠ k) : hadB xs k = false := by
  unfold hadB
  rw [decide_eq_false (fun ⟨o, ho, hk⟩ => h o ho hk)]
  rfl
theorem had_find {xs : List Opt} {k : Int} : hadB xs k = ((findO xs k).2 && decide (0 < szk k)) := by
  unfold hadB
  congr 1
  induction xs with
  | nil => rfl
  | cons o l ih =>
    unfold findO
    by_cases ho : o.1 = k
    · rw [if_pos ho]
      exact decide_eq_true ⟨o, List.mem_cons_self, ho⟩
    · rw [if_neg ho, ← ih]
      congr 1
      simp [ho]
end Go.Proofs.YtjgpdbkkpomhjaaX
