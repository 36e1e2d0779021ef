/- A part of a law's proof. Conditions: none. -/
import Derived.Test.YtjgpdbkkpomhjaaProg
import Derived.KernelRfl
import Derived.Test.YtjgpdbkkpomhjaaQYI1
import Derived.Test.YtjgpdbkkpomhjaaQYT
namespace Go.Proofs.YtjgpdbkkpomhjaaX
open Go.RowKit
open Go.Proofs.YtjgpdbkkpomhjaaW.PrintLast
set_option linter.unusedVariables false
set_option linter.unusedSimpArgs false
set_option maxRecDepth 100000
theorem hi2 {x : Int} (hx : 0 ≤ x ∧ x ≤ 255) : bshr .u8 x 6 = IntKind.u8.wrap (Int.tdiv x 64) ∧ 0 ≤ IntKind.u8.wrap (Int.tdiv x 64) ∧ IntKind.u8.wrap (Int.tdiv x 64) ≤ 3 := of_decide_eq_true (byteAll (p := fun x => decide (bshr .u8 x 6 = IntKind.u8.wrap (Int.tdiv x 64) ∧ 0 ≤ IntKind.u8.wrap (Int.tdiv x 64) ∧ IntKind.u8.wrap (Int.tdiv x 64) ≤ 3)) (by decide +kernel) hx)
noncomputable def B49 : Code := bodyOf Try.f49
noncomputable def B106 : Code := bodyOf Try.f106
noncomputable def B107 : Code := bodyOf Try.f107
noncomputable def B108 : Code := bodyOf Try.f108
noncomputable def B109 : Code := bodyOf Try.f109
noncomputable def B51 : Code := bodyOf Try.f51
noncomputable def B114 : Code := bodyOf Try.f114
noncomputable def B115 : Code := bodyOf Try.f115
noncomputable def B153 : Code := bodyOf Try.f153
noncomputable def B154 : Code := bodyOf Try.f154
noncomputable def B171 : Code := bodyOf Try.f171
noncomputable def B155 : Code := bodyOf Try.f155
abbrev Opt := Int × List Int × ByteArray
def optD : D Opt := D.pair (D.int .i64) (D.pair (D.slice (D.int .u32)) D.str)
def opt0 : Opt := (0, [], ⟨#[]⟩)
theorem At.opt {G : Mem} {A : Option Addr} {xs : List Opt} (R : List (Nat × Row)) (h : rowAt optD G A xs) (i : Nat) (hi : i < xs.length) : ∃ B c, At G R A (i * 3) [.int .i64 (xs.getD i opt0).1, .slice B (xs.getD i opt0).2.1.length c, .string (xs.getD i opt0).2.2] ∧ (IntKind.lo .i64 ≤ (xs.getD i opt0).1 ∧ (xs.getD i opt0).1 ≤ IntKind.hi .i64) ∧ (xs.getD i opt0).2.1.length ≤ c ∧ c ≤ maxLen ∧ rowAt (D.int .u32) G B (xs.getD i opt0).2.1 := by
 obtain ⟨cs, ⟨c0, c1, rfl, ⟨rfl, h1, h2⟩, c2, c3, rfl, ⟨B, c, rfl, h4, h5, h6⟩, rfl, h7⟩, h3⟩ := At.of_rowAt R h i hi
 have e : xs.getD i opt0 = xs[i] := by simp [List.getD, hi]
 rw [e]
 exact ⟨B, c, h3, ⟨h1, h2⟩, h4, h5, h6⟩
theorem opt_rep {G : Mem} {A : Option Addr} {c : Nat} {k : Int} {ns : List Int} {s : ByteArray} (h1 : IntKind.lo .i64 ≤ k ∧ k ≤ IntKind.hi .i64) (h2 : ns.length ≤ c) (h3 : c ≤ maxLen) (h4 : rowAt (D.int .u32) G A ns) (h5 : D.str.rep G s [.string s]) : optD.rep G (k, ns, s) [.int .i64 k, .slice A ns.length c, .string s] :=
 ⟨[.int .i64 k], _, rfl, ⟨rfl, h1⟩, [.slice A ns.length c], [.string s], rfl, ⟨A, c, rfl, h2, h3, h4⟩, h5⟩
theorem repsD_snoc {α : Type} {d : D α} {G : Mem} : ∀ {xs : List α} {x : α} {cs c : List Value}, repsD d G xs cs → d.rep G x c → repsD d G (xs ++ [x]) (cs ++ c)
 | [], x, cs, c, h, hx => by
  have h : cs = [] := h
  subst h
  exact ⟨c, [], by simp, hx, rfl⟩
 | y :: xs, x, cs, c, ⟨c0, c1, e, h0, h1⟩, hx => by
  subst e
  exact ⟨c0, c1 ++ c, by simp, h0, repsD_snoc h1 hx⟩
def szk (k : Int) : Int := if k = 2 then 2 else if k = 8 then 4 else if k = 172 ∨ k = 174 then 3 else 0
def lk2 (k : Int) : Int := if k = 2 then 1 else if k = 8 then 2 else 0
def mk2 (k : Int) : Int := if k = 2 then 1 else if k = 8 then 2 else if k = 172 ∨ k = 174 then 3 else 0
def fineB (o : Opt) : Bool := decide (2 ≤ o.1 ∧ o.1 ≤ 255) && (if szk o.1 = 0 then decide (o.2.1.length = 0) else decide (o.2.2 = ⟨#[]⟩) && (decide (lk2 o.1 ≤ (o.2.1.length : Int) ∧ (o.2.1.length : Int) ≤ mk2 o.1) && decide (∀ n ∈ o.2.1, n < 256 ^ (szk o.1).toNat)))
def hadB (xs : List Opt) (k : Int) : Bool := decide (∃ o ∈ xs, o.1 = k) && decide (0 < szk k)
def findO : List Opt → Int → Opt × Bool
 | [], _ => (opt0, false)
 | o :: l, k => if o.1 = k then (o, true) else findO l k
theorem findO_none {xs : List Opt} {k : Int} (h : ∀ o ∈ xs, o.1 ≠ k) : findO xs k = (opt0, false) := by
 induction xs with
 | nil => rfl
 | cons o l ih => rw [findO, if_neg (h o List.mem_cons_self), ih (fun o ho => h o (List.mem_cons_of_mem _ ho))]
theorem findO_some {xs : List Opt} {k : Int} {i : Nat} (hi : i < xs.length) (h : ∀ o ∈ xs.take i, o.1 ≠ k) (hk : (xs.getD i opt0).1 = k) : findO xs k = (xs.getD i opt0, true) := by
 induction xs generalizing i with
 | nil => simp at hi
 | cons o l ih =>
  cases i with
  | zero => simp at hk ⊢; rw [findO, if_pos hk]
  | succ i =>
   rw [findO, if_neg (h o (by simp)), ih (by simpa using hi) (fun o ho => h o (by simp [ho])) (by simpa using hk)]
   simp
theorem take_all {α : Type} {p : α → Prop} {xs : List α} {i : Nat} {d : α} (h : ∀ o ∈ xs.take i, p o) (hi : i < xs.length) (hp : p (xs.getD i d)) : ∀ o ∈ xs.take (i + 1), p o := by
 intro o ho
 rw [List.take_succ_eq_append_getElem hi, List.mem_append, List.mem_singleton] at ho
 rcases ho with ho | rfl
 · exact h o ho
 · simpa [List.getD, hi] using hp
theorem getD_mem {α : Type} {xs : List α} {i : Nat} {d : α} (hi : i < xs.length) : xs.getD i d ∈ xs := by
 simp [List.getD, hi]
theorem fine_out {k : Int} {ns : List Int} {s : ByteArray} (h : ¬ (2 ≤ k ∧ k ≤ 255)) : fineB (k, ns, s) = false := by
 unfold fineB
 rw [decide_eq_false h]
 rfl
theorem fine_free {k : Int} {ns : List Int} {s : ByteArray} (h : 2 ≤ k ∧ k ≤ 255) (h0 : szk k = 0) : fineB (k, ns, s) = decide (ns.length = 0) := by
 unfold fineB
 rw [decide_eq_true h, if_pos h0, Bool.true_and]
theorem fine_eq {k : Int} {ns : List Int} {s : ByteArray} (h : 2 ≤ k ∧ k ≤ 255) (h0 : szk k ≠ 0) : fineB (k, ns, s) = (decide (s = ⟨#[]⟩) && (decide (lk2 k ≤ (ns.length : Int) ∧ (ns.length : Int) ≤ mk2 k) && decide (∀ n ∈ ns, n < 256 ^ (szk k).toNat))) := by
 unfold fineB
 rw [decide_eq_true h, if_neg h0, Bool.true_and]
theorem fine_raw {k : Int} {ns : List Int} {s : ByteArray} (h : 2 ≤ k ∧ k ≤ 255) (h0 : szk k ≠ 0) (hs : s ≠ ⟨#[]⟩) : fineB (k, ns, s) = false := by
 rw [fine_eq h h0, decide_eq_false hs]
 rfl
theorem fine_few {k : Int} {ns : List Int} {s : ByteArray} (h : 2 ≤ k ∧ k ≤ 255) (h0 : szk k ≠ 0) (hl : ¬ (lk2 k ≤ (ns.length : Int) ∧ (ns.length : Int) ≤ mk2 k)) : fineB (k, ns, s) = false := by
 rw [fine_eq h h0, decide_eq_false hl]
 simp
theorem fine_big {k M n : Int} {ns : List Int} {s : ByteArray} (h : 2 ≤ k ∧ k ≤ 255) (h0 : szk k ≠ 0) (hM : 256 ^ (szk k).toNat = M) (hn : n ∈ ns) (hb : M ≤ n) : fineB (k, ns, s) = false := by
 rw [fine_eq h h0, hM]
 have : ¬ (∀ n ∈ ns, n < M) := fun ha => by have := ha n hn; omega
 rw [decide_eq_false this]
 simp
theorem fine_yes {k M : Int} {ns : List Int} {s : ByteArray} (h : 2 ≤ k ∧ k ≤ 255) (h0 : szk k ≠ 0) (hM : 256 ^ (szk k).toNat = M) (hs : s = ⟨#[]⟩) (hl : lk2 k ≤ (ns.length : Int) ∧ (ns.length : Int) ≤ mk2 k) (hb : ∀ n ∈ ns, n < M) : fineB (k, ns, s) = true := by
 rw [fine_eq h h0, hM, decide_eq_true hs, decide_eq_true hl, decide_eq_true hb]
 rfl
theorem had_off {xs : List Opt} {k : Int} (hz : ¬ 0 < szk k) : hadB xs k = false := by
 unfold hadB
 rw [decide_eq_false hz]
 simp
theorem had_find {xs : List Opt} {k : Int} : hadB xs k = ((findO xs k).2 && decide (0 < szk k)) := by
 unfold hadB
 congr 1
 induction xs with
 | nil => rfl
 | cons o l ih =>
  unfold findO
  by_cases ho : o.1 = k
  ·
   rw [if_pos ho]
   exact decide_eq_true ⟨o, List.mem_cons_self, ho⟩
  ·
   rw [if_neg ho, ← ih]
   congr 1
   simp [ho]
set_option maxHeartbeats 4000000 in
theorem fine_ok (k1 : Int) (A : Option Addr) (ca : Nat) (xs : List Int) (s1 : ByteArray) (G : Mem) (hx : rowAt (D.int .u32) G A xs) (hxc : xs.length ≤ ca) (hxm : ca ≤ maxLen) : CallsG Try.prog 106 [.agg #[.int .i64 k1, .slice A xs.length ca, .string s1]] G (fun _ v rows => v = .bool (fineB (k1, xs, s1)) ∧ rows = []) := by
 simp only [maxLen] at hxm
 refine CallsG.enter Try.func106 rfl rfl ?_
 intro w
 refine Rn 13 (Qo B106 12 4) [Qs B106 13, Qs B106 7] ⟨53, [(1, .own 1 0), (2, VB false), (10, VB (decide (k1 < 2)))], [(1, ⟨65, [I6 k1, VL A xs.length ca, VT s1]⟩)]⟩ ?_
 refine Sd 10 rfl ?_ ?_ <;> intro h1
 ·
  refine Rn 14 (.ex .ret) [] ⟨53, [(2, VB false)], []⟩ ?_
  refine Dg (.inl rfl) [.bool false] [] rfl (Ge.refl _ _) ?_
  exact ⟨congrArg Value.bool (fine_out (by omega)).symm, rfl⟩
 ·
  refine Ra 6 (Qc B106 13) 1 [] [(14, VB (decide (k1 > 255)))] ?_
  refine Sd 14 rfl ?_ ?_ <;> intro h2
  ·
   refine Rn 8 (.ex .ret) [] ⟨53, [(2, VB false)], []⟩ ?_
   refine Dg (.inl rfl) [.bool false] [] rfl (Ge.refl _ _) ?_
   exact ⟨congrArg Value.bool (fine_out (by omega)).symm, rfl⟩
  ·
   refine Ra 7 (Qo B106 14 2) 1 [Qs B106 15] [(17, I6 k1)] ?_
   refine X.inline (f := 108) (l := [I6 k1]) (fn := Try.f108) (c := B108) (by kernel_rfl) (by kernel_rfl) Try.func108 (by kernel_rfl) ?_
   intro Q3 M3 hM3 hQ3 fin3
   refine Ra 20 (Qc B108 53) 0 [.blk 0, Qs B108 7] [(2, I6 0), (3, I6 0), (4, I6 0), (5, I6 k1), (6, VB (k1 == 2))] ?_
   refine Se 6 rfl ?_ ?_ <;> intro h4
   ·
    refine Rn 11 (.ex .ret) [] ⟨13, [(2, I6 2), (3, I6 1), (4, I6 1)], [(1001, ⟨65, [I6 k1, VL A xs.length ca, VT s1]⟩)]⟩ ?_
    refine fin3 _ _ _ _ [N6 2, N6 1, N6 1] [(1, ⟨65, [I6 k1, VL A xs.length ca, VT s1]⟩)] (.inl rfl) (by kernel_rfl) (by kernel_rfl) ?_
    refine Rb 32 (Qo B106 126 4) 1 [Qs B106 127] [(4, I6 1), (5, I6 1), (6, .fn 153 [(3, 0)]), (32, VB (s1.toList == (⟨#[]⟩ : ByteArray).toList))] [] [(3, ⟨3, [I6 2]⟩)] [] ?_
    refine X.split 32 rfl (fun h5 => ?_) (fun h5 => ?_)
    ·
     replace h5 : s1 = (⟨#[]⟩ : ByteArray) := strT h5
     refine Rc 7 (Qo B106 126 11) 0 [] [(39, VB (decide ((xs.length : Int) ≥ 1)))] [4] ?_
     refine Sd 39 rfl ?_ ?_ <;> intro h6
     ·
      refine Rc 7 (Qo B106 126 18) 0 [] [(46, VB (decide ((xs.length : Int) ≤ 1)))] [5] ?_
      refine Sd 46 rfl ?_ ?_ <;> intro h7
      ·
       refine Rb 3 (Qo B106 126 21) 0 [] [(46, VB true), (48, VL A xs.length ca), (49, .fn 153 [(3, 0)])] [6] [] [1] ?_
       refine X.inline (f := 154) (l := [VL A xs.length ca, .fn 153 [(3, 0)]]) (fn := Try.f154) (c := B154) (by kernel_rfl) (by kernel_rfl) Try.func154 (by kernel_rfl) ?_
       intro Q8 M8 hM8 hQ8 fin8
       refine Ra 9 (Qo B154 6 2) 0 [Qs B154 7] [(4, VB false), (5, VL A xs.length ca), (6, .fn 153 [(1003, 0)])] ?_
       refine X.inline (f := 171) (l := [VL A xs.length ca, .fn 153 [(1003, 0)]]) (fn := Try.f171) (c := B171) (by kernel_rfl) (by kernel_rfl) Try.func171 (by kernel_rfl) ?_
       intro Q9 M9 hM9 hQ9 fin9
       refine Ra 14 (Qc B171 26) 0 [.blk 0, Qs B171 7] [(4, I6 0), (7, I6 (xs.length : Int)), (8, I6 0)] ?_
       refine Rn 0 (Qc B171 26) [.blk 0, Qs B171 7] _ (X.loopJ (fun m s R' G' => ∃ (i : Int), s = ⟨19, [(0, VL A xs.length ca), (1, .fn 153 [(2003, 0)]), (7, I6 (xs.length : Int)), (8, I6 i)], [(2003, ⟨3, [I6 2]⟩)]⟩ ∧ R' = [] ∧ G = G' ∧ (0 ≤ i ∧ i ≤ (xs.length : Int) ∧ ∀ n ∈ xs.take i.toNat, n < 65536) ∧ m = ((xs.length : Int) - i).toNat) _ ⟨0, rfl, rfl, rfl, ⟨by omega, by omega, by simp⟩, rfl⟩ ?_)
       rintro m10 s10 R10 G10 ⟨i, rfl, rfl, rfl, hF10, rfl⟩ J10 hJ10
       obtain ⟨hi0, hi1, hi2⟩ := hF10
       refine Ra 6 (Qc B171 210) 0 [Qs B171 211] [(9, VB (decide (i < (xs.length : Int))))] ?_
       refine Sd 9 rfl ?_ ?_ <;> intro h11
       ·
        refine Ra 16 (Qo B171 3378 3) 1 [Qs B171 3379, .blk 1, Qs B171 423] [(5, I6 i), (11, .fn 153 [(2003, 0)]), (12, VL A xs.length ca), (13, I6 i)] ?_
        refine Ix 63 29 1 A xs.length ca .i64 i (.tmp 12) (.tmp 13) (by omega) (by omega) (fun _ _ => rowAt.so hx (by omega)) ?_
        obtain ⟨at14, lo14, hi14⟩ := At.int [] hx ((i).toNat) (by omega)
        simp only [IntKind.lo, IntKind.hi] at lo14 hi14
        refine Ra 0 (Qo B171 3378 4) 0 [] [(14, .v (elt A ((i).toNat * 1)))] ?_
        refine Ld 29 A ((i).toNat * 1) (.tmp 14) (N3 (xs.getD i.toNat 0)) [N3 (xs.getD i.toNat 0)] at14 ?_
        refine Ra 0 (Qo B171 3378 5) 0 [] [(15, I3 (xs.getD i.toNat 0))] ?_
        refine X.inline (f := 153) (l := [I3 (xs.getD i.toNat 0), .own 2003 0]) (fn := Try.f153) (c := B153) (by kernel_rfl) (by kernel_rfl) Try.func153 (by kernel_rfl) ?_
        intro Q15 M15 hM15 hQ15 fin15
        refine Ra 9 (Qo B153 6 2) 0 [Qs B153 7] [(3, VB false), (5, I7 (IntKind.u64.wrap (xs.getD i.toNat 0)))] ?_
        refine Kn 5 .u64 (xs.getD i.toNat 0) rfl (wu64 (by omega) (by omega)) ?_
        refine Ra 3 (Qo B153 6 5) 0 [] [(8, I7 (bshr .u64 (xs.getD i.toNat 0) 16))] ?_
        refine Kn 8 .u64 ((xs.getD i.toNat 0) / 65536) rfl (by rw [shr_nn (by omega), show ((2 : Int) ^ min 16 IntKind.u64.bits) = 65536 by decide]) ?_
        refine Rn 5 (.ex .ret) [] ⟨10, [(3, VB (decide ((xs.getD i.toNat 0) / 65536 > 0)))], [(3003, ⟨3, [I6 2]⟩)]⟩ ?_
        refine fin15 _ _ _ _ [.bool (decide ((xs.getD i.toNat 0) / 65536 > 0))] [(2003, ⟨3, [I6 2]⟩)] (.inl rfl) (by kernel_rfl) (by kernel_rfl) ?_
        refine Ra 2 (Qc B171 3379) 1 [] [(16, VB (decide ((xs.getD i.toNat 0) / 65536 > 0)))] ?_
        refine Sd 16 rfl ?_ ?_ <;> intro h16
        ·
         refine Rn 13 (.ex .ret) [] ⟨19, [(4, I6 i)], [(2003, ⟨3, [I6 2]⟩)]⟩ ?_
         refine fin9 _ _ _ _ [N6 i] [(1003, ⟨3, [I6 2]⟩)] (.inl rfl) (by kernel_rfl) (by kernel_rfl) ?_
         refine Rn 5 (.ex .ret) [] ⟨9, [(4, VB (decide (i ≥ 0)))], [(1003, ⟨3, [I6 2]⟩)]⟩ ?_
         refine fin8 _ _ _ _ [.bool (decide (i ≥ 0))] [(3, ⟨3, [I6 2]⟩)] (.inl rfl) (by kernel_rfl) (by kernel_rfl) ?_
         refine Rn 6 (.ex .ret) [] ⟨53, [(2, VB (!(decide (i ≥ 0))))], []⟩ ?_
         refine Dg (.inl rfl) [.bool (!(decide (i ≥ 0)))] [] rfl (Ge.refl _ _) ?_
         refine ⟨congrArg Value.bool ?_, rfl⟩
         rw [decide_eq_true (show i ≥ 0 by omega)]
         exact (fine_big (show 2 ≤ k1 ∧ k1 ≤ 255 from ⟨by omega, by omega⟩) (show szk k1 ≠ 0 by rw [show k1 = 2 by assumption]; decide) (show (256 : Int) ^ (szk k1).toNat = 65536 by rw [show k1 = 2 by assumption]; rfl) (getD_mem (i := i.toNat) (d := 0) (by omega)) (by omega)).symm
        ·
         have e1 : IntKind.i64.wrap (i + 1) = i + 1 := wi64 (by omega) (by omega)
         have e0 : (i + 1).toNat = i.toNat + 1 := by omega
         exact Rn 8 (.ex .normal) [.loop J10, .blk 0, Qs B171 7] _ (X.again (hJ10 _ _ _ _ ⟨IntKind.i64.wrap (i + 1), rfl, rfl, rfl, ⟨by omega, by omega, by rw [e1, e0]; exact take_all (d := 0) hi2 (by omega) (by omega)⟩, rfl⟩ (by rw [e1]; omega)))
       ·
        refine Rn 12 (.ex .ret) [] ⟨19, [(4, I6 (-1))], [(2003, ⟨3, [I6 2]⟩)]⟩ ?_
        refine fin9 _ _ _ _ [N6 (-1)] [(1003, ⟨3, [I6 2]⟩)] (.inl rfl) (by kernel_rfl) (by kernel_rfl) ?_
        refine Rn 5 (.ex .ret) [] ⟨9, [(4, VB false)], [(1003, ⟨3, [I6 2]⟩)]⟩ ?_
        refine fin8 _ _ _ _ [.bool false] [(3, ⟨3, [I6 2]⟩)] (.inl rfl) (by kernel_rfl) (by kernel_rfl) ?_
        refine Rn 6 (.ex .ret) [] ⟨53, [(2, VB true)], []⟩ ?_
        refine Dg (.inl rfl) [.bool true] [] rfl (Ge.refl _ _) ?_
        refine ⟨congrArg Value.bool ?_, rfl⟩
        rw [List.take_of_length_le (by omega)] at hi2
        exact (fine_yes (show 2 ≤ k1 ∧ k1 ≤ 255 from ⟨by omega, by omega⟩) (show szk k1 ≠ 0 by rw [show k1 = 2 by assumption]; decide) (show (256 : Int) ^ (szk k1).toNat = 65536 by rw [show k1 = 2 by assumption]; rfl) (by assumption) (show lk2 k1 ≤ (xs.length : Int) ∧ (xs.length : Int) ≤ mk2 k1 by rw [show k1 = 2 by assumption, show lk2 2 = 1 from rfl, show mk2 2 = 1 from rfl]; omega) hi2).symm
      ·
       refine Rn 10 (.ex .ret) [] ⟨53, [(2, VB false)], []⟩ ?_
       refine Dg (.inl rfl) [.bool false] [] rfl (Ge.refl _ _) ?_
       refine ⟨congrArg Value.bool ?_, rfl⟩
       first | exact (fine_raw (show 2 ≤ k1 ∧ k1 ≤ 255 from ⟨by omega, by omega⟩) (show szk k1 ≠ 0 by rw [show k1 = 2 by assumption]; decide) (by assumption)).symm | exact (fine_few (show 2 ≤ k1 ∧ k1 ≤ 255 from ⟨by omega, by omega⟩) (show szk k1 ≠ 0 by rw [show k1 = 2 by assumption]; decide) (show ¬ (lk2 k1 ≤ (xs.length : Int) ∧ (xs.length : Int) ≤ mk2 k1) by rw [show k1 = 2 by assumption, show lk2 2 = 1 from rfl, show mk2 2 = 1 from rfl]; omega)).symm
     ·
      refine Rn 17 (.ex .ret) [] ⟨53, [(2, VB false)], []⟩ ?_
      refine Dg (.inl rfl) [.bool false] [] rfl (Ge.refl _ _) ?_
      refine ⟨congrArg Value.bool ?_, rfl⟩
      first | exact (fine_raw (show 2 ≤ k1 ∧ k1 ≤ 255 from ⟨by omega, by omega⟩) (show szk k1 ≠ 0 by rw [show k1 = 2 by assumption]; decide) (by assumption)).symm | exact (fine_few (show 2 ≤ k1 ∧ k1 ≤ 255 from ⟨by omega, by omega⟩) (show szk k1 ≠ 0 by rw [show k1 = 2 by assumption]; decide) (show ¬ (lk2 k1 ≤ (xs.length : Int) ∧ (xs.length : Int) ≤ mk2 k1) by rw [show k1 = 2 by assumption, show lk2 2 = 1 from rfl, show mk2 2 = 1 from rfl]; omega)).symm
    ·
     replace h5 : s1 ≠ (⟨#[]⟩ : ByteArray) := strF h5
     refine Rn 24 (.ex .ret) [] ⟨53, [(2, VB false)], []⟩ ?_
     refine Dg (.inl rfl) [.bool false] [] rfl (Ge.refl _ _) ?_
     refine ⟨congrArg Value.bool ?_, rfl⟩
     first | exact (fine_raw (show 2 ≤ k1 ∧ k1 ≤ 255 from ⟨by omega, by omega⟩) (show szk k1 ≠ 0 by rw [show k1 = 2 by assumption]; decide) (by assumption)).symm | exact (fine_few (show 2 ≤ k1 ∧ k1 ≤ 255 from ⟨by omega, by omega⟩) (show szk k1 ≠ 0 by rw [show k1 = 2 by assumption]; decide) (show ¬ (lk2 k1 ≤ (xs.length : Int) ∧ (xs.length : Int) ≤ mk2 k1) by rw [show k1 = 2 by assumption, show lk2 2 = 1 from rfl, show mk2 2 = 1 from rfl]; omega)).symm
   ·
    refine Rc 7 (Qc B108 215) 0 [] [(8, VB (k1 == 8))] [6] ?_
    refine Se 8 rfl ?_ ?_ <;> intro h17
    ·
     refine Rn 11 (.ex .ret) [] ⟨13, [(2, I6 4), (3, I6 2), (4, I6 2)], [(1001, ⟨65, [I6 k1, VL A xs.length ca, VT s1]⟩)]⟩ ?_
     refine fin3 _ _ _ _ [N6 4, N6 2, N6 2] [(1, ⟨65, [I6 k1, VL A xs.length ca, VT s1]⟩)] (.inl rfl) (by kernel_rfl) (by kernel_rfl) ?_
     refine Rb 32 (Qo B106 126 4) 1 [Qs B106 127] [(4, I6 2), (5, I6 2), (6, .fn 153 [(3, 0)]), (32, VB (s1.toList == (⟨#[]⟩ : ByteArray).toList))] [] [(3, ⟨3, [I6 4]⟩)] [] ?_
     refine X.split 32 rfl (fun h18 => ?_) (fun h18 => ?_)
     ·
      replace h18 : s1 = (⟨#[]⟩ : ByteArray) := strT h18
      refine Rc 7 (Qo B106 126 11) 0 [] [(39, VB (decide ((xs.length : Int) ≥ 2)))] [4] ?_
      refine Sd 39 rfl ?_ ?_ <;> intro h19
      ·
       refine Rc 7 (Qo B106 126 18) 0 [] [(46, VB (decide ((xs.length : Int) ≤ 2)))] [5] ?_
       refine Sd 46 rfl ?_ ?_ <;> intro h20
       ·
        refine Rb 3 (Qo B106 126 21) 0 [] [(46, VB true), (48, VL A xs.length ca), (49, .fn 153 [(3, 0)])] [6] [] [1] ?_
        refine X.inline (f := 154) (l := [VL A xs.length ca, .fn 153 [(3, 0)]]) (fn := Try.f154) (c := B154) (by kernel_rfl) (by kernel_rfl) Try.func154 (by kernel_rfl) ?_
        intro Q21 M21 hM21 hQ21 fin21
        refine Ra 9 (Qo B154 6 2) 0 [Qs B154 7] [(4, VB false), (5, VL A xs.length ca), (6, .fn 153 [(1003, 0)])] ?_
        refine X.inline (f := 171) (l := [VL A xs.length ca, .fn 153 [(1003, 0)]]) (fn := Try.f171) (c := B171) (by kernel_rfl) (by kernel_rfl) Try.func171 (by kernel_rfl) ?_
        intro Q22 M22 hM22 hQ22 fin22
        refine Ra 14 (Qc B171 26) 0 [.blk 0, Qs B171 7] [(4, I6 0), (7, I6 (xs.length : Int)), (8, I6 0)] ?_
        refine Rn 0 (Qc B171 26) [.blk 0, Qs B171 7] _ (X.loopJ (fun m s R' G' => ∃ (i : Int), s = ⟨19, [(0, VL A xs.length ca), (1, .fn 153 [(2003, 0)]), (7, I6 (xs.length : Int)), (8, I6 i)], [(2003, ⟨3, [I6 4]⟩)]⟩ ∧ R' = [] ∧ G = G' ∧ (0 ≤ i ∧ i ≤ (xs.length : Int) ∧ ∀ n ∈ xs.take i.toNat, n < 4294967296) ∧ m = ((xs.length : Int) - i).toNat) _ ⟨0, rfl, rfl, rfl, ⟨by omega, by omega, by simp⟩, rfl⟩ ?_)
        rintro m23 s23 R23 G23 ⟨i, rfl, rfl, rfl, hF23, rfl⟩ J23 hJ23
        obtain ⟨hi0, hi1, hi2⟩ := hF23
        refine Ra 6 (Qc B171 210) 0 [Qs B171 211] [(9, VB (decide (i < (xs.length : Int))))] ?_
        refine Sd 9 rfl ?_ ?_ <;> intro h24
        ·
         refine Ra 16 (Qo B171 3378 3) 1 [Qs B171 3379, .blk 1, Qs B171 423] [(5, I6 i), (11, .fn 153 [(2003, 0)]), (12, VL A xs.length ca), (13, I6 i)] ?_
         refine Ix 63 29 1 A xs.length ca .i64 i (.tmp 12) (.tmp 13) (by omega) (by omega) (fun _ _ => rowAt.so hx (by omega)) ?_
         obtain ⟨at27, lo27, hi27⟩ := At.int [] hx ((i).toNat) (by omega)
         simp only [IntKind.lo, IntKind.hi] at lo27 hi27
         refine Ra 0 (Qo B171 3378 4) 0 [] [(14, .v (elt A ((i).toNat * 1)))] ?_
         refine Ld 29 A ((i).toNat * 1) (.tmp 14) (N3 (xs.getD i.toNat 0)) [N3 (xs.getD i.toNat 0)] at27 ?_
         refine Ra 0 (Qo B171 3378 5) 0 [] [(15, I3 (xs.getD i.toNat 0))] ?_
         refine X.inline (f := 153) (l := [I3 (xs.getD i.toNat 0), .own 2003 0]) (fn := Try.f153) (c := B153) (by kernel_rfl) (by kernel_rfl) Try.func153 (by kernel_rfl) ?_
         intro Q28 M28 hM28 hQ28 fin28
         refine Ra 9 (Qo B153 6 2) 0 [Qs B153 7] [(3, VB false), (5, I7 (IntKind.u64.wrap (xs.getD i.toNat 0)))] ?_
         refine Kn 5 .u64 (xs.getD i.toNat 0) rfl (wu64 (by omega) (by omega)) ?_
         refine Ra 3 (Qo B153 6 5) 0 [] [(8, I7 (bshr .u64 (xs.getD i.toNat 0) 32))] ?_
         refine Kn 8 .u64 ((xs.getD i.toNat 0) / 4294967296) rfl (by rw [shr_nn (by omega), show ((2 : Int) ^ min 32 IntKind.u64.bits) = 4294967296 by decide]) ?_
         refine Rn 5 (.ex .ret) [] ⟨10, [(3, VB (decide ((xs.getD i.toNat 0) / 4294967296 > 0)))], [(3003, ⟨3, [I6 4]⟩)]⟩ ?_
         refine fin28 _ _ _ _ [.bool (decide ((xs.getD i.toNat 0) / 4294967296 > 0))] [(2003, ⟨3, [I6 4]⟩)] (.inl rfl) (by kernel_rfl) (by kernel_rfl) ?_
         refine Ra 2 (Qc B171 3379) 1 [] [(16, VB (decide ((xs.getD i.toNat 0) / 4294967296 > 0)))] ?_
         refine Sd 16 rfl ?_ ?_ <;> intro h29
         ·
          refine Rn 13 (.ex .ret) [] ⟨19, [(4, I6 i)], [(2003, ⟨3, [I6 4]⟩)]⟩ ?_
          refine fin22 _ _ _ _ [N6 i] [(1003, ⟨3, [I6 4]⟩)] (.inl rfl) (by kernel_rfl) (by kernel_rfl) ?_
          refine Rn 5 (.ex .ret) [] ⟨9, [(4, VB (decide (i ≥ 0)))], [(1003, ⟨3, [I6 4]⟩)]⟩ ?_
          refine fin21 _ _ _ _ [.bool (decide (i ≥ 0))] [(3, ⟨3, [I6 4]⟩)] (.inl rfl) (by kernel_rfl) (by kernel_rfl) ?_
          refine Rn 6 (.ex .ret) [] ⟨53, [(2, VB (!(decide (i ≥ 0))))], []⟩ ?_
          refine Dg (.inl rfl) [.bool (!(decide (i ≥ 0)))] [] rfl (Ge.refl _ _) ?_
          refine ⟨congrArg Value.bool ?_, rfl⟩
          rw [decide_eq_true (show i ≥ 0 by omega)]
          exact (fine_big (show 2 ≤ k1 ∧ k1 ≤ 255 from ⟨by omega, by omega⟩) (show szk k1 ≠ 0 by rw [show k1 = 8 by assumption]; decide) (show (256 : Int) ^ (szk k1).toNat = 4294967296 by rw [show k1 = 8 by assumption]; rfl) (getD_mem (i := i.toNat) (d := 0) (by omega)) (by omega)).symm
         ·
          have e1 : IntKind.i64.wrap (i + 1) = i + 1 := wi64 (by omega) (by omega)
          have e0 : (i + 1).toNat = i.toNat + 1 := by omega
          exact Rn 8 (.ex .normal) [.loop J23, .blk 0, Qs B171 7] _ (X.again (hJ23 _ _ _ _ ⟨IntKind.i64.wrap (i + 1), rfl, rfl, rfl, ⟨by omega, by omega, by rw [e1, e0]; exact take_all (d := 0) hi2 (by omega) (by omega)⟩, rfl⟩ (by rw [e1]; omega)))
        ·
         refine Rn 12 (.ex .ret) [] ⟨19, [(4, I6 (-1))], [(2003, ⟨3, [I6 4]⟩)]⟩ ?_
         refine fin22 _ _ _ _ [N6 (-1)] [(1003, ⟨3, [I6 4]⟩)] (.inl rfl) (by kernel_rfl) (by kernel_rfl) ?_
         refine Rn 5 (.ex .ret) [] ⟨9, [(4, VB false)], [(1003, ⟨3, [I6 4]⟩)]⟩ ?_
         refine fin21 _ _ _ _ [.bool false] [(3, ⟨3, [I6 4]⟩)] (.inl rfl) (by kernel_rfl) (by kernel_rfl) ?_
         refine Rn 6 (.ex .ret) [] ⟨53, [(2, VB true)], []⟩ ?_
         refine Dg (.inl rfl) [.bool true] [] rfl (Ge.refl _ _) ?_
         refine ⟨congrArg Value.bool ?_, rfl⟩
         rw [List.take_of_length_le (by omega)] at hi2
         exact (fine_yes (show 2 ≤ k1 ∧ k1 ≤ 255 from ⟨by omega, by omega⟩) (show szk k1 ≠ 0 by rw [show k1 = 8 by assumption]; decide) (show (256 : Int) ^ (szk k1).toNat = 4294967296 by rw [show k1 = 8 by assumption]; rfl) (by assumption) (show lk2 k1 ≤ (xs.length : Int) ∧ (xs.length : Int) ≤ mk2 k1 by rw [show k1 = 8 by assumption, show lk2 8 = 2 from rfl, show mk2 8 = 2 from rfl]; omega) hi2).symm
       ·
        refine Rn 10 (.ex .ret) [] ⟨53, [(2, VB false)], []⟩ ?_
        refine Dg (.inl rfl) [.bool false] [] rfl (Ge.refl _ _) ?_
        refine ⟨congrArg Value.bool ?_, rfl⟩
        first | exact (fine_raw (show 2 ≤ k1 ∧ k1 ≤ 255 from ⟨by omega, by omega⟩) (show szk k1 ≠ 0 by rw [show k1 = 8 by assumption]; decide) (by assumption)).symm | exact (fine_few (show 2 ≤ k1 ∧ k1 ≤ 255 from ⟨by omega, by omega⟩) (show szk k1 ≠ 0 by rw [show k1 = 8 by assumption]; decide) (show ¬ (lk2 k1 ≤ (xs.length : Int) ∧ (xs.length : Int) ≤ mk2 k1) by rw [show k1 = 8 by assumption, show lk2 8 = 2 from rfl, show mk2 8 = 2 from rfl]; omega)).symm
      ·
       refine Rn 17 (.ex .ret) [] ⟨53, [(2, VB false)], []⟩ ?_
       refine Dg (.inl rfl) [.bool false] [] rfl (Ge.refl _ _) ?_
       refine ⟨congrArg Value.bool ?_, rfl⟩
       first | exact (fine_raw (show 2 ≤ k1 ∧ k1 ≤ 255 from ⟨by omega, by omega⟩) (show szk k1 ≠ 0 by rw [show k1 = 8 by assumption]; decide) (by assumption)).symm | exact (fine_few (show 2 ≤ k1 ∧ k1 ≤ 255 from ⟨by omega, by omega⟩) (show szk k1 ≠ 0 by rw [show k1 = 8 by assumption]; decide) (show ¬ (lk2 k1 ≤ (xs.length : Int) ∧ (xs.length : Int) ≤ mk2 k1) by rw [show k1 = 8 by assumption, show lk2 8 = 2 from rfl, show mk2 8 = 2 from rfl]; omega)).symm
     ·
      replace h18 : s1 ≠ (⟨#[]⟩ : ByteArray) := strF h18
      refine Rn 24 (.ex .ret) [] ⟨53, [(2, VB false)], []⟩ ?_
      refine Dg (.inl rfl) [.bool false] [] rfl (Ge.refl _ _) ?_
      refine ⟨congrArg Value.bool ?_, rfl⟩
      first | exact (fine_raw (show 2 ≤ k1 ∧ k1 ≤ 255 from ⟨by omega, by omega⟩) (show szk k1 ≠ 0 by rw [show k1 = 8 by assumption]; decide) (by assumption)).symm | exact (fine_few (show 2 ≤ k1 ∧ k1 ≤ 255 from ⟨by omega, by omega⟩) (show szk k1 ≠ 0 by rw [show k1 = 8 by assumption]; decide) (show ¬ (lk2 k1 ≤ (xs.length : Int) ∧ (xs.length : Int) ≤ mk2 k1) by rw [show k1 = 8 by assumption, show lk2 8 = 2 from rfl, show mk2 8 = 2 from rfl]; omega)).symm
    ·
     refine Rc 8 (Qc B108 1725) 0 [Qs B108 863] [(10, VB (k1 == 172))] [8] ?_
     refine Se 10 rfl ?_ ?_ <;> intro h30
     ·
      refine Rn 14 (.ex .ret) [] ⟨13, [(2, I6 3), (3, I6 0), (4, I6 3)], [(1001, ⟨65, [I6 k1, VL A xs.length ca, VT s1]⟩)]⟩ ?_
      refine fin3 _ _ _ _ [N6 3, N6 0, N6 3] [(1, ⟨65, [I6 k1, VL A xs.length ca, VT s1]⟩)] (.inl rfl) (by kernel_rfl) (by kernel_rfl) ?_
      refine Rb 32 (Qo B106 126 4) 1 [Qs B106 127] [(4, I6 0), (5, I6 3), (6, .fn 153 [(3, 0)]), (32, VB (s1.toList == (⟨#[]⟩ : ByteArray).toList))] [] [(3, ⟨3, [I6 3]⟩)] [] ?_
      refine X.split 32 rfl (fun h31 => ?_) (fun h31 => ?_)
      ·
       replace h31 : s1 = (⟨#[]⟩ : ByteArray) := strT h31
       refine Rc 7 (Qo B106 126 11) 0 [] [(39, VB (decide ((xs.length : Int) ≥ 0)))] [4] ?_
       refine Sd 39 rfl ?_ ?_ <;> intro h32
       ·
        refine Rc 7 (Qo B106 126 18) 0 [] [(46, VB (decide ((xs.length : Int) ≤ 3)))] [5] ?_
        refine Sd 46 rfl ?_ ?_ <;> intro h33
        ·
         refine Rb 3 (Qo B106 126 21) 0 [] [(46, VB true), (48, VL A xs.length ca), (49, .fn 153 [(3, 0)])] [6] [] [1] ?_
         refine X.inline (f := 154) (l := [VL A xs.length ca, .fn 153 [(3, 0)]]) (fn := Try.f154) (c := B154) (by kernel_rfl) (by kernel_rfl) Try.func154 (by kernel_rfl) ?_
         intro Q34 M34 hM34 hQ34 fin34
         refine Ra 9 (Qo B154 6 2) 0 [Qs B154 7] [(4, VB false), (5, VL A xs.length ca), (6, .fn 153 [(1003, 0)])] ?_
         refine X.inline (f := 171) (l := [VL A xs.length ca, .fn 153 [(1003, 0)]]) (fn := Try.f171) (c := B171) (by kernel_rfl) (by kernel_rfl) Try.func171 (by kernel_rfl) ?_
         intro Q35 M35 hM35 hQ35 fin35
         refine Ra 14 (Qc B171 26) 0 [.blk 0, Qs B171 7] [(4, I6 0), (7, I6 (xs.length : Int)), (8, I6 0)] ?_
         refine Rn 0 (Qc B171 26) [.blk 0, Qs B171 7] _ (X.loopJ (fun m s R' G' => ∃ (i : Int), s = ⟨19, [(0, VL A xs.length ca), (1, .fn 153 [(2003, 0)]), (7, I6 (xs.length : Int)), (8, I6 i)], [(2003, ⟨3, [I6 3]⟩)]⟩ ∧ R' = [] ∧ G = G' ∧ (0 ≤ i ∧ i ≤ (xs.length : Int) ∧ ∀ n ∈ xs.take i.toNat, n < 16777216) ∧ m = ((xs.length : Int) - i).toNat) _ ⟨0, rfl, rfl, rfl, ⟨by omega, by omega, by simp⟩, rfl⟩ ?_)
         rintro m36 s36 R36 G36 ⟨i, rfl, rfl, rfl, hF36, rfl⟩ J36 hJ36
         obtain ⟨hi0, hi1, hi2⟩ := hF36
         refine Ra 6 (Qc B171 210) 0 [Qs B171 211] [(9, VB (decide (i < (xs.length : Int))))] ?_
         refine Sd 9 rfl ?_ ?_ <;> intro h37
         ·
          refine Ra 16 (Qo B171 3378 3) 1 [Qs B171 3379, .blk 1, Qs B171 423] [(5, I6 i), (11, .fn 153 [(2003, 0)]), (12, VL A xs.length ca), (13, I6 i)] ?_
          refine Ix 63 29 1 A xs.length ca .i64 i (.tmp 12) (.tmp 13) (by omega) (by omega) (fun _ _ => rowAt.so hx (by omega)) ?_
          obtain ⟨at40, lo40, hi40⟩ := At.int [] hx ((i).toNat) (by omega)
          simp only [IntKind.lo, IntKind.hi] at lo40 hi40
          refine Ra 0 (Qo B171 3378 4) 0 [] [(14, .v (elt A ((i).toNat * 1)))] ?_
          refine Ld 29 A ((i).toNat * 1) (.tmp 14) (N3 (xs.getD i.toNat 0)) [N3 (xs.getD i.toNat 0)] at40 ?_
          refine Ra 0 (Qo B171 3378 5) 0 [] [(15, I3 (xs.getD i.toNat 0))] ?_
          refine X.inline (f := 153) (l := [I3 (xs.getD i.toNat 0), .own 2003 0]) (fn := Try.f153) (c := B153) (by kernel_rfl) (by kernel_rfl) Try.func153 (by kernel_rfl) ?_
          intro Q41 M41 hM41 hQ41 fin41
          refine Ra 9 (Qo B153 6 2) 0 [Qs B153 7] [(3, VB false), (5, I7 (IntKind.u64.wrap (xs.getD i.toNat 0)))] ?_
          refine Kn 5 .u64 (xs.getD i.toNat 0) rfl (wu64 (by omega) (by omega)) ?_
          refine Ra 3 (Qo B153 6 5) 0 [] [(8, I7 (bshr .u64 (xs.getD i.toNat 0) 24))] ?_
          refine Kn 8 .u64 ((xs.getD i.toNat 0) / 16777216) rfl (by rw [shr_nn (by omega), show ((2 : Int) ^ min 24 IntKind.u64.bits) = 16777216 by decide]) ?_
          refine Rn 5 (.ex .ret) [] ⟨10, [(3, VB (decide ((xs.getD i.toNat 0) / 16777216 > 0)))], [(3003, ⟨3, [I6 3]⟩)]⟩ ?_
          refine fin41 _ _ _ _ [.bool (decide ((xs.getD i.toNat 0) / 16777216 > 0))] [(2003, ⟨3, [I6 3]⟩)] (.inl rfl) (by kernel_rfl) (by kernel_rfl) ?_
          refine Ra 2 (Qc B171 3379) 1 [] [(16, VB (decide ((xs.getD i.toNat 0) / 16777216 > 0)))] ?_
          refine Sd 16 rfl ?_ ?_ <;> intro h42
          ·
           refine Rn 13 (.ex .ret) [] ⟨19, [(4, I6 i)], [(2003, ⟨3, [I6 3]⟩)]⟩ ?_
           refine fin35 _ _ _ _ [N6 i] [(1003, ⟨3, [I6 3]⟩)] (.inl rfl) (by kernel_rfl) (by kernel_rfl) ?_
           refine Rn 5 (.ex .ret) [] ⟨9, [(4, VB (decide (i ≥ 0)))], [(1003, ⟨3, [I6 3]⟩)]⟩ ?_
           refine fin34 _ _ _ _ [.bool (decide (i ≥ 0))] [(3, ⟨3, [I6 3]⟩)] (.inl rfl) (by kernel_rfl) (by kernel_rfl) ?_
           refine Rn 6 (.ex .ret) [] ⟨53, [(2, VB (!(decide (i ≥ 0))))], []⟩ ?_
           refine Dg (.inl rfl) [.bool (!(decide (i ≥ 0)))] [] rfl (Ge.refl _ _) ?_
           refine ⟨congrArg Value.bool ?_, rfl⟩
           rw [decide_eq_true (show i ≥ 0 by omega)]
           exact (fine_big (show 2 ≤ k1 ∧ k1 ≤ 255 from ⟨by omega, by omega⟩) (show szk k1 ≠ 0 by rw [show k1 = 172 by assumption]; decide) (show (256 : Int) ^ (szk k1).toNat = 16777216 by rw [show k1 = 172 by assumption]; rfl) (getD_mem (i := i.toNat) (d := 0) (by omega)) (by omega)).symm
          ·
           have e1 : IntKind.i64.wrap (i + 1) = i + 1 := wi64 (by omega) (by omega)
           have e0 : (i + 1).toNat = i.toNat + 1 := by omega
           exact Rn 8 (.ex .normal) [.loop J36, .blk 0, Qs B171 7] _ (X.again (hJ36 _ _ _ _ ⟨IntKind.i64.wrap (i + 1), rfl, rfl, rfl, ⟨by omega, by omega, by rw [e1, e0]; exact take_all (d := 0) hi2 (by omega) (by omega)⟩, rfl⟩ (by rw [e1]; omega)))
         ·
          refine Rn 12 (.ex .ret) [] ⟨19, [(4, I6 (-1))], [(2003, ⟨3, [I6 3]⟩)]⟩ ?_
          refine fin35 _ _ _ _ [N6 (-1)] [(1003, ⟨3, [I6 3]⟩)] (.inl rfl) (by kernel_rfl) (by kernel_rfl) ?_
          refine Rn 5 (.ex .ret) [] ⟨9, [(4, VB false)], [(1003, ⟨3, [I6 3]⟩)]⟩ ?_
          refine fin34 _ _ _ _ [.bool false] [(3, ⟨3, [I6 3]⟩)] (.inl rfl) (by kernel_rfl) (by kernel_rfl) ?_
          refine Rn 6 (.ex .ret) [] ⟨53, [(2, VB true)], []⟩ ?_
          refine Dg (.inl rfl) [.bool true] [] rfl (Ge.refl _ _) ?_
          refine ⟨congrArg Value.bool ?_, rfl⟩
          rw [List.take_of_length_le (by omega)] at hi2
          exact (fine_yes (show 2 ≤ k1 ∧ k1 ≤ 255 from ⟨by omega, by omega⟩) (show szk k1 ≠ 0 by rw [show k1 = 172 by assumption]; decide) (show (256 : Int) ^ (szk k1).toNat = 16777216 by rw [show k1 = 172 by assumption]; rfl) (by assumption) (show lk2 k1 ≤ (xs.length : Int) ∧ (xs.length : Int) ≤ mk2 k1 by rw [show k1 = 172 by assumption, show lk2 172 = 0 from rfl, show mk2 172 = 3 from rfl]; omega) hi2).symm
        ·
         refine Rn 10 (.ex .ret) [] ⟨53, [(2, VB false)], []⟩ ?_
         refine Dg (.inl rfl) [.bool false] [] rfl (Ge.refl _ _) ?_
         refine ⟨congrArg Value.bool ?_, rfl⟩
         first | exact (fine_raw (show 2 ≤ k1 ∧ k1 ≤ 255 from ⟨by omega, by omega⟩) (show szk k1 ≠ 0 by rw [show k1 = 172 by assumption]; decide) (by assumption)).symm | exact (fine_few (show 2 ≤ k1 ∧ k1 ≤ 255 from ⟨by omega, by omega⟩) (show szk k1 ≠ 0 by rw [show k1 = 172 by assumption]; decide) (show ¬ (lk2 k1 ≤ (xs.length : Int) ∧ (xs.length : Int) ≤ mk2 k1) by rw [show k1 = 172 by assumption, show lk2 172 = 0 from rfl, show mk2 172 = 3 from rfl]; omega)).symm
       ·
        refine Rn 17 (.ex .ret) [] ⟨53, [(2, VB false)], []⟩ ?_
        refine Dg (.inl rfl) [.bool false] [] rfl (Ge.refl _ _) ?_
        refine ⟨congrArg Value.bool ?_, rfl⟩
        first | exact (fine_raw (show 2 ≤ k1 ∧ k1 ≤ 255 from ⟨by omega, by omega⟩) (show szk k1 ≠ 0 by rw [show k1 = 172 by assumption]; decide) (by assumption)).symm | exact (fine_few (show 2 ≤ k1 ∧ k1 ≤ 255 from ⟨by omega, by omega⟩) (show szk k1 ≠ 0 by rw [show k1 = 172 by assumption]; decide) (show ¬ (lk2 k1 ≤ (xs.length : Int) ∧ (xs.length : Int) ≤ mk2 k1) by rw [show k1 = 172 by assumption, show lk2 172 = 0 from rfl, show mk2 172 = 3 from rfl]; omega)).symm
      ·
       replace h31 : s1 ≠ (⟨#[]⟩ : ByteArray) := strF h31
       refine Rn 24 (.ex .ret) [] ⟨53, [(2, VB false)], []⟩ ?_
       refine Dg (.inl rfl) [.bool false] [] rfl (Ge.refl _ _) ?_
       refine ⟨congrArg Value.bool ?_, rfl⟩
       first | exact (fine_raw (show 2 ≤ k1 ∧ k1 ≤ 255 from ⟨by omega, by omega⟩) (show szk k1 ≠ 0 by rw [show k1 = 172 by assumption]; decide) (by assumption)).symm | exact (fine_few (show 2 ≤ k1 ∧ k1 ≤ 255 from ⟨by omega, by omega⟩) (show szk k1 ≠ 0 by rw [show k1 = 172 by assumption]; decide) (show ¬ (lk2 k1 ≤ (xs.length : Int) ∧ (xs.length : Int) ≤ mk2 k1) by rw [show k1 = 172 by assumption, show lk2 172 = 0 from rfl, show mk2 172 = 3 from rfl]; omega)).symm
     ·
      refine Ra 6 (Qc B108 863) 1 [] [(10, VB (k1 == 174))] ?_
      refine Se 10 rfl ?_ ?_ <;> intro h43
      ·
       refine Rn 11 (.ex .ret) [] ⟨13, [(2, I6 3), (3, I6 0), (4, I6 3)], [(1001, ⟨65, [I6 k1, VL A xs.length ca, VT s1]⟩)]⟩ ?_
       refine fin3 _ _ _ _ [N6 3, N6 0, N6 3] [(1, ⟨65, [I6 k1, VL A xs.length ca, VT s1]⟩)] (.inl rfl) (by kernel_rfl) (by kernel_rfl) ?_
       refine Rb 32 (Qo B106 126 4) 1 [Qs B106 127] [(4, I6 0), (5, I6 3), (6, .fn 153 [(3, 0)]), (32, VB (s1.toList == (⟨#[]⟩ : ByteArray).toList))] [] [(3, ⟨3, [I6 3]⟩)] [] ?_
       refine X.split 32 rfl (fun h44 => ?_) (fun h44 => ?_)
       ·
        replace h44 : s1 = (⟨#[]⟩ : ByteArray) := strT h44
        refine Rc 7 (Qo B106 126 11) 0 [] [(39, VB (decide ((xs.length : Int) ≥ 0)))] [4] ?_
        refine Sd 39 rfl ?_ ?_ <;> intro h45
        ·
         refine Rc 7 (Qo B106 126 18) 0 [] [(46, VB (decide ((xs.length : Int) ≤ 3)))] [5] ?_
         refine Sd 46 rfl ?_ ?_ <;> intro h46
         ·
          refine Rb 3 (Qo B106 126 21) 0 [] [(46, VB true), (48, VL A xs.length ca), (49, .fn 153 [(3, 0)])] [6] [] [1] ?_
          refine X.inline (f := 154) (l := [VL A xs.length ca, .fn 153 [(3, 0)]]) (fn := Try.f154) (c := B154) (by kernel_rfl) (by kernel_rfl) Try.func154 (by kernel_rfl) ?_
          intro Q47 M47 hM47 hQ47 fin47
          refine Ra 9 (Qo B154 6 2) 0 [Qs B154 7] [(4, VB false), (5, VL A xs.length ca), (6, .fn 153 [(1003, 0)])] ?_
          refine X.inline (f := 171) (l := [VL A xs.length ca, .fn 153 [(1003, 0)]]) (fn := Try.f171) (c := B171) (by kernel_rfl) (by kernel_rfl) Try.func171 (by kernel_rfl) ?_
          intro Q48 M48 hM48 hQ48 fin48
          refine Ra 14 (Qc B171 26) 0 [.blk 0, Qs B171 7] [(4, I6 0), (7, I6 (xs.length : Int)), (8, I6 0)] ?_
          refine Rn 0 (Qc B171 26) [.blk 0, Qs B171 7] _ (X.loopJ (fun m s R' G' => ∃ (i : Int), s = ⟨19, [(0, VL A xs.length ca), (1, .fn 153 [(2003, 0)]), (7, I6 (xs.length : Int)), (8, I6 i)], [(2003, ⟨3, [I6 3]⟩)]⟩ ∧ R' = [] ∧ G = G' ∧ (0 ≤ i ∧ i ≤ (xs.length : Int) ∧ ∀ n ∈ xs.take i.toNat, n < 16777216) ∧ m = ((xs.length : Int) - i).toNat) _ ⟨0, rfl, rfl, rfl, ⟨by omega, by omega, by simp⟩, rfl⟩ ?_)
          rintro m49 s49 R49 G49 ⟨i, rfl, rfl, rfl, hF49, rfl⟩ J49 hJ49
          obtain ⟨hi0, hi1, hi2⟩ := hF49
          refine Ra 6 (Qc B171 210) 0 [Qs B171 211] [(9, VB (decide (i < (xs.length : Int))))] ?_
          refine Sd 9 rfl ?_ ?_ <;> intro h50
          ·
           refine Ra 16 (Qo B171 3378 3) 1 [Qs B171 3379, .blk 1, Qs B171 423] [(5, I6 i), (11, .fn 153 [(2003, 0)]), (12, VL A xs.length ca), (13, I6 i)] ?_
           refine Ix 63 29 1 A xs.length ca .i64 i (.tmp 12) (.tmp 13) (by omega) (by omega) (fun _ _ => rowAt.so hx (by omega)) ?_
           obtain ⟨at53, lo53, hi53⟩ := At.int [] hx ((i).toNat) (by omega)
           simp only [IntKind.lo, IntKind.hi] at lo53 hi53
           refine Ra 0 (Qo B171 3378 4) 0 [] [(14, .v (elt A ((i).toNat * 1)))] ?_
           refine Ld 29 A ((i).toNat * 1) (.tmp 14) (N3 (xs.getD i.toNat 0)) [N3 (xs.getD i.toNat 0)] at53 ?_
           refine Ra 0 (Qo B171 3378 5) 0 [] [(15, I3 (xs.getD i.toNat 0))] ?_
           refine X.inline (f := 153) (l := [I3 (xs.getD i.toNat 0), .own 2003 0]) (fn := Try.f153) (c := B153) (by kernel_rfl) (by kernel_rfl) Try.func153 (by kernel_rfl) ?_
           intro Q54 M54 hM54 hQ54 fin54
           refine Ra 9 (Qo B153 6 2) 0 [Qs B153 7] [(3, VB false), (5, I7 (IntKind.u64.wrap (xs.getD i.toNat 0)))] ?_
           refine Kn 5 .u64 (xs.getD i.toNat 0) rfl (wu64 (by omega) (by omega)) ?_
           refine Ra 3 (Qo B153 6 5) 0 [] [(8, I7 (bshr .u64 (xs.getD i.toNat 0) 24))] ?_
           refine Kn 8 .u64 ((xs.getD i.toNat 0) / 16777216) rfl (by rw [shr_nn (by omega), show ((2 : Int) ^ min 24 IntKind.u64.bits) = 16777216 by decide]) ?_
           refine Rn 5 (.ex .ret) [] ⟨10, [(3, VB (decide ((xs.getD i.toNat 0) / 16777216 > 0)))], [(3003, ⟨3, [I6 3]⟩)]⟩ ?_
           refine fin54 _ _ _ _ [.bool (decide ((xs.getD i.toNat 0) / 16777216 > 0))] [(2003, ⟨3, [I6 3]⟩)] (.inl rfl) (by kernel_rfl) (by kernel_rfl) ?_
           refine Ra 2 (Qc B171 3379) 1 [] [(16, VB (decide ((xs.getD i.toNat 0) / 16777216 > 0)))] ?_
           refine Sd 16 rfl ?_ ?_ <;> intro h55
           ·
            refine Rn 13 (.ex .ret) [] ⟨19, [(4, I6 i)], [(2003, ⟨3, [I6 3]⟩)]⟩ ?_
            refine fin48 _ _ _ _ [N6 i] [(1003, ⟨3, [I6 3]⟩)] (.inl rfl) (by kernel_rfl) (by kernel_rfl) ?_
            refine Rn 5 (.ex .ret) [] ⟨9, [(4, VB (decide (i ≥ 0)))], [(1003, ⟨3, [I6 3]⟩)]⟩ ?_
            refine fin47 _ _ _ _ [.bool (decide (i ≥ 0))] [(3, ⟨3, [I6 3]⟩)] (.inl rfl) (by kernel_rfl) (by kernel_rfl) ?_
            refine Rn 6 (.ex .ret) [] ⟨53, [(2, VB (!(decide (i ≥ 0))))], []⟩ ?_
            refine Dg (.inl rfl) [.bool (!(decide (i ≥ 0)))] [] rfl (Ge.refl _ _) ?_
            refine ⟨congrArg Value.bool ?_, rfl⟩
            rw [decide_eq_true (show i ≥ 0 by omega)]
            exact (fine_big (show 2 ≤ k1 ∧ k1 ≤ 255 from ⟨by omega, by omega⟩) (show szk k1 ≠ 0 by rw [show k1 = 174 by assumption]; decide) (show (256 : Int) ^ (szk k1).toNat = 16777216 by rw [show k1 = 174 by assumption]; rfl) (getD_mem (i := i.toNat) (d := 0) (by omega)) (by omega)).symm
           ·
            have e1 : IntKind.i64.wrap (i + 1) = i + 1 := wi64 (by omega) (by omega)
            have e0 : (i + 1).toNat = i.toNat + 1 := by omega
            exact Rn 8 (.ex .normal) [.loop J49, .blk 0, Qs B171 7] _ (X.again (hJ49 _ _ _ _ ⟨IntKind.i64.wrap (i + 1), rfl, rfl, rfl, ⟨by omega, by omega, by rw [e1, e0]; exact take_all (d := 0) hi2 (by omega) (by omega)⟩, rfl⟩ (by rw [e1]; omega)))
          ·
           refine Rn 12 (.ex .ret) [] ⟨19, [(4, I6 (-1))], [(2003, ⟨3, [I6 3]⟩)]⟩ ?_
           refine fin48 _ _ _ _ [N6 (-1)] [(1003, ⟨3, [I6 3]⟩)] (.inl rfl) (by kernel_rfl) (by kernel_rfl) ?_
           refine Rn 5 (.ex .ret) [] ⟨9, [(4, VB false)], [(1003, ⟨3, [I6 3]⟩)]⟩ ?_
           refine fin47 _ _ _ _ [.bool false] [(3, ⟨3, [I6 3]⟩)] (.inl rfl) (by kernel_rfl) (by kernel_rfl) ?_
           refine Rn 6 (.ex .ret) [] ⟨53, [(2, VB true)], []⟩ ?_
           refine Dg (.inl rfl) [.bool true] [] rfl (Ge.refl _ _) ?_
           refine ⟨congrArg Value.bool ?_, rfl⟩
           rw [List.take_of_length_le (by omega)] at hi2
           exact (fine_yes (show 2 ≤ k1 ∧ k1 ≤ 255 from ⟨by omega, by omega⟩) (show szk k1 ≠ 0 by rw [show k1 = 174 by assumption]; decide) (show (256 : Int) ^ (szk k1).toNat = 16777216 by rw [show k1 = 174 by assumption]; rfl) (by assumption) (show lk2 k1 ≤ (xs.length : Int) ∧ (xs.length : Int) ≤ mk2 k1 by rw [show k1 = 174 by assumption, show lk2 174 = 0 from rfl, show mk2 174 = 3 from rfl]; omega) hi2).symm
         ·
          refine Rn 10 (.ex .ret) [] ⟨53, [(2, VB false)], []⟩ ?_
          refine Dg (.inl rfl) [.bool false] [] rfl (Ge.refl _ _) ?_
          refine ⟨congrArg Value.bool ?_, rfl⟩
          first | exact (fine_raw (show 2 ≤ k1 ∧ k1 ≤ 255 from ⟨by omega, by omega⟩) (show szk k1 ≠ 0 by rw [show k1 = 174 by assumption]; decide) (by assumption)).symm | exact (fine_few (show 2 ≤ k1 ∧ k1 ≤ 255 from ⟨by omega, by omega⟩) (show szk k1 ≠ 0 by rw [show k1 = 174 by assumption]; decide) (show ¬ (lk2 k1 ≤ (xs.length : Int) ∧ (xs.length : Int) ≤ mk2 k1) by rw [show k1 = 174 by assumption, show lk2 174 = 0 from rfl, show mk2 174 = 3 from rfl]; omega)).symm
        ·
         refine Rn 17 (.ex .ret) [] ⟨53, [(2, VB false)], []⟩ ?_
         refine Dg (.inl rfl) [.bool false] [] rfl (Ge.refl _ _) ?_
         refine ⟨congrArg Value.bool ?_, rfl⟩
         first | exact (fine_raw (show 2 ≤ k1 ∧ k1 ≤ 255 from ⟨by omega, by omega⟩) (show szk k1 ≠ 0 by rw [show k1 = 174 by assumption]; decide) (by assumption)).symm | exact (fine_few (show 2 ≤ k1 ∧ k1 ≤ 255 from ⟨by omega, by omega⟩) (show szk k1 ≠ 0 by rw [show k1 = 174 by assumption]; decide) (show ¬ (lk2 k1 ≤ (xs.length : Int) ∧ (xs.length : Int) ≤ mk2 k1) by rw [show k1 = 174 by assumption, show lk2 174 = 0 from rfl, show mk2 174 = 3 from rfl]; omega)).symm
       ·
        replace h44 : s1 ≠ (⟨#[]⟩ : ByteArray) := strF h44
        refine Rn 24 (.ex .ret) [] ⟨53, [(2, VB false)], []⟩ ?_
        refine Dg (.inl rfl) [.bool false] [] rfl (Ge.refl _ _) ?_
        refine ⟨congrArg Value.bool ?_, rfl⟩
        first | exact (fine_raw (show 2 ≤ k1 ∧ k1 ≤ 255 from ⟨by omega, by omega⟩) (show szk k1 ≠ 0 by rw [show k1 = 174 by assumption]; decide) (by assumption)).symm | exact (fine_few (show 2 ≤ k1 ∧ k1 ≤ 255 from ⟨by omega, by omega⟩) (show szk k1 ≠ 0 by rw [show k1 = 174 by assumption]; decide) (show ¬ (lk2 k1 ≤ (xs.length : Int) ∧ (xs.length : Int) ≤ mk2 k1) by rw [show k1 = 174 by assumption, show lk2 174 = 0 from rfl, show mk2 174 = 3 from rfl]; omega)).symm
      ·
       refine Rn 12 (.ex .ret) [] ⟨13, [(2, I6 0), (3, I6 0), (4, I6 0)], [(1001, ⟨65, [I6 k1, VL A xs.length ca, VT s1]⟩)]⟩ ?_
       refine fin3 _ _ _ _ [N6 0, N6 0, N6 0] [(1, ⟨65, [I6 k1, VL A xs.length ca, VT s1]⟩)] (.inl rfl) (by kernel_rfl) (by kernel_rfl) ?_
       refine Rn 29 (.ex .ret) [] ⟨53, [(2, VB ((xs.length : Int) == 0))], []⟩ ?_
       refine Dg (.inl rfl) [.bool ((xs.length : Int) == 0)] [] rfl (Ge.refl _ _) ?_
       refine ⟨congrArg Value.bool ?_, rfl⟩
       rw [fine_free (show 2 ≤ k1 ∧ k1 ≤ 255 from ⟨by omega, by omega⟩) (show szk k1 = 0 by unfold szk; rw [if_neg (by omega), if_neg (by omega), if_neg (by omega)])]
       by_cases h_ : xs.length = 0
       · rw [decide_eq_true h_]; simp [h_]
       · rw [decide_eq_false h_]; simp; exact fun e_ => h_ (by rw [e_]; rfl)
set_option maxHeartbeats 1000000 in
theorem Find_ok (A : Option Addr) (c : Nat) (xs : List Opt) (k : Int) (G : Mem) (hr : rowAt optD G A xs) (hle : xs.length ≤ c) (hmx : c ≤ maxLen) : CallsG Try.prog 51 [.slice A xs.length c, .int .i64 k] G (fun G' v rows => ∃ B c', v = .tuple #[.agg #[.int .i64 (findO xs k).1.1, .slice B (findO xs k).1.2.1.length c', .string (findO xs k).1.2.2], .bool (findO xs k).2] ∧ (findO xs k).1.2.1.length ≤ c' ∧ c' ≤ maxLen ∧ rowAt (D.int .u32) G' B (findO xs k).1.2.1 ∧ rows = []) := by
 simp only [maxLen] at hmx
 refine CallsG.enter Try.func51 rfl rfl ?_
 intro w
 refine Rn 11 (Qo B51 6 2) [Qs B51 7] ⟨17, [(0, VL A xs.length c), (4, .own 4 0), (5, VB false), (7, VL A xs.length c), (8, .fn 115 [(3, 0)])], [(3, ⟨3, [I6 k]⟩), (4, ⟨65, [I6 0, VL none 0 0, VT ByteArray.empty]⟩)]⟩ ?_
 refine X.inline (f := 114) (l := [VL A xs.length c, .fn 115 [(3, 0)]]) (fn := Try.f114) (c := B114) (by kernel_rfl) (by kernel_rfl) Try.func114 (by kernel_rfl) ?_
 intro Q1 M1 hM1 hQ1 fin1
 refine Ra 14 (Qc B114 26) 0 [.blk 0, Qs B114 7] [(4, I6 0), (7, I6 (xs.length : Int)), (8, I6 0)] ?_
 refine Rn 0 (Qc B114 26) [.blk 0, Qs B114 7] _ (X.loopJ (fun m s R' G' => ∃ (i : Int), s = ⟨19, [(0, VL A xs.length c), (1, .fn 115 [(1003, 0)]), (7, I6 (xs.length : Int)), (8, I6 i)], [(1003, ⟨3, [I6 k]⟩), (1004, ⟨65, [I6 0, VL none 0 0, VT ByteArray.empty]⟩)]⟩ ∧ R' = [] ∧ G = G' ∧ (0 ≤ i ∧ i ≤ (xs.length : Int) ∧ ∀ o ∈ xs.take i.toNat, o.1 ≠ k) ∧ m = ((xs.length : Int) - i).toNat) _ ⟨0, rfl, rfl, rfl, ⟨by omega, by omega, by simp⟩, rfl⟩ ?_)
 rintro m2 s2 R2 G2 ⟨i, rfl, rfl, rfl, hF2, rfl⟩ J2 hJ2
 obtain ⟨hi0, hi1, hi2⟩ := hF2
 refine Ra 6 (Qc B114 210) 0 [Qs B114 211] [(9, VB (decide (i < (xs.length : Int))))] ?_
 refine Sd 9 rfl ?_ ?_ <;> intro h3
 ·
  refine Ra 16 (Qo B114 3378 3) 1 [Qs B114 3379, .blk 1, Qs B114 423] [(5, I6 i), (11, .fn 115 [(1003, 0)]), (12, VL A xs.length c), (13, I6 i)] ?_
  refine Ix 59 65 3 A xs.length c .i64 i (.tmp 12) (.tmp 13) (by omega) (by omega) (fun _ _ => rowAt.so hr (by omega)) ?_
  obtain ⟨A6, c6, at6, kr6, le6, mx6, hr6⟩ := At.opt [] hr ((i).toNat) (by omega)
  simp only [IntKind.lo, IntKind.hi, maxLen] at kr6 mx6
  refine Ra 0 (Qo B114 3378 4) 0 [] [(14, .v (elt A ((i).toNat * 3)))] ?_
  refine Ld 65 A ((i).toNat * 3) (.tmp 14) (.agg #[N6 ((xs.getD i.toNat opt0).1), .slice A6 ((xs.getD i.toNat opt0).2.1.length) c6, .string ((xs.getD i.toNat opt0).2.2)]) [N6 ((xs.getD i.toNat opt0).1), .slice A6 ((xs.getD i.toNat opt0).2.1.length) c6, .string ((xs.getD i.toNat opt0).2.2)] at6 ?_
  refine Ra 0 (Qo B114 3378 5) 0 [] [(15, .v (.agg #[N6 ((xs.getD i.toNat opt0).1), .slice A6 ((xs.getD i.toNat opt0).2.1.length) c6, .string ((xs.getD i.toNat opt0).2.2)]))] ?_
  refine X.inline (f := 115) (l := [.v (.agg #[N6 ((xs.getD i.toNat opt0).1), .slice A6 ((xs.getD i.toNat opt0).2.1.length) c6, .string ((xs.getD i.toNat opt0).2.2)]), .own 1003 0]) (fn := Try.f115) (c := B115) (by kernel_rfl) (by kernel_rfl) Try.func115 (by kernel_rfl) ?_
  intro Q7 M7 hM7 hQ7 fin7
  refine Rc 16 (.ex .ret) 0 [] [(3, VB (((xs.getD i.toNat opt0).1) == k))] [0, 1] ?_
  refine fin7 _ _ _ _ [.bool (((xs.getD i.toNat opt0).1) == k)] [(1003, ⟨3, [I6 k]⟩), (1004, ⟨65, [I6 0, VL none 0 0, VT ByteArray.empty]⟩)] (.inl rfl) (by kernel_rfl) (by kernel_rfl) ?_
  refine Ra 2 (Qc B114 3379) 1 [] [(16, VB (((xs.getD i.toNat opt0).1) == k))] ?_
  refine Se 16 rfl ?_ ?_ <;> intro h8
  ·
   refine Rn 13 (.ex .ret) [] ⟨19, [(4, I6 i)], [(1003, ⟨3, [I6 k]⟩), (1004, ⟨65, [I6 0, VL none 0 0, VT ByteArray.empty]⟩)]⟩ ?_
   refine fin1 _ _ _ _ [N6 i] [(3, ⟨3, [I6 k]⟩), (4, ⟨65, [I6 0, VL none 0 0, VT ByteArray.empty]⟩)] (.inl rfl) (by kernel_rfl) (by kernel_rfl) ?_
   refine Rb 10 (Qc B51 29) 1 [Qs B51 15] [(6, I6 i), (11, VB (decide (i < 0)))] [] [] [3] ?_
   refine X.isFalse 11 rfl (decide_eq_false (by omega)) ?_
   refine Rc 7 (Qo B51 30 2) 1 [Qs B51 31] [(13, VL A xs.length c), (14, I6 i)] [6] ?_
   refine Ix 59 65 3 A xs.length c .i64 i (.tmp 13) (.tmp 14) (by omega) (by omega) (fun _ _ => rowAt.so hr (by omega)) ?_
   obtain ⟨A11, c11, at11, kr11, le11, mx11, hr11⟩ := At.opt [] hr ((i).toNat) (by omega)
   simp only [IntKind.lo, IntKind.hi, maxLen] at kr11 mx11
   refine Ra 0 (Qo B51 30 3) 0 [] [(15, .v (elt A ((i).toNat * 3)))] ?_
   refine Ld 65 A ((i).toNat * 3) (.tmp 15) (.agg #[N6 ((xs.getD i.toNat opt0).1), .slice A11 ((xs.getD i.toNat opt0).2.1.length) c11, .string ((xs.getD i.toNat opt0).2.2)]) [N6 ((xs.getD i.toNat opt0).1), .slice A11 ((xs.getD i.toNat opt0).2.1.length) c11, .string ((xs.getD i.toNat opt0).2.2)] at11 ?_
   refine Rb 5 (.ex .ret) 1 [] [(5, VB true)] [15] [(4, ⟨65, [I6 ((xs.getD i.toNat opt0).1), VL A11 ((xs.getD i.toNat opt0).2.1.length) c11, VT ((xs.getD i.toNat opt0).2.2)]⟩)] [] ?_
   refine Dg (.inl rfl) [.agg #[N6 ((xs.getD i.toNat opt0).1), .slice A11 ((xs.getD i.toNat opt0).2.1.length) c11, .string ((xs.getD i.toNat opt0).2.2)], .bool true] [] rfl (Ge.refl _ _) ?_
   rw [findO_some (i := i.toNat) (by omega) hi2 (by assumption)]
   exact ⟨_, _, rfl, le11, mx11, hr11, rfl⟩
  ·
   have e1 : IntKind.i64.wrap (i + 1) = i + 1 := wi64 (by omega) (by omega)
   have e0 : (i + 1).toNat = i.toNat + 1 := by omega
   exact Rn 8 (.ex .normal) [.loop J2, .blk 0, Qs B114 7] _ (X.again (hJ2 _ _ _ _ ⟨IntKind.i64.wrap (i + 1), rfl, rfl, rfl, ⟨by omega, by omega, by rw [e1, e0]; exact take_all (p := fun o : Opt => o.1 ≠ k) (d := opt0) hi2 (by omega) (by assumption)⟩, rfl⟩ (by rw [e1]; omega)))
 ·
  refine Rc 12 (.ex .ret) 4 [] [(4, I6 (-1))] [0, 1, 7, 8, 9] ?_
  refine fin1 _ _ _ _ [N6 (-1)] [(3, ⟨3, [I6 k]⟩), (4, ⟨65, [I6 0, VL none 0 0, VT ByteArray.empty]⟩)] (.inl rfl) (by kernel_rfl) (by kernel_rfl) ?_
  refine Rn 20 (.ex .ret) [] ⟨17, [(4, .own 4 0), (5, VB false)], [(4, ⟨65, [I6 0, VL none 0 0, VT ByteArray.empty]⟩)]⟩ ?_
  refine Dg (.inl rfl) [.agg #[N6 0, .slice none 0 0, .string ByteArray.empty], .bool false] [] rfl (Ge.refl _ _) ?_
  rw [List.take_of_length_le (by omega)] at hi2
  rw [findO_none hi2]
  exact ⟨none, 0, rfl, by simp [opt0], by simp [maxLen], rowAt.nil _ _ _, rfl⟩
set_option maxHeartbeats 1000000 in
theorem had_ok (A : Option Addr) (c : Nat) (xs : List Opt) (k : Int) (G : Mem) (hr : rowAt optD G A xs) (hle : xs.length ≤ c) (hmx : c ≤ maxLen) : CallsG Try.prog 107 [.slice A xs.length c, .int .i64 k] G (fun _ v rows => v = .bool (hadB xs k) ∧ rows = []) := by
 refine CallsG.enter Try.func107 rfl rfl ?_
 intro w
 refine Rn 9 (Qo B107 6 2) [Qs B107 7] ⟨18, [(1, I6 k), (4, VB false), (8, VL A xs.length c), (9, I6 k)], []⟩ ?_
 refine Cg 51 [.slice A xs.length c, N6 k] 0 (Find_ok A c xs k _ hr hle hmx) ?_
 rintro v1 G1 rows1 hG1 ⟨A1, c1, rfl, hle1, hmx1, hr1, rfl⟩
 replace hr := hr.mono hG1.le
 refine Ra 12 (Qo B107 14 2) 1 [Qs B107 15] [(14, VB ((findO xs k).2))] ?_
 refine X.split 14 rfl (fun h2 => ?_) (fun h2 => ?_)
 ·
  refine Ra 1 (Qo B107 14 3) 0 [] [(14, VB true), (15, I6 k)] ?_
  refine X.inline (f := 155) (l := [I6 k]) (fn := Try.f155) (c := B155) (by kernel_rfl) (by kernel_rfl) Try.func155 (by kernel_rfl) ?_
  intro Q3 M3 hM3 hQ3 fin3
  refine Ra 8 (Qo B155 6 1) 0 [Qs B155 7] [(2, VB false), (7, I6 k)] ?_
  refine X.inline (f := 108) (l := [I6 k]) (fn := Try.f108) (c := B108) (by kernel_rfl) (by kernel_rfl) Try.func108 (by kernel_rfl) ?_
  intro Q4 M4 hM4 hQ4 fin4
  refine Ra 20 (Qc B108 53) 0 [.blk 0, Qs B108 7] [(2, I6 0), (3, I6 0), (4, I6 0), (5, I6 k), (6, VB (k == 2))] ?_
  refine Se 6 rfl ?_ ?_ <;> intro h5
  ·
   refine Rn 11 (.ex .ret) [] ⟨13, [(2, I6 2), (3, I6 1), (4, I6 1)], []⟩ ?_
   refine fin4 _ _ _ _ [N6 2, N6 1, N6 1] [] (.inl rfl) (by kernel_rfl) (by kernel_rfl) ?_
   refine Rn 17 (.ex .ret) [] ⟨14, [(2, VB true)], []⟩ ?_
   refine fin3 _ _ _ _ [.bool true] [] (.inl rfl) (by kernel_rfl) (by kernel_rfl) ?_
   refine Rn 5 (.ex .ret) [] ⟨18, [(4, VB true)], []⟩ ?_
   refine Dg (.inl rfl) [.bool true] [] rfl (hG1) ?_
   exact ⟨congrArg Value.bool (by rw [had_find, show (findO xs k).2 = true by assumption, decide_eq_true (show 0 < szk k by rw [show k = 2 by assumption]; decide)]; rfl), rfl⟩
  ·
   refine Rc 7 (Qc B108 215) 0 [] [(8, VB (k == 8))] [6] ?_
   refine Se 8 rfl ?_ ?_ <;> intro h6
   ·
    refine Rn 11 (.ex .ret) [] ⟨13, [(2, I6 4), (3, I6 2), (4, I6 2)], []⟩ ?_
    refine fin4 _ _ _ _ [N6 4, N6 2, N6 2] [] (.inl rfl) (by kernel_rfl) (by kernel_rfl) ?_
    refine Rn 17 (.ex .ret) [] ⟨14, [(2, VB true)], []⟩ ?_
    refine fin3 _ _ _ _ [.bool true] [] (.inl rfl) (by kernel_rfl) (by kernel_rfl) ?_
    refine Rn 5 (.ex .ret) [] ⟨18, [(4, VB true)], []⟩ ?_
    refine Dg (.inl rfl) [.bool true] [] rfl (hG1) ?_
    exact ⟨congrArg Value.bool (by rw [had_find, show (findO xs k).2 = true by assumption, decide_eq_true (show 0 < szk k by rw [show k = 8 by assumption]; decide)]; rfl), rfl⟩
   ·
    refine Rc 8 (Qc B108 1725) 0 [Qs B108 863] [(10, VB (k == 172))] [8] ?_
    refine Se 10 rfl ?_ ?_ <;> intro h7
    ·
     refine Rn 14 (.ex .ret) [] ⟨13, [(2, I6 3), (3, I6 0), (4, I6 3)], []⟩ ?_
     refine fin4 _ _ _ _ [N6 3, N6 0, N6 3] [] (.inl rfl) (by kernel_rfl) (by kernel_rfl) ?_
     refine Rn 17 (.ex .ret) [] ⟨14, [(2, VB true)], []⟩ ?_
     refine fin3 _ _ _ _ [.bool true] [] (.inl rfl) (by kernel_rfl) (by kernel_rfl) ?_
     refine Rn 5 (.ex .ret) [] ⟨18, [(4, VB true)], []⟩ ?_
     refine Dg (.inl rfl) [.bool true] [] rfl (hG1) ?_
     exact ⟨congrArg Value.bool (by rw [had_find, show (findO xs k).2 = true by assumption, decide_eq_true (show 0 < szk k by rw [show k = 172 by assumption]; decide)]; rfl), rfl⟩
    ·
     refine Ra 6 (Qc B108 863) 1 [] [(10, VB (k == 174))] ?_
     refine Se 10 rfl ?_ ?_ <;> intro h8
     ·
      refine Rn 11 (.ex .ret) [] ⟨13, [(2, I6 3), (3, I6 0), (4, I6 3)], []⟩ ?_
      refine fin4 _ _ _ _ [N6 3, N6 0, N6 3] [] (.inl rfl) (by kernel_rfl) (by kernel_rfl) ?_
      refine Rn 17 (.ex .ret) [] ⟨14, [(2, VB true)], []⟩ ?_
      refine fin3 _ _ _ _ [.bool true] [] (.inl rfl) (by kernel_rfl) (by kernel_rfl) ?_
      refine Rn 5 (.ex .ret) [] ⟨18, [(4, VB true)], []⟩ ?_
      refine Dg (.inl rfl) [.bool true] [] rfl (hG1) ?_
      exact ⟨congrArg Value.bool (by rw [had_find, show (findO xs k).2 = true by assumption, decide_eq_true (show 0 < szk k by rw [show k = 174 by assumption]; decide)]; rfl), rfl⟩
     ·
      refine Rn 12 (.ex .ret) [] ⟨13, [(2, I6 0), (3, I6 0), (4, I6 0)], []⟩ ?_
      refine fin4 _ _ _ _ [N6 0, N6 0, N6 0] [] (.inl rfl) (by kernel_rfl) (by kernel_rfl) ?_
      refine Rn 17 (.ex .ret) [] ⟨14, [(2, VB false)], []⟩ ?_
      refine fin3 _ _ _ _ [.bool false] [] (.inl rfl) (by kernel_rfl) (by kernel_rfl) ?_
      refine Rn 5 (.ex .ret) [] ⟨18, [(4, VB false)], []⟩ ?_
      refine Dg (.inl rfl) [.bool false] [] rfl (hG1) ?_
      exact ⟨congrArg Value.bool (had_off (by rw [show szk k = 0 by unfold szk; rw [if_neg (by omega), if_neg (by omega), if_neg (by omega)]]; decide)).symm, rfl⟩
 ·
  refine Rn 7 (.ex .ret) [] ⟨18, [(4, VB false)], []⟩ ?_
  refine Dg (.inl rfl) [.bool false] [] rfl (hG1) ?_
  exact ⟨congrArg Value.bool (by rw [had_find, show (findO xs k).2 = false by assumption]; rfl), rfl⟩
section
variable {C : Ctx} {k : List CK} {s : S} {G : Mem} {R : List (Nat × Row)}
theorem rowNone2 {G : Mem} {R : List (Nat × Row)} {i n c : Nat} {q : Row} {A : Option Addr} (hq : lk R i = some q) (hv : q.v = .slice A n c) (w : World) (hw : Mm G R w) (e : A = none) : n = 0 ∧ c = 0 := by
 subst e
 have h := hw.2 i q hq
 rw [hv] at h
 rcases h.2 with ⟨h1, _⟩ | ⟨g, cap, cur, h1, _⟩
 ·
  injection h1 with _ h2 h3
  exact ⟨h2, h3⟩
 · cases h1
theorem X.freezeD {α : Type} {d : D α} {cur : Cur} {i n c : Nat} {q : Row} {A : Option Addr} (xs : List α) (hqv : q.v = .slice A n c) (hr : repsD d G xs q.cells) (hd : 0 < d.sz) (hn : R.all (fun p => p.1 != i) = true) (hM : ∀ x, ¬ C.M.can x)
  (H : ∀ G', Ge G C.w0.heap.size G' → rowAt d G' A xs → X C cur k s R G') : X C cur k s ((i, q) :: R) G := by
 refine X.freeze (i := i) (q := q) (R' := R) (by rw [lk_cons, if_pos rfl]) hqv (fun j p hj => ?_) (fun G' hG hc => H G' hG ?_) hM
 ·
  have hne : j ≠ i := by
   have := List.all_eq_true.mp hn _ (lk_mem hj)
   simpa using this
  exact ⟨hne, by rw [lk_cons, if_neg (Ne.symm hne)]; exact hj⟩
 · exact rowAt_of_cells (hr.mono hG.le) hd hc
end
theorem take_step {xs : List Opt} {i : Nat} (h : i < xs.length) : xs.take (i + 1) = xs.take i ++ [xs.getD i opt0] := by
 rw [List.take_succ_eq_append_getElem h]
 simp [h]
theorem drop_step {xs : List Opt} {i : Nat} (h : i < xs.length) : xs.drop i = xs.getD i opt0 :: xs.drop (i + 1) := by
 rw [List.drop_eq_getElem_cons h]
 simp [h]
def optLen (o : Opt) : Int := 2 + (o.2.1.length : Int) * szk o.1 + (o.2.2.size : Int)
def sumO : List Opt → Int
 | [] => 0
 | o :: l => optLen o + sumO l
theorem szk_nn (k : Int) : 0 ≤ szk k ∧ szk k ≤ 4 := by
 unfold szk
 (repeat' split) <;> omega
theorem optLen_nn (o : Opt) : 2 ≤ optLen o := by
 have := Int.mul_nonneg (Int.natCast_nonneg o.2.1.length) (szk_nn o.1).1
 unfold optLen
 omega
theorem sumO_nn : ∀ l : List Opt, 0 ≤ sumO l
 | [] => Int.le_refl 0
 | o :: l => by
  have := sumO_nn l
  have := optLen_nn o
  unfold sumO
  omega
theorem sumO_app (a b : List Opt) : sumO (a ++ b) = sumO a + sumO b := by
 induction a with
 | nil => simp [sumO]
 | cons o l ih => simp only [List.cons_append, sumO, ih]; omega
theorem sumO_step {xs : List Opt} {i : Nat} (h : i < xs.length) : sumO (xs.take (i + 1)) = sumO (xs.take i) + optLen (xs.getD i opt0) := by
 rw [take_step h, sumO_app]
 simp [sumO]
theorem sumO_le (xs : List Opt) (i : Nat) : sumO (xs.take i) ≤ sumO xs := by
 have h : sumO xs = sumO (xs.take i) + sumO (xs.drop i) := by rw [← sumO_app, List.take_append_drop]
 have := sumO_nn (xs.drop i)
 omega
theorem fine_prod {o : Opt} (h : fineB o = true) : 0 ≤ (o.2.1.length : Int) * szk o.1 ∧ (o.2.1.length : Int) * szk o.1 ≤ 12 ∧ o.2.1.length ≤ 3 ∧ 2 ≤ o.1 ∧ o.1 ≤ 255 ∧ (szk o.1 = 0 → o.2.1.length = 0) := by
 have h4 := szk_nn o.1
 have hm : mk2 o.1 ≤ 3 := by unfold mk2; (repeat' split) <;> omega
 unfold fineB at h
 simp only [Bool.and_eq_true, decide_eq_true_eq] at h
 have hl : o.2.1.length ≤ 3 ∧ (szk o.1 = 0 → o.2.1.length = 0) := by
  by_cases h0 : szk o.1 = 0
  ·
   have h2 := h.2
   rw [if_pos h0] at h2
   have h2 := of_decide_eq_true h2
   exact ⟨by omega, fun _ => h2⟩
  ·
   have h2 := h.2
   rw [if_neg h0] at h2
   simp only [Bool.and_eq_true, decide_eq_true_eq] at h2
   exact ⟨by omega, fun h => absurd h h0⟩
 refine ⟨Int.mul_nonneg (Int.natCast_nonneg _) h4.1, ?_, hl.1, h.1.1, h.1.2, hl.2⟩
 have := Int.mul_le_mul (show (o.2.1.length : Int) ≤ 3 by omega) h4.2 h4.1 (show (0 : Int) ≤ 3 by decide)
 omega
def chk : List Opt → List Opt → Int
 | _, [] => 0
 | p, o :: l => if fineB o = true then (if hadB p o.1 = true then 5 else chk (p ++ [o]) l) else 2
theorem chk_step {xs : List Opt} {i : Nat} (hi : i < xs.length) (h1 : fineB (xs.getD i opt0) = true) (h2 : hadB (xs.take i) (xs.getD i opt0).1 = false) : chk (xs.take (i + 1)) (xs.drop (i + 1)) = chk (xs.take i) (xs.drop i) := by
 rw [drop_step hi, chk, if_pos h1, if_neg (by rw [h2]; decide), take_step hi]
theorem chk_bad {xs : List Opt} {i : Nat} (hi : i < xs.length) (h1 : fineB (xs.getD i opt0) = false) : chk (xs.take i) (xs.drop i) = 2 := by
 rw [drop_step hi, chk, if_neg (by rw [h1]; decide)]
theorem chk_had {xs : List Opt} {i : Nat} (hi : i < xs.length) (h1 : fineB (xs.getD i opt0) = true) (h2 : hadB (xs.take i) (xs.getD i opt0).1 = true) : chk (xs.take i) (xs.drop i) = 5 := by
 rw [drop_step hi, chk, if_pos h1, if_pos h2]
theorem chk_nil {xs : List Opt} {i : Nat} (hi : xs.length ≤ i) : chk (xs.take i) (xs.drop i) = 0 := by
 rw [List.drop_of_length_le hi]
 rfl
theorem chk_all : ∀ {l p : List Opt}, chk p l = 0 → ∀ o ∈ l, fineB o = true
 | [], p, _, o, ho => by cases ho
 | x :: l, p, h, o, ho => by
  unfold chk at h
  by_cases h1 : fineB x = true
  ·
   rw [if_pos h1] at h
   by_cases h2 : hadB p x.1 = true
   · rw [if_pos h2] at h; exact absurd h (by decide)
   ·
    rw [if_neg h2] at h
    rcases List.mem_cons.mp ho with rfl | ho
    · exact h1
    · exact chk_all h o ho
  · rw [if_neg h1] at h; exact absurd h (by decide)
def errO (xs : List Opt) : Int := if chk [] xs ≠ 0 then chk [] xs else if 40 < sumO xs then 4 else 0
theorem errO_chk {xs : List Opt} {e : Int} (h : chk [] xs = e) (he : e ≠ 0) : errO xs = e := by
 unfold errO
 rw [h, if_pos he]
theorem errO_long {xs : List Opt} (h : chk [] xs = 0) (he : 40 < sumO xs) : errO xs = 4 := by
 unfold errO
 rw [h, if_neg (by decide), if_pos he]
theorem errO_ok {xs : List Opt} (h : chk [] xs = 0) (he : ¬ 40 < sumO xs) : errO xs = 0 := by
 unfold errO
 rw [h, if_neg (by decide), if_neg he]
def be : Int → Nat → List Int
 | _, 0 => []
 | n, q + 1 => be (n / 256) q ++ [n % 256]
theorem be_len : ∀ (n : Int) (q : Nat), (be n q).length = q
 | _, 0 => rfl
 | n, q + 1 => by simp [be, be_len (n / 256) q]
theorem be_range : ∀ (q : Nat) (n : Int), ∀ x ∈ be n q, 0 ≤ x ∧ x ≤ 255
 | 0, n, x, h => by cases h
 | q + 1, n, x, h => by
  simp only [be, List.mem_append, List.mem_singleton] at h
  rcases h with h | rfl
  · exact be_range q _ x h
  · omega
theorem byteSh {n : Int} (h0 : 0 ≤ n) (e : Nat) (he : e ≤ 3) : IntKind.u8.wrap (bshr .u32 n (8 * e)) = n / 256 ^ e % 256 := by
 rw [shr_nn h0, show min (8 * e) IntKind.u32.bits = 8 * e by simp [IntKind.bits]; omega, Int.pow_mul, show ((2 : Int) ^ 8) = 256 by decide]
 rfl
theorem be2 {n : Int} (h : 0 ≤ n) : be n 2 = [IntKind.u8.wrap (bshr .u32 n 8), IntKind.u8.wrap (bshr .u32 n 0)] := by
 have e1 := byteSh h 1 (by decide)
 have e0 := byteSh h 0 (by decide)
 simp only [Nat.mul_one, Nat.mul_zero] at e1 e0
 simp [be, e1, e0]
theorem be3 {n : Int} (h : 0 ≤ n) : be n 3 = [IntKind.u8.wrap (bshr .u32 n 16), IntKind.u8.wrap (bshr .u32 n 8), IntKind.u8.wrap (bshr .u32 n 0)] := by
 have e2 := byteSh h 2 (by decide)
 have e1 := byteSh h 1 (by decide)
 have e0 := byteSh h 0 (by decide)
 simp only [Nat.mul_one, Nat.mul_zero] at e1 e0
 simp [be, e1, e0, show 16 = 8 * 2 from rfl, e2, Int.ediv_ediv_of_nonneg]
theorem be4 {n : Int} (h : 0 ≤ n) : be n 4 = [IntKind.u8.wrap (bshr .u32 n 24), IntKind.u8.wrap (bshr .u32 n 16), IntKind.u8.wrap (bshr .u32 n 8), IntKind.u8.wrap (bshr .u32 n 0)] := by
 have e3 := byteSh h 3 (by decide)
 have e2 := byteSh h 2 (by decide)
 have e1 := byteSh h 1 (by decide)
 have e0 := byteSh h 0 (by decide)
 simp only [Nat.mul_one, Nat.mul_zero] at e1 e0
 simp [be, e1, e0, show 16 = 8 * 2 from rfl, show 24 = 8 * 3 from rfl, e2, e3, Int.ediv_ediv_of_nonneg]
def numsB (k : Int) (ns : List Int) : List Int := ns.flatMap (fun n => be n (szk k).toNat)
theorem numsB_step {k : Int} {ns : List Int} {j : Nat} (h : j < ns.length) : numsB k (ns.take (j + 1)) = numsB k (ns.take j) ++ be (ns.getD j 0) (szk k).toNat := by
 unfold numsB
 rw [List.take_succ_eq_append_getElem h, List.flatMap_append]
 simp [h]
theorem numsB_len (k : Int) (ns : List Int) : ((numsB k ns).length : Int) = (ns.length : Int) * szk k := by
 induction ns with
 | nil => simp [numsB]
 | cons n l ih =>
  have e : (numsB k (n :: l)).length = (szk k).toNat + (numsB k l).length := by simp [numsB, be_len]
  have := (szk_nn k).1
  rw [e, List.length_cons]
  push_cast
  rw [Int.add_mul]
  omega
theorem numsB_range (k : Int) (ns : List Int) : ∀ x ∈ numsB k ns, 0 ≤ x ∧ x ≤ 255 := by
 intro x hx
 obtain ⟨n, _, h⟩ := List.mem_flatMap.mp hx
 exact be_range _ _ x h
def putB (o : Opt) : List Int := o.1 % 256 :: optLen o % 256 :: (numsB o.1 o.2.1 ++ bytesL o.2.2)
theorem putB_len (o : Opt) : ((putB o).length : Int) = optLen o := by
 have := numsB_len o.1 o.2.1
 simp only [putB, List.length_cons, List.length_append, bytesL_length, optLen]
 push_cast
 omega
theorem putB_range (o : Opt) : ∀ x ∈ putB o, 0 ≤ x ∧ x ≤ 255 := by
 intro x hx
 simp only [putB, List.mem_cons, List.mem_append] at hx
 rcases hx with rfl | rfl | h | h
 · omega
 · omega
 · exact numsB_range _ _ x h
 · exact bytesL_range _ x h
def bodyO (xs : List Opt) : List Int := xs.flatMap putB
theorem bodyO_step {xs : List Opt} {i : Nat} (h : i < xs.length) : bodyO (xs.take (i + 1)) = bodyO (xs.take i) ++ putB (xs.getD i opt0) := by
 unfold bodyO
 rw [take_step h, List.flatMap_append]
 simp
theorem bodyO_len (xs : List Opt) : ((bodyO xs).length : Int) = sumO xs := by
 induction xs with
 | nil => rfl
 | cons o l ih =>
  have e : (bodyO (o :: l)).length = (putB o).length + (bodyO l).length := by simp [bodyO]
  have := putB_len o
  rw [e, sumO]
  omega
theorem bodyO_range (xs : List Opt) : ∀ x ∈ bodyO xs, 0 ≤ x ∧ x ≤ 255 := by
 intro x hx
 obtain ⟨o, _, h⟩ := List.mem_flatMap.mp hx
 exact putB_range o x h
def padZ (l : List Int) : List Int := l ++ List.replicate ((4 - l.length % 4) % 4) 0
theorem padZ_step {l : List Int} (h : l.length % 4 ≠ 0) : padZ (l ++ [0]) = padZ l := by
 unfold padZ
 have e : (4 - l.length % 4) % 4 = (4 - (l ++ [0]).length % 4) % 4 + 1 := by
  rw [List.length_append, List.length_singleton]
  omega
 rw [e, List.replicate_succ, List.append_assoc]
 rfl
theorem padZ_end {l : List Int} (h : l.length % 4 = 0) : padZ l = l := by
 unfold padZ
 rw [h]
 simp
theorem padZ_range {l : List Int} (h : ∀ x ∈ l, 0 ≤ x ∧ x ≤ 255) : ∀ x ∈ padZ l, 0 ≤ x ∧ x ≤ 255 := by
 intro x hx
 unfold padZ at hx
 rcases List.mem_append.mp hx with hx | hx
 · exact h x hx
 ·
  have := List.eq_of_mem_replicate hx
  omega
def printO (xs : List Opt) : List Int := if errO xs = 0 then padZ (bodyO xs) else []
theorem printO_range (xs : List Opt) : ∀ x ∈ printO xs, 0 ≤ x ∧ x ≤ 255 := by
 intro x hx
 unfold printO at hx
 split at hx
 · exact padZ_range (bodyO_range xs) x hx
 · cases hx
theorem printO_no {xs : List Opt} (h : errO xs ≠ 0) : printO xs = [] := by
 unfold printO
 rw [if_neg h]
theorem printO_yes {xs l : List Opt} {b : List Int} (h : errO xs = 0) (hb : padZ b = padZ (bodyO xs)) (hl : b.length % 4 = 0) : printO xs = b := by
 unfold printO
 rw [if_pos h, ← hb, padZ_end hl]
set_option maxHeartbeats 1000000 in
theorem shape_ok (k : Int) (G : Mem) : CallsG Try.prog 108 [.int .i64 k] G (fun _ v rows => v = .tuple #[.int .i64 (szk k), .int .i64 (lk2 k), .int .i64 (mk2 k)] ∧ rows = []) := by
 refine CallsG.enter Try.func108 rfl rfl ?_
 intro w
 refine Rn 20 (Qc B108 53) [.blk 0, Qs B108 7] ⟨13, [(2, I6 0), (3, I6 0), (4, I6 0), (5, I6 k), (6, VB (k == 2))], []⟩ ?_
 refine Se 6 rfl ?_ ?_ <;> intro h1
 ·
  refine Rn 11 (.ex .ret) [] ⟨13, [(2, I6 2), (3, I6 1), (4, I6 1)], []⟩ ?_
  refine Dg (.inl rfl) [N6 2, N6 1, N6 1] [] rfl (Ge.refl _ _) ?_
  refine ⟨?_, rfl⟩
  unfold szk lk2 mk2
  (repeat' split) <;> first | rfl | omega
 ·
  refine Rc 7 (Qc B108 215) 0 [] [(8, VB (k == 8))] [6] ?_
  refine Se 8 rfl ?_ ?_ <;> intro h2
  ·
   refine Rn 11 (.ex .ret) [] ⟨13, [(2, I6 4), (3, I6 2), (4, I6 2)], []⟩ ?_
   refine Dg (.inl rfl) [N6 4, N6 2, N6 2] [] rfl (Ge.refl _ _) ?_
   refine ⟨?_, rfl⟩
   unfold szk lk2 mk2
   (repeat' split) <;> first | rfl | omega
  ·
   refine Rc 8 (Qc B108 1725) 0 [Qs B108 863] [(10, VB (k == 172))] [8] ?_
   refine Se 10 rfl ?_ ?_ <;> intro h3
   ·
    refine Rn 14 (.ex .ret) [] ⟨13, [(2, I6 3), (3, I6 0), (4, I6 3)], []⟩ ?_
    refine Dg (.inl rfl) [N6 3, N6 0, N6 3] [] rfl (Ge.refl _ _) ?_
    refine ⟨?_, rfl⟩
    unfold szk lk2 mk2
    (repeat' split) <;> first | rfl | omega
   ·
    refine Ra 6 (Qc B108 863) 1 [] [(10, VB (k == 174))] ?_
    refine Se 10 rfl ?_ ?_ <;> intro h4
    ·
     refine Rn 11 (.ex .ret) [] ⟨13, [(2, I6 3), (3, I6 0), (4, I6 3)], []⟩ ?_
     refine Dg (.inl rfl) [N6 3, N6 0, N6 3] [] rfl (Ge.refl _ _) ?_
     refine ⟨?_, rfl⟩
     unfold szk lk2 mk2
     (repeat' split) <;> first | rfl | omega
    ·
     refine Rn 12 (.ex .ret) [] ⟨13, [(2, I6 0), (3, I6 0), (4, I6 0)], []⟩ ?_
     refine Dg (.inl rfl) [N6 0, N6 0, N6 0] [] rfl (Ge.refl _ _) ?_
     refine ⟨?_, rfl⟩
     unfold szk lk2 mk2
     (repeat' split) <;> first | rfl | omega
def putH (o : Opt) : List Int := [o.1 % 256, optLen o % 256]
theorem put_head {o : Opt} {a b : Int} (l : List Int) (ha : a = o.1) (hb : b = optLen o) : l ++ [IntKind.u8.wrap a, IntKind.u8.wrap b] = l ++ putH o ++ numsB o.1 (o.2.1.take 0) := by
 subst ha hb
 simp only [numsB, List.take_zero, List.flatMap_nil, List.append_nil]
 rfl
theorem put_done {o : Opt} {l p : List Int} {q : Nat} (hp : p = l ++ putH o ++ numsB o.1 (o.2.1.take q)) (hq : o.2.1.length ≤ q) : p ++ bytesL o.2.2 = l ++ putB o := by
 rw [hp, List.take_of_length_le hq]
 simp [putH, putB]
theorem put_none {o : Opt} {a b : Int} {l : List Int} (h0 : o.2.1.length = 0) (ha : a = o.1) (hb : b = optLen o) : l ++ [IntKind.u8.wrap a, IntKind.u8.wrap b] ++ bytesL o.2.2 = l ++ putB o := by
 rw [put_head l ha hb]
 exact put_done rfl (by omega)
theorem put_num {o : Opt} {l p b : List Int} {q z : Nat} (hp : p = l ++ putH o ++ numsB o.1 (o.2.1.take q)) (hq : q < o.2.1.length) (hz : (szk o.1).toNat = z) (hb : b = be (o.2.1.getD q 0) z) : p ++ b = l ++ putH o ++ numsB o.1 (o.2.1.take (q + 1)) := by
 rw [hp, numsB_step hq, hz, hb]
 simp only [List.append_assoc]
set_option maxHeartbeats 4000000 in
theorem Print_ok (A : Option Addr) (c : Nat) (xs : List Opt) (G : Mem) (hr : rowAt optD G A xs) (hle : xs.length ≤ c) (hmx : c ≤ maxLen) : CallsG Try.prog 49 [.slice A xs.length c] G (fun _ v rows => ∃ A' c', v = .tuple #[.slice A' (printO xs).length c', .int .i64 (errO xs)] ∧ rows = [⟨5, 1, .slice A' (printO xs).length c', (printO xs).length, (printO xs).map (Value.int .u8)⟩]) := by
 simp only [maxLen] at hmx
 refine CallsG.enter Try.func49 rfl rfl ?_
 intro w
 refine Rn 20 (Qc B49 58) [.blk 0, Qs B49 15] ⟨73, [(0, VL A xs.length c), (2, VL none 0 0), (3, I6 0), (4, I6 0), (13, VL A xs.length c), (14, I6 (xs.length : Int)), (15, I6 0)], []⟩ ?_
 refine Rn 0 (Qc B49 58) [.blk 0, Qs B49 15] _ (X.loopJ (fun m s R' G' => ∃ (mm i : Int), s = ⟨73, [(0, VL A xs.length c), (4, I6 mm), (13, VL A xs.length c), (14, I6 (xs.length : Int)), (15, I6 i)], []⟩ ∧ R' = [] ∧ Ge G w.heap.size G' ∧ (0 ≤ i ∧ i ≤ (xs.length : Int) ∧ chk (xs.take i.toNat) (xs.drop i.toNat) = chk [] xs ∧ mm = min (sumO (xs.take i.toNat)) 80) ∧ m = ((xs.length : Int) - i).toNat) _ ⟨0, 0, rfl, rfl, Ge.refl _ _, ⟨by omega, by omega, by simp, by simp [sumO]; decide⟩, rfl⟩ ?_)
 rintro m1 s1 R1 G1 ⟨mm, i, rfl, rfl, hG1, hF1, rfl⟩ J1 hJ1
 replace hr := hr.mono hG1.le
 obtain ⟨hi0, hi1, hck, hm⟩ := hF1
 have hsn_ := sumO_nn (xs.take i.toNat)
 refine Ra 6 (Qc B49 466) 0 [Qs B49 467] [(16, VB (decide (i < (xs.length : Int))))] ?_
 refine Sd 16 rfl ?_ ?_ <;> intro h2
 ·
  refine Ra 8 (Qo B49 3736 1) 1 [Qs B49 3737, .blk 1, Qs B49 935] [(17, I6 i)] ?_
  refine Ix 59 65 3 A xs.length c .i64 i (.tmp 13) (.tmp 15) (by omega) (by omega) (fun _ _ => rowAt.so hr (by omega)) ?_
  obtain ⟨A5, c5, at5, kr5, le5, mx5, hr5⟩ := At.opt [] hr ((i).toNat) (by omega)
  simp only [IntKind.lo, IntKind.hi, maxLen] at kr5 mx5
  refine Ld 65 A ((i).toNat * 3) (.tmp 18) (.agg #[N6 ((xs.getD i.toNat opt0).1), .slice A5 ((xs.getD i.toNat opt0).2.1.length) c5, .string ((xs.getD i.toNat opt0).2.2)]) [N6 ((xs.getD i.toNat opt0).1), .slice A5 ((xs.getD i.toNat opt0).2.1.length) c5, .string ((xs.getD i.toNat opt0).2.2)] at5 ?_
  refine Rb 10 (Qo B49 29896 1) 1 [Qs B49 29897, .blk 2, Qs B49 7475] [(5, I6 i), (6, .own 6 0), (21, .v (.agg #[N6 ((xs.getD i.toNat opt0).1), .slice A5 ((xs.getD i.toNat opt0).2.1.length) c5, .string ((xs.getD i.toNat opt0).2.2)]))] [] [(6, ⟨65, [I6 ((xs.getD i.toNat opt0).1), VL A5 ((xs.getD i.toNat opt0).2.1.length) c5, VT ((xs.getD i.toNat opt0).2.2)]⟩)] [] ?_
  refine Cg 106 [.agg #[N6 ((xs.getD i.toNat opt0).1), .slice A5 ((xs.getD i.toNat opt0).2.1.length) c5, .string ((xs.getD i.toNat opt0).2.2)]] 0 (fine_ok ((xs.getD i.toNat opt0).1) A5 c5 ((xs.getD i.toNat opt0).2.1) ((xs.getD i.toNat opt0).2.2) _ hr5 le5 mx5) ?_
  rintro v6 G6 rows6 hG6 ⟨rfl, rfl⟩
  replace hr := hr.mono hG6.le
  replace hr5 := hr5.mono hG6.le
  refine Ra 4 (Qc B49 29897) 1 [] [(20, VB (!(fineB ((xs.getD i.toNat opt0).1, (xs.getD i.toNat opt0).2.1, (xs.getD i.toNat opt0).2.2))))] ?_
  refine X.split 20 rfl (fun h7 => ?_) (fun h7 => ?_)
  ·
   replace h7 : (fineB ((xs.getD ((i).toNat) opt0).1, (xs.getD ((i).toNat) opt0).2.1, (xs.getD ((i).toNat) opt0).2.2)) = false := by simpa using h7
   refine Rn 15 (.ex .ret) [] ⟨73, [(2, VL none 0 0), (3, I6 2)], []⟩ ?_
   refine X.nilRow 900 5 1 rfl ?_
   refine Dg (.inl rfl) [.slice none 0 0, N6 2] [900] rfl ((hG1.trans hG6)) ?_
   have he_ : errO xs = 2 := errO_chk (by rw [← hck]; exact chk_bad (by omega) (by assumption)) (by decide)
   rw [printO_no (by rw [he_]; decide), he_]
   exact ⟨none, 0, rfl, rfl⟩
  ·
   replace h7 : (fineB ((xs.getD ((i).toNat) opt0).1, (xs.getD ((i).toNat) opt0).2.1, (xs.getD ((i).toNat) opt0).2.2)) = true := by simpa using h7
   have hz_ := fine_prod (o := (xs.getD (i).toNat opt0)) (by assumption)
   refine Rc 2 (Qc B49 119590) 0 [Qs B49 119591] [] [20] ?_
   have hr_d8 := hr
   have hr5_d8 := hr5
   refine Oh 7 B49 119590 7 [⟨some 6, 6, 65, [I6 ((xs.getD i.toNat opt0).1), VL A5 ((xs.getD i.toNat opt0).2.1.length) c5, VT ((xs.getD i.toNat opt0).2.2)]⟩] [] [] ⟨P1, trivial⟩ Mt (fun ρ0 => ?_)
   refine Tk 0 7 1 B49 119590 (VL A xs.length c) QOk.ctxG ?_
   refine Tk 1 7 3 B49 119590 (I6 i) QOk.ctxG ?_
   have hlo9 : 0 ≤ (i).toNat := by omega
   have hhi9 : (i).toNat ≤ xs.length := by omega
   refine XD.cut (i := 2) (l' := (lb 7 7)) (o := (oA B49 (pa 119590) 2)) (t := 59) (e := 65) (sz := 3) (n := xs.length) (c := c) (A := A) (x := .tmp 25) (l0 := none) (h := (some (.tmp 26))) (lv := none) (hv := (some (N6 i))) 0 i.toNat QOk.ctxG (by kernel_rfl) (by kernel_rfl) (by kernel_rfl) (by kernel_rfl) (by kernel_rfl) (by kernel_rfl) (by kernel_rfl) (by kernel_rfl) (by kernel_rfl) (rfl) (⟨_, _, rfl, by omega, rfl⟩) hlo9 (Nat.le_trans hhi9 hle) (by kernel_rfl) ?_
   obtain ⟨A9, hA9⟩ : ∃ A_, cutA A c 0 3 = A_ := ⟨_, rfl⟩
   obtain ⟨ys9, hys9⟩ : ∃ l_, (xs.take ((i).toNat)).drop 0 = l_ := ⟨_, rfl⟩
   have hr9 : rowAt optD G6 (cutA A c 0 3) ((xs.take ((i).toNat)).drop 0) := rowAt_cut hr hlo9 hhi9 hle
   have hl9 : ((i).toNat) - 0 = ys9.length := by rw [← hys9, List.length_drop, List.length_take]; omega
   have hc9 : ys9.length ≤ c - 0 := by omega
   have hm9 : c - 0 ≤ maxLen := Nat.le_trans (Nat.sub_le _ _) hmx
   rw [hys9, show cutA A c 0 _ = A9 from hA9] at hr9
   rw [hA9, hl9]
   refine Td [3, 4] 7 31 2 QOk.ctxG [(27, VL A9 ys9.length (c - 0)), (29, I6 ((xs.getD i.toNat opt0).1))] ⟨P1, trivial⟩ ?_
   refine Do 5 7 63 B49 119590 ?_
   refine Cg 107 [.slice A9 ys9.length (c - 0), N6 ((xs.getD i.toNat opt0).1)] 0 (had_ok A9 (c - 0) ys9 ((xs.getD i.toNat opt0).1) _ hr9 hc9 hm9) ?_
   rintro v10 G10 rows10 hG10 ⟨rfl, rfl⟩
   replace hr := hr.mono hG10.le
   replace hr5 := hr5.mono hG10.le
   replace hr9 := hr9.mono hG10.le
   refine X.back ⟨⟨P1, trivial⟩, hG10.le, rfl, ?_⟩
   refine Ts [6] 7 127 0 1 QOk.ctxG ?_
   refine XD.done (by kernel_rfl) ?_
   refine Rn 1 (Qc B49 119591) [.blk 2, Qs B49 7475, .blk 1, Qs B49 935, .loop J1, .blk 0, Qs B49 15] ⟨73, [(0, VL A xs.length c), (4, I6 mm), (6, .own 6 0), (13, VL A xs.length c), (14, I6 (xs.length : Int)), (15, I6 i), (24, VB (hadB ys9 ((xs.getD i.toNat opt0).1)))], [(6, ⟨65, [I6 ((xs.getD i.toNat opt0).1), VL A5 ((xs.getD i.toNat opt0).2.1.length) c5, VT ((xs.getD i.toNat opt0).2.2)]⟩)]⟩ ?_
   refine X.split 24 rfl (fun h11 => ?_) (fun h11 => ?_)
   ·
    refine Rn 15 (.ex .ret) [] ⟨73, [(2, VL none 0 0), (3, I6 5)], []⟩ ?_
    refine X.nilRow 900 5 1 rfl ?_
    have hh_ : hadB ys9 (xs.getD (i).toNat opt0).1 = true := by assumption
    rw [← hys9] at hh_
    refine Dg (.inl rfl) [.slice none 0 0, N6 5] [900] rfl (((hG1.trans hG6).trans hG10)) ?_
    have he_ : errO xs = 5 := errO_chk (by rw [← hck]; exact chk_had (by omega) (by assumption) hh_) (by decide)
    rw [printO_no (by rw [he_]; decide), he_]
    exact ⟨none, 0, rfl, rfl⟩
   ·
    refine Rc 8 (Qo B49 14950 2) 2 [Qs B49 14951] [(33, I6 ((xs.getD i.toNat opt0).1))] [24] ?_
    refine Cg 108 [N6 ((xs.getD i.toNat opt0).1)] 0 (shape_ok ((xs.getD i.toNat opt0).1) _) ?_
    rintro v12 G12 rows12 hG12 ⟨rfl, rfl⟩
    replace hr := hr.mono hG12.le
    replace hr5 := hr5.mono hG12.le
    replace hr9 := hr9.mono hG12.le
    refine Ra 12 (Qo B49 14951 2) 1 [] [(7, I6 (szk ((xs.getD i.toNat opt0).1))), (39, I6 (IntKind.i64.wrap (mm + 2)))] ?_
    refine Kn 39 .i64 (mm + 2) rfl (wi64 (by omega) (by omega)) ?_
    refine Rc 5 (Qo B49 14951 7) 0 [] [(39, I6 (mm + 2)), (44, I6 (IntKind.i64.wrap ((((xs.getD i.toNat opt0).2.1.length : Nat) : Int) * (szk ((xs.getD i.toNat opt0).1)))))] [7] ?_
    refine Kn 44 .i64 ((((xs.getD i.toNat opt0).2.1.length : Nat) : Int) * (szk ((xs.getD i.toNat opt0).1))) rfl (wi64 (by omega) (by omega)) ?_
    refine Ra 1 (Qo B49 14951 8) 0 [] [(45, I6 (IntKind.i64.wrap ((mm + 2) + ((((xs.getD i.toNat opt0).2.1.length : Nat) : Int) * (szk ((xs.getD i.toNat opt0).1))))))] ?_
    refine Kn 45 .i64 ((mm + 2) + ((((xs.getD i.toNat opt0).2.1.length : Nat) : Int) * (szk ((xs.getD i.toNat opt0).1)))) rfl (wi64 (by omega) (by omega)) ?_
    refine Rb 4 (Qo B49 14951 12) 0 [] [(45, I6 ((mm + 2) + ((((xs.getD i.toNat opt0).2.1.length : Nat) : Int) * (szk ((xs.getD i.toNat opt0).1))))), (49, I6 (imin (((xs.getD i.toNat opt0).2.2).size : Int) 80))] [] [] [6] ?_
    refine Kn 49 .i64 (min (((xs.getD i.toNat opt0).2.2).size : Int) 80) rfl (by simp only [imin_eq, imax_eq]) ?_
    refine Ra 1 (Qo B49 14951 13) 0 [] [(50, I6 (IntKind.i64.wrap (((mm + 2) + ((((xs.getD i.toNat opt0).2.1.length : Nat) : Int) * (szk ((xs.getD i.toNat opt0).1)))) + (min (((xs.getD i.toNat opt0).2.2).size : Int) 80))))] ?_
    refine Kn 50 .i64 (((mm + 2) + ((((xs.getD i.toNat opt0).2.1.length : Nat) : Int) * (szk ((xs.getD i.toNat opt0).1)))) + (min (((xs.getD i.toNat opt0).2.2).size : Int) 80)) rfl (wi64 (by omega) (by omega)) ?_
    refine Ra 1 (Qo B49 14951 14) 0 [] [(51, I6 (imin (((mm + 2) + ((((xs.getD i.toNat opt0).2.1.length : Nat) : Int) * (szk ((xs.getD i.toNat opt0).1)))) + (min (((xs.getD i.toNat opt0).2.2).size : Int) 80)) 80))] ?_
    refine Kn 51 .i64 (min (((mm + 2) + ((((xs.getD i.toNat opt0).2.1.length : Nat) : Int) * (szk ((xs.getD i.toNat opt0).1)))) + (min (((xs.getD i.toNat opt0).2.2).size : Int) 80)) 80) rfl (by simp only [imin_eq, imax_eq]) ?_
    have e1 : IntKind.i64.wrap (i + 1) = i + 1 := wi64 (by omega) (by omega)
    have e0 : (i + 1).toNat = i.toNat + 1 := by omega
    have hh_ : hadB ys9 (xs.getD (i).toNat opt0).1 = false := by assumption
    rw [← hys9] at hh_
    exact Rn 8 (.ex .normal) [.loop J1, .blk 0, Qs B49 15] _ (X.again (hJ1 _ _ _ _ ⟨min (((mm + 2) + ((((xs.getD i.toNat opt0).2.1.length : Nat) : Int) * (szk ((xs.getD i.toNat opt0).1)))) + (min (((xs.getD i.toNat opt0).2.2).size : Int) 80)) 80, IntKind.i64.wrap (i + 1), rfl, rfl, (((hG1.trans hG6).trans hG10).trans hG12), ⟨by omega, by omega, by rw [e1, e0, chk_step (by omega) (by assumption) hh_]; exact hck, by rw [e1, e0, sumO_step (by omega), optLen]; omega⟩, rfl⟩ (by rw [e1]; omega)))
 ·
  refine Rc 13 (Qc B49 61) 4 [Qs B49 31] [(54, VB (decide (mm > 40)))] [4, 15] ?_
  refine Sd 54 rfl ?_ ?_ <;> intro h13
  ·
   have hc_ : chk [] xs = 0 := by rw [← hck]; exact chk_nil (by omega)
   rw [List.take_of_length_le (show xs.length ≤ i.toNat by omega)] at hm
   refine Rn 9 (.ex .ret) [] ⟨73, [(2, VL none 0 0), (3, I6 4)], []⟩ ?_
   refine X.nilRow 900 5 1 rfl ?_
   refine Dg (.inl rfl) [.slice none 0 0, N6 4] [900] rfl (hG1) ?_
   have he_ : errO xs = 4 := errO_long hc_ (by omega)
   rw [printO_no (by rw [he_]; decide), he_]
   exact ⟨none, 0, rfl, rfl⟩
  ·
   have hc_ : chk [] xs = 0 := by rw [← hck]; exact chk_nil (by omega)
   rw [List.take_of_length_le (show xs.length ≤ i.toNat by omega)] at hm
   have hsum_ : sumO xs ≤ 40 := by omega
   have hfin_ := chk_all hc_
   refine Rn 17 (Qc B49 506) [.blk 3, Qs B49 127] ⟨73, [(10, VL none 0 0), (55, VL A xs.length c), (56, I6 (xs.length : Int)), (57, I6 0)], []⟩ ?_
   refine X.nilRow 20 5 1 rfl ?_
   refine X.loopJ (fun m s R' G' => ∃ (B_ : Option Addr) (c_ n_ : Nat) (l_ : List Int) (j : Int), s = ⟨73, [(10, VL B_ n_ c_), (55, VL A xs.length c), (56, I6 (xs.length : Int)), (57, I6 j)], []⟩ ∧ R' = [(20, RR 5 1 B_ n_ c_ ((l_).map (Value.int .u8)))] ∧ G1 = G' ∧ (0 ≤ j ∧ j ≤ (xs.length : Int) ∧ l_ = bodyO (xs.take j.toNat) ∧ (n_ : Int) = sumO (xs.take j.toNat)) ∧ m = ((xs.length : Int) - j).toNat) _ ⟨none, 0, 0, [], 0, rfl, rfl, rfl, ⟨by omega, by omega, by simp [bodyO], by simp [sumO]⟩, rfl⟩ ?_
   rintro m14 s14 R14 G14 ⟨B_, c_, n_, l_, j, rfl, rfl, rfl, hF14, rfl⟩ J14 hJ14
   obtain ⟨hj0, hj1, hl, hn⟩ := hF14
   refine Ra 6 (Qc B49 4050) 0 [Qs B49 4051] [(58, VB (decide (j < (xs.length : Int))))] ?_
   refine Sd 58 rfl ?_ ?_ <;> intro h15
   ·
    refine Ra 7 (Qo B49 32408 0) 1 [Qs B49 32409, .blk 4, Qs B49 8103] [] ?_
    refine Ix 59 65 3 A xs.length c .i64 j (.tmp 55) (.tmp 57) (by omega) (by omega) (fun _ _ => rowAt.so hr (by omega)) ?_
    obtain ⟨A18, c18, at18, kr18, le18, mx18, hr18⟩ := At.opt [(20, ⟨5, 1, .slice B_ n_ c_, n_, (l_).map (Value.int .u8)⟩)] hr ((j).toNat) (by omega)
    simp only [IntKind.lo, IntKind.hi, maxLen] at kr18 mx18
    refine Ld 65 A ((j).toNat * 3) (.tmp 59) (.agg #[N6 ((xs.getD j.toNat opt0).1), .slice A18 ((xs.getD j.toNat opt0).2.1.length) c18, .string ((xs.getD j.toNat opt0).2.2)]) [N6 ((xs.getD j.toNat opt0).1), .slice A18 ((xs.getD j.toNat opt0).2.1.length) c18, .string ((xs.getD j.toNat opt0).2.2)] at18 ?_
    refine Ra 7 (Qo B49 32409 2) 1 [] [(61, VL B_ n_ c_), (62, .v (.agg #[N6 ((xs.getD j.toNat opt0).1), .slice A18 ((xs.getD j.toNat opt0).2.1.length) c18, .string ((xs.getD j.toNat opt0).2.2)]))] ?_
    have hz_ := fine_prod (hfin_ (xs.getD (j).toNat opt0) (getD_mem (by omega)))
    have hsl_ : sumO (xs.take j.toNat) + optLen (xs.getD (j).toNat opt0) ≤ 40 := by rw [← sumO_step (by omega)]; exact Int.le_trans (sumO_le xs _) hsum_
    refine X.inline (f := 109) (l := [VL B_ n_ c_, .v (.agg #[N6 ((xs.getD j.toNat opt0).1), .slice A18 ((xs.getD j.toNat opt0).2.1.length) c18, .string ((xs.getD j.toNat opt0).2.2)])]) (fn := Try.f109) (c := B109) (by kernel_rfl) (by kernel_rfl) Try.func109 (by kernel_rfl) ?_
    intro Q19 M19 hM19 hQ19 fin19
    refine Rb 10 (Qo B109 6 2) 0 [Qs B109 7] [(3, .own 3 0), (4, VL none 0 0), (13, I6 ((xs.getD j.toNat opt0).1))] [] [(3, ⟨65, [I6 ((xs.getD j.toNat opt0).1), VL A18 ((xs.getD j.toNat opt0).2.1.length) c18, VT ((xs.getD j.toNat opt0).2.2)]⟩)] [] ?_
    refine X.inline (f := 108) (l := [I6 ((xs.getD j.toNat opt0).1)]) (fn := Try.f108) (c := B108) (by kernel_rfl) (by kernel_rfl) Try.func108 (by kernel_rfl) ?_
    intro Q20 M20 hM20 hQ20 fin20
    refine Ra 20 (Qc B108 53) 0 [.blk 0, Qs B108 7] [(2, I6 0), (3, I6 0), (4, I6 0), (5, I6 ((xs.getD j.toNat opt0).1)), (6, VB (((xs.getD j.toNat opt0).1) == 2))] ?_
    refine Se 6 rfl ?_ ?_ <;> intro h21
    ·
     refine Rc 11 (.ex .ret) 2 [] [(2, I6 2), (3, I6 1), (4, I6 1)] [5, 6] ?_
     refine fin20 _ _ _ _ [N6 2, N6 1, N6 1] [(3, ⟨65, [I6 ((xs.getD j.toNat opt0).1), VL A18 ((xs.getD j.toNat opt0).2.1.length) c18, VT ((xs.getD j.toNat opt0).2.2)]⟩)] (.inl rfl) (by kernel_rfl) (by kernel_rfl) ?_
     have hsz_ : szk (xs.getD (j).toNat opt0).1 = 2 := by rw [show (xs.getD (j).toNat opt0).1 = 2 by assumption]; rfl
     have hol_ : optLen (xs.getD (j).toNat opt0) = 2 + ((xs.getD (j).toNat opt0).2.1.length : Int) * 2 + ((xs.getD (j).toNat opt0).2.2.size : Int) := by unfold optLen; rw [hsz_]
     refine Ra 20 (Qo B109 14 9) 1 [Qs B109 15] [(5, I6 2), (18, VL B_ n_ c_), (21, I8 (IntKind.u8.wrap ((xs.getD j.toNat opt0).1))), (26, I6 (IntKind.i64.wrap ((((xs.getD j.toNat opt0).2.1.length : Nat) : Int) * 2)))] ?_
     refine Kn 26 .i64 (((xs.getD (j).toNat opt0).2.1.length : Int) * 2) rfl (wi64 (by omega) (by omega)) ?_
     refine Ra 1 (Qo B109 14 10) 0 [] [(27, I6 (IntKind.i64.wrap (2 + (((xs.getD (j).toNat opt0).2.1.length : Int) * 2))))] ?_
     refine Kn 27 .i64 (2 + (((xs.getD (j).toNat opt0).2.1.length : Int) * 2)) rfl (wi64 (by omega) (by omega)) ?_
     refine Ra 4 (Qo B109 14 14) 0 [] [(31, I6 (IntKind.i64.wrap ((2 + (((xs.getD (j).toNat opt0).2.1.length : Int) * 2)) + (((xs.getD j.toNat opt0).2.2).size : Int))))] ?_
     refine Kn 31 .i64 ((2 + (((xs.getD (j).toNat opt0).2.1.length : Int) * 2)) + (((xs.getD j.toNat opt0).2.2).size : Int)) rfl (wi64 (by omega) (by omega)) ?_
     refine Ra 1 (Qo B109 14 15) 0 [] [(32, I8 (IntKind.u8.wrap ((2 + (((xs.getD (j).toNat opt0).2.1.length : Int) * 2)) + (((xs.getD j.toNat opt0).2.2).size : Int))))] ?_
     refine Lt 33 5 1 2 [N8 (IntKind.u8.wrap ((xs.getD j.toNat opt0).1)), N8 (IntKind.u8.wrap ((2 + (((xs.getD (j).toNat opt0).2.1.length : Int) * 2)) + (((xs.getD j.toNat opt0).2.2).size : Int)))] ?_
     intro A22
     refine Ra 0 (Qo B109 14 16) 0 [] [(33, VL A22 2 2)] ?_
     refine Ap 20 _ 22 1 (N8 0) (.tmp 18) (.tmp 33) n_ c_ 2 2 B_ A22 [N8 (IntKind.u8.wrap ((xs.getD j.toNat opt0).1)), N8 (IntKind.u8.wrap ((2 + (((xs.getD (j).toNat opt0).2.1.length : Int) * 2)) + (((xs.getD j.toNat opt0).2.2).size : Int)))] (.inl rfl) (by kernel_rfl) (Ar 33 rfl) (Br 33 rfl) (ones (by kernel_rfl)) (by omega) ?_
     intro A23 c23 hc23
     refine Tc [33] (cs' := (l_ ++ [IntKind.u8.wrap ((xs.getD j.toNat opt0).1), IntKind.u8.wrap ((2 + (((xs.getD (j).toNat opt0).2.1.length : Int) * 2)) + (((xs.getD j.toNat opt0).2.2).size : Int))]).map (Value.int .u8)) (by simp) ?_
     refine Tr [20] ?_
     refine Rn 13 (Qc B109 122) [.blk 0, Qs B109 31] _ (X.loopJ (fun m s R' G' => ∃ (D_ : Option Addr) (d_ m_ : Nat) (p_ : List Int) (q : Int), s = ⟨61, [(0, VL D_ m_ d_), (3, .own 3 0), (4, VL none 0 0), (5, I6 2), (36, VL A18 ((xs.getD j.toNat opt0).2.1.length) c18), (37, I6 (((xs.getD j.toNat opt0).2.1.length : Nat) : Int)), (38, I6 q)], [(3, ⟨65, [I6 ((xs.getD j.toNat opt0).1), VL A18 ((xs.getD j.toNat opt0).2.1.length) c18, VT ((xs.getD j.toNat opt0).2.2)]⟩)]⟩ ∧ R' = [(20, RR 5 1 D_ m_ d_ ((p_).map (Value.int .u8)))] ∧ G1 = G' ∧ (0 ≤ q ∧ q ≤ ((xs.getD (j).toNat opt0).2.1.length : Int) ∧ p_ = l_ ++ putH (xs.getD (j).toNat opt0) ++ numsB (xs.getD (j).toNat opt0).1 ((xs.getD (j).toNat opt0).2.1.take q.toNat) ∧ (m_ : Int) = n_ + 2 + q * 2) ∧ m = (((xs.getD (j).toNat opt0).2.1.length : Int) - q).toNat) _ ⟨A23, c23, n_ + 2, l_ ++ [IntKind.u8.wrap ((xs.getD j.toNat opt0).1), IntKind.u8.wrap ((2 + (((xs.getD (j).toNat opt0).2.1.length : Int) * 2)) + (((xs.getD j.toNat opt0).2.2).size : Int))], 0, rfl, rfl, rfl, ⟨by omega, by omega, put_head (o := (xs.getD (j).toNat opt0)) l_ rfl (by rw [hol_]), by omega⟩, rfl⟩ ?_)
     rintro m24 s24 R24 G24 ⟨D_, d_, m_, p_, q, rfl, rfl, rfl, hF24, rfl⟩ J24 hJ24
     obtain ⟨hq0, hq1, hp, hm_⟩ := hF24
     refine Ra 6 (Qc B109 978) 0 [Qs B109 979] [(39, VB (decide (q < (((xs.getD j.toNat opt0).2.1.length : Nat) : Int))))] ?_
     refine Sd 39 rfl ?_ ?_ <;> intro h25
     ·
      refine Ra 7 (Qo B109 7832 0) 1 [Qs B109 7833, .blk 1, Qs B109 1959] [] ?_
      refine Ix 63 29 1 A18 ((xs.getD j.toNat opt0).2.1.length) c18 .i64 q (.tmp 36) (.tmp 38) (by omega) (by omega) (fun _ _ => rowAt.so hr18 (by omega)) ?_
      obtain ⟨at28, lo28, hi28⟩ := At.int [(20, ⟨5, 1, .slice D_ m_ d_, m_, (p_).map (Value.int .u8)⟩)] hr18 ((q).toNat) (by omega)
      simp only [IntKind.lo, IntKind.hi] at lo28 hi28
      refine Ld 29 A18 ((q).toNat * 1) (.tmp 40) (N3 (((xs.getD j.toNat opt0).2.1).getD q.toNat 0)) [N3 (((xs.getD j.toNat opt0).2.1).getD q.toNat 0)] at28 ?_
      refine Ra 11 (Qc B109 31334) 1 [.blk 2] [(9, I3 (((xs.getD j.toNat opt0).2.1).getD q.toNat 0)), (10, I6 1)] ?_
      refine X.rounds 6 ?_
      refine RX.succ fun J29 hJ29 => ?_
      refine Rn 19 (Qo B109 501348 6) [.blk 3, Qs B109 250675, .loop J29, .blk 2, .blk 1, Qs B109 1959, .loop J24, .blk 0, Qs B109 31] ⟨61, [(0, VL D_ m_ d_), (3, .own 3 0), (4, VL none 0 0), (5, I6 2), (9, I3 (((xs.getD j.toNat opt0).2.1).getD q.toNat 0)), (10, I6 1), (36, VL A18 ((xs.getD j.toNat opt0).2.1.length) c18), (37, I6 (((xs.getD j.toNat opt0).2.1.length : Nat) : Int)), (38, I6 q), (44, I6 1), (45, VB true), (48, VL D_ m_ d_), (49, I3 (((xs.getD j.toNat opt0).2.1).getD q.toNat 0)), (50, I6 1), (51, I6 8), (52, I3 (bshr .u32 (((xs.getD j.toNat opt0).2.1).getD q.toNat 0) 8)), (53, I8 (IntKind.u8.wrap (bshr .u32 (((xs.getD j.toNat opt0).2.1).getD q.toNat 0) 8)))], [(3, ⟨65, [I6 ((xs.getD j.toNat opt0).1), VL A18 ((xs.getD j.toNat opt0).2.1.length) c18, VT ((xs.getD j.toNat opt0).2.2)]⟩)]⟩ ?_
      refine Lt 54 5 1 1 [N8 (IntKind.u8.wrap (bshr .u32 (((xs.getD j.toNat opt0).2.1).getD q.toNat 0) 8))] ?_
      intro A30
      refine Ap 20 _ 22 1 (N8 0) (.tmp 48) (.tmp 54) m_ d_ 1 1 D_ A30 [N8 (IntKind.u8.wrap (bshr .u32 (((xs.getD j.toNat opt0).2.1).getD q.toNat 0) 8))] (.inl rfl) (by kernel_rfl) (Ar 54 rfl) (Br 54 rfl) (ones (by kernel_rfl)) (by omega) ?_
      intro A31 c31 hc31
      refine Tc [54] (cs' := (p_ ++ [IntKind.u8.wrap (bshr .u32 (((xs.getD j.toNat opt0).2.1).getD q.toNat 0) 8)]).map (Value.int .u8)) (by simp) ?_
      refine Rn 9 (.ex .normal) [.loop J29, .blk 2, .blk 1, Qs B109 1959, .loop J24, .blk 0, Qs B109 31] ⟨61, [(0, VL A31 (m_ + 1) c31), (3, .own 3 0), (4, VL none 0 0), (5, I6 2), (9, I3 (((xs.getD j.toNat opt0).2.1).getD q.toNat 0)), (10, I6 0), (36, VL A18 ((xs.getD j.toNat opt0).2.1.length) c18), (37, I6 (((xs.getD j.toNat opt0).2.1.length : Nat) : Int)), (38, I6 q), (44, I6 1), (45, VB true), (46, I6 1), (47, I6 0), (48, VL D_ m_ d_), (49, I3 (((xs.getD j.toNat opt0).2.1).getD q.toNat 0)), (50, I6 1), (51, I6 8), (52, I3 (bshr .u32 (((xs.getD j.toNat opt0).2.1).getD q.toNat 0) 8)), (53, I8 (IntKind.u8.wrap (bshr .u32 (((xs.getD j.toNat opt0).2.1).getD q.toNat 0) 8))), (54, VL A30 1 1), (55, VL A31 (m_ + 1) c31)], [(3, ⟨65, [I6 ((xs.getD j.toNat opt0).1), VL A18 ((xs.getD j.toNat opt0).2.1.length) c18, VT ((xs.getD j.toNat opt0).2.2)]⟩)]⟩ ?_
      refine X.again (hJ29 _ _ _ ?_)
      refine RX.succ fun J32 hJ32 => ?_
      refine Rn 19 (Qo B109 501348 6) [.blk 3, Qs B109 250675, .loop J32, .blk 2, .blk 1, Qs B109 1959, .loop J24, .blk 0, Qs B109 31] ⟨61, [(0, VL A31 (m_ + 1) c31), (3, .own 3 0), (4, VL none 0 0), (5, I6 2), (9, I3 (((xs.getD j.toNat opt0).2.1).getD q.toNat 0)), (10, I6 0), (36, VL A18 ((xs.getD j.toNat opt0).2.1.length) c18), (37, I6 (((xs.getD j.toNat opt0).2.1.length : Nat) : Int)), (38, I6 q), (44, I6 0), (45, VB true), (46, I6 1), (47, I6 0), (48, VL A31 (m_ + 1) c31), (49, I3 (((xs.getD j.toNat opt0).2.1).getD q.toNat 0)), (50, I6 0), (51, I6 0), (52, I3 (bshr .u32 (((xs.getD j.toNat opt0).2.1).getD q.toNat 0) 0)), (53, I8 (IntKind.u8.wrap (bshr .u32 (((xs.getD j.toNat opt0).2.1).getD q.toNat 0) 0))), (54, VL A30 1 1), (55, VL A31 (m_ + 1) c31)], [(3, ⟨65, [I6 ((xs.getD j.toNat opt0).1), VL A18 ((xs.getD j.toNat opt0).2.1.length) c18, VT ((xs.getD j.toNat opt0).2.2)]⟩)]⟩ ?_
      refine Lt 54 5 1 1 [N8 (IntKind.u8.wrap (bshr .u32 (((xs.getD j.toNat opt0).2.1).getD q.toNat 0) 0))] ?_
      intro A33
      refine Ap 20 _ 22 1 (N8 0) (.tmp 48) (.tmp 54) (m_ + 1) c31 1 1 A31 A33 [N8 (IntKind.u8.wrap (bshr .u32 (((xs.getD j.toNat opt0).2.1).getD q.toNat 0) 0))] (.inl rfl) (by kernel_rfl) (Ar 54 rfl) (Br 54 rfl) (ones (by kernel_rfl)) (by omega) ?_
      intro A34 c34 hc34
      refine Tc [54] (cs' := (p_ ++ [IntKind.u8.wrap (bshr .u32 (((xs.getD j.toNat opt0).2.1).getD q.toNat 0) 8)] ++ [IntKind.u8.wrap (bshr .u32 (((xs.getD j.toNat opt0).2.1).getD q.toNat 0) 0)]).map (Value.int .u8)) (by simp) ?_
      refine Rn 9 (.ex .normal) [.loop J32, .blk 2, .blk 1, Qs B109 1959, .loop J24, .blk 0, Qs B109 31] ⟨61, [(0, VL A34 (m_ + 1 + 1) c34), (3, .own 3 0), (4, VL none 0 0), (5, I6 2), (9, I3 (((xs.getD j.toNat opt0).2.1).getD q.toNat 0)), (10, I6 (-1)), (36, VL A18 ((xs.getD j.toNat opt0).2.1.length) c18), (37, I6 (((xs.getD j.toNat opt0).2.1.length : Nat) : Int)), (38, I6 q), (44, I6 0), (45, VB true), (46, I6 0), (47, I6 (-1)), (48, VL A31 (m_ + 1) c31), (49, I3 (((xs.getD j.toNat opt0).2.1).getD q.toNat 0)), (50, I6 0), (51, I6 0), (52, I3 (bshr .u32 (((xs.getD j.toNat opt0).2.1).getD q.toNat 0) 0)), (53, I8 (IntKind.u8.wrap (bshr .u32 (((xs.getD j.toNat opt0).2.1).getD q.toNat 0) 0))), (54, VL A33 1 1), (55, VL A34 (m_ + 1 + 1) c34)], [(3, ⟨65, [I6 ((xs.getD j.toNat opt0).1), VL A18 ((xs.getD j.toNat opt0).2.1.length) c18, VT ((xs.getD j.toNat opt0).2.2)]⟩)]⟩ ?_
      refine X.again (hJ32 _ _ _ ?_)
      refine RX.succ fun J35 hJ35 => ?_
      refine Tr [20] ?_
      have e1 : IntKind.i64.wrap (q + 1) = q + 1 := wi64 (by omega) (by omega)
      have e0 : (q + 1).toNat = q.toNat + 1 := by omega
      exact Rn 18 (.ex .normal) [.loop J24, .blk 0, Qs B109 31] _ (X.again (hJ24 _ _ _ _ ⟨A34, c34, m_ + 1 + 1, p_ ++ [IntKind.u8.wrap (bshr .u32 (((xs.getD j.toNat opt0).2.1).getD q.toNat 0) 8)] ++ [IntKind.u8.wrap (bshr .u32 (((xs.getD j.toNat opt0).2.1).getD q.toNat 0) 0)], IntKind.i64.wrap (q + 1), rfl, rfl, rfl, ⟨by omega, by omega, by rw [e1, e0, ← put_num hp (by omega) (show (szk (xs.getD (j).toNat opt0).1).toNat = 2 by rw [hsz_]; rfl) (be2 (by omega)).symm]; simp only [List.append_assoc, List.cons_append, List.nil_append], by rw [e1]; omega⟩, rfl⟩ (by rw [e1]; omega)))
     ·
      refine Rb 11 (Qo B109 62 3) 4 [Qs B109 63] [(57, VL D_ m_ d_), (59, VT ((xs.getD j.toNat opt0).2.2))] [0, 5, 38] [] [3] ?_
      refine X.appendStr 20 (RR 5 1 D_ m_ d_ ((p_).map (Value.int .u8))) 22 9 (x := .tmp 57) (y := .tmp 59) (n := m_) (c := d_) (A := D_) (b := (xs.getD j.toNat opt0).2.2) (by kernel_rfl) (by kernel_rfl) (by kernel_rfl) (by kernel_rfl) (by kernel_rfl) (by kernel_rfl) rfl (by kernel_rfl) (.inl rfl) rfl rfl (by omega) ?_
      intro A36 c36 hc36
      refine Tc [] (cs' := (p_ ++ bytesL ((xs.getD j.toNat opt0).2.2)).map (Value.int .u8)) (by simp) ?_
      refine Rn 4 (.ex .ret) [] ⟨61, [(4, VL A36 (m_ + ((xs.getD j.toNat opt0).2.2).size) c36)], []⟩ ?_
      refine fin19 _ _ _ _ [.slice A36 (m_ + ((xs.getD j.toNat opt0).2.2).size) c36] [] (.inl rfl) (by kernel_rfl) (by kernel_rfl) ?_
      have e1 : IntKind.i64.wrap (j + 1) = j + 1 := wi64 (by omega) (by omega)
      have e0 : (j + 1).toNat = j.toNat + 1 := by omega
      exact Rn 8 (.ex .normal) [.loop J14, .blk 3, Qs B49 127] _ (X.again (hJ14 _ _ _ _ ⟨A36, c36, m_ + ((xs.getD j.toNat opt0).2.2).size, p_ ++ bytesL ((xs.getD j.toNat opt0).2.2), IntKind.i64.wrap (j + 1), rfl, rfl, rfl, ⟨by omega, by omega, by rw [e1, e0, bodyO_step (by omega), ← hl]; exact (put_done hp (by omega)), by rw [e1, e0, sumO_step (by omega)]; omega⟩, rfl⟩ (by rw [e1]; omega)))
    ·
     refine Rc 7 (Qc B108 215) 0 [] [(8, VB (((xs.getD j.toNat opt0).1) == 8))] [6] ?_
     refine Se 8 rfl ?_ ?_ <;> intro h37
     ·
      refine Rc 11 (.ex .ret) 2 [] [(2, I6 4), (3, I6 2), (4, I6 2)] [5, 8] ?_
      refine fin20 _ _ _ _ [N6 4, N6 2, N6 2] [(3, ⟨65, [I6 ((xs.getD j.toNat opt0).1), VL A18 ((xs.getD j.toNat opt0).2.1.length) c18, VT ((xs.getD j.toNat opt0).2.2)]⟩)] (.inl rfl) (by kernel_rfl) (by kernel_rfl) ?_
      have hsz_ : szk (xs.getD (j).toNat opt0).1 = 4 := by rw [show (xs.getD (j).toNat opt0).1 = 8 by assumption]; rfl
      have hol_ : optLen (xs.getD (j).toNat opt0) = 2 + ((xs.getD (j).toNat opt0).2.1.length : Int) * 4 + ((xs.getD (j).toNat opt0).2.2.size : Int) := by unfold optLen; rw [hsz_]
      refine Ra 20 (Qo B109 14 9) 1 [Qs B109 15] [(5, I6 4), (18, VL B_ n_ c_), (21, I8 (IntKind.u8.wrap ((xs.getD j.toNat opt0).1))), (26, I6 (IntKind.i64.wrap ((((xs.getD j.toNat opt0).2.1.length : Nat) : Int) * 4)))] ?_
      refine Kn 26 .i64 (((xs.getD (j).toNat opt0).2.1.length : Int) * 4) rfl (wi64 (by omega) (by omega)) ?_
      refine Ra 1 (Qo B109 14 10) 0 [] [(27, I6 (IntKind.i64.wrap (2 + (((xs.getD (j).toNat opt0).2.1.length : Int) * 4))))] ?_
      refine Kn 27 .i64 (2 + (((xs.getD (j).toNat opt0).2.1.length : Int) * 4)) rfl (wi64 (by omega) (by omega)) ?_
      refine Ra 4 (Qo B109 14 14) 0 [] [(31, I6 (IntKind.i64.wrap ((2 + (((xs.getD (j).toNat opt0).2.1.length : Int) * 4)) + (((xs.getD j.toNat opt0).2.2).size : Int))))] ?_
      refine Kn 31 .i64 ((2 + (((xs.getD (j).toNat opt0).2.1.length : Int) * 4)) + (((xs.getD j.toNat opt0).2.2).size : Int)) rfl (wi64 (by omega) (by omega)) ?_
      refine Ra 1 (Qo B109 14 15) 0 [] [(32, I8 (IntKind.u8.wrap ((2 + (((xs.getD (j).toNat opt0).2.1.length : Int) * 4)) + (((xs.getD j.toNat opt0).2.2).size : Int))))] ?_
      refine Lt 33 5 1 2 [N8 (IntKind.u8.wrap ((xs.getD j.toNat opt0).1)), N8 (IntKind.u8.wrap ((2 + (((xs.getD (j).toNat opt0).2.1.length : Int) * 4)) + (((xs.getD j.toNat opt0).2.2).size : Int)))] ?_
      intro A38
      refine Ra 0 (Qo B109 14 16) 0 [] [(33, VL A38 2 2)] ?_
      refine Ap 20 _ 22 1 (N8 0) (.tmp 18) (.tmp 33) n_ c_ 2 2 B_ A38 [N8 (IntKind.u8.wrap ((xs.getD j.toNat opt0).1)), N8 (IntKind.u8.wrap ((2 + (((xs.getD (j).toNat opt0).2.1.length : Int) * 4)) + (((xs.getD j.toNat opt0).2.2).size : Int)))] (.inl rfl) (by kernel_rfl) (Ar 33 rfl) (Br 33 rfl) (ones (by kernel_rfl)) (by omega) ?_
      intro A39 c39 hc39
      refine Tc [33] (cs' := (l_ ++ [IntKind.u8.wrap ((xs.getD j.toNat opt0).1), IntKind.u8.wrap ((2 + (((xs.getD (j).toNat opt0).2.1.length : Int) * 4)) + (((xs.getD j.toNat opt0).2.2).size : Int))]).map (Value.int .u8)) (by simp) ?_
      refine Tr [20] ?_
      refine Rn 13 (Qc B109 122) [.blk 0, Qs B109 31] _ (X.loopJ (fun m s R' G' => ∃ (D_ : Option Addr) (d_ m_ : Nat) (p_ : List Int) (q : Int), s = ⟨61, [(0, VL D_ m_ d_), (3, .own 3 0), (4, VL none 0 0), (5, I6 4), (36, VL A18 ((xs.getD j.toNat opt0).2.1.length) c18), (37, I6 (((xs.getD j.toNat opt0).2.1.length : Nat) : Int)), (38, I6 q)], [(3, ⟨65, [I6 ((xs.getD j.toNat opt0).1), VL A18 ((xs.getD j.toNat opt0).2.1.length) c18, VT ((xs.getD j.toNat opt0).2.2)]⟩)]⟩ ∧ R' = [(20, RR 5 1 D_ m_ d_ ((p_).map (Value.int .u8)))] ∧ G1 = G' ∧ (0 ≤ q ∧ q ≤ ((xs.getD (j).toNat opt0).2.1.length : Int) ∧ p_ = l_ ++ putH (xs.getD (j).toNat opt0) ++ numsB (xs.getD (j).toNat opt0).1 ((xs.getD (j).toNat opt0).2.1.take q.toNat) ∧ (m_ : Int) = n_ + 2 + q * 4) ∧ m = (((xs.getD (j).toNat opt0).2.1.length : Int) - q).toNat) _ ⟨A39, c39, n_ + 2, l_ ++ [IntKind.u8.wrap ((xs.getD j.toNat opt0).1), IntKind.u8.wrap ((2 + (((xs.getD (j).toNat opt0).2.1.length : Int) * 4)) + (((xs.getD j.toNat opt0).2.2).size : Int))], 0, rfl, rfl, rfl, ⟨by omega, by omega, put_head (o := (xs.getD (j).toNat opt0)) l_ rfl (by rw [hol_]), by omega⟩, rfl⟩ ?_)
      rintro m40 s40 R40 G40 ⟨D_, d_, m_, p_, q, rfl, rfl, rfl, hF40, rfl⟩ J40 hJ40
      obtain ⟨hq0, hq1, hp, hm_⟩ := hF40
      refine Ra 6 (Qc B109 978) 0 [Qs B109 979] [(39, VB (decide (q < (((xs.getD j.toNat opt0).2.1.length : Nat) : Int))))] ?_
      refine Sd 39 rfl ?_ ?_ <;> intro h41
      ·
       refine Ra 7 (Qo B109 7832 0) 1 [Qs B109 7833, .blk 1, Qs B109 1959] [] ?_
       refine Ix 63 29 1 A18 ((xs.getD j.toNat opt0).2.1.length) c18 .i64 q (.tmp 36) (.tmp 38) (by omega) (by omega) (fun _ _ => rowAt.so hr18 (by omega)) ?_
       obtain ⟨at44, lo44, hi44⟩ := At.int [(20, ⟨5, 1, .slice D_ m_ d_, m_, (p_).map (Value.int .u8)⟩)] hr18 ((q).toNat) (by omega)
       simp only [IntKind.lo, IntKind.hi] at lo44 hi44
       refine Ld 29 A18 ((q).toNat * 1) (.tmp 40) (N3 (((xs.getD j.toNat opt0).2.1).getD q.toNat 0)) [N3 (((xs.getD j.toNat opt0).2.1).getD q.toNat 0)] at44 ?_
       refine Ra 11 (Qc B109 31334) 1 [.blk 2] [(9, I3 (((xs.getD j.toNat opt0).2.1).getD q.toNat 0)), (10, I6 3)] ?_
       refine X.rounds 6 ?_
       refine RX.succ fun J45 hJ45 => ?_
       refine Rn 19 (Qo B109 501348 6) [.blk 3, Qs B109 250675, .loop J45, .blk 2, .blk 1, Qs B109 1959, .loop J40, .blk 0, Qs B109 31] ⟨61, [(0, VL D_ m_ d_), (3, .own 3 0), (4, VL none 0 0), (5, I6 4), (9, I3 (((xs.getD j.toNat opt0).2.1).getD q.toNat 0)), (10, I6 3), (36, VL A18 ((xs.getD j.toNat opt0).2.1.length) c18), (37, I6 (((xs.getD j.toNat opt0).2.1.length : Nat) : Int)), (38, I6 q), (44, I6 3), (45, VB true), (48, VL D_ m_ d_), (49, I3 (((xs.getD j.toNat opt0).2.1).getD q.toNat 0)), (50, I6 3), (51, I6 24), (52, I3 (bshr .u32 (((xs.getD j.toNat opt0).2.1).getD q.toNat 0) 24)), (53, I8 (IntKind.u8.wrap (bshr .u32 (((xs.getD j.toNat opt0).2.1).getD q.toNat 0) 24)))], [(3, ⟨65, [I6 ((xs.getD j.toNat opt0).1), VL A18 ((xs.getD j.toNat opt0).2.1.length) c18, VT ((xs.getD j.toNat opt0).2.2)]⟩)]⟩ ?_
       refine Lt 54 5 1 1 [N8 (IntKind.u8.wrap (bshr .u32 (((xs.getD j.toNat opt0).2.1).getD q.toNat 0) 24))] ?_
       intro A46
       refine Ap 20 _ 22 1 (N8 0) (.tmp 48) (.tmp 54) m_ d_ 1 1 D_ A46 [N8 (IntKind.u8.wrap (bshr .u32 (((xs.getD j.toNat opt0).2.1).getD q.toNat 0) 24))] (.inl rfl) (by kernel_rfl) (Ar 54 rfl) (Br 54 rfl) (ones (by kernel_rfl)) (by omega) ?_
       intro A47 c47 hc47
       refine Tc [54] (cs' := (p_ ++ [IntKind.u8.wrap (bshr .u32 (((xs.getD j.toNat opt0).2.1).getD q.toNat 0) 24)]).map (Value.int .u8)) (by simp) ?_
       refine Rn 9 (.ex .normal) [.loop J45, .blk 2, .blk 1, Qs B109 1959, .loop J40, .blk 0, Qs B109 31] ⟨61, [(0, VL A47 (m_ + 1) c47), (3, .own 3 0), (4, VL none 0 0), (5, I6 4), (9, I3 (((xs.getD j.toNat opt0).2.1).getD q.toNat 0)), (10, I6 2), (36, VL A18 ((xs.getD j.toNat opt0).2.1.length) c18), (37, I6 (((xs.getD j.toNat opt0).2.1.length : Nat) : Int)), (38, I6 q), (44, I6 3), (45, VB true), (46, I6 3), (47, I6 2), (48, VL D_ m_ d_), (49, I3 (((xs.getD j.toNat opt0).2.1).getD q.toNat 0)), (50, I6 3), (51, I6 24), (52, I3 (bshr .u32 (((xs.getD j.toNat opt0).2.1).getD q.toNat 0) 24)), (53, I8 (IntKind.u8.wrap (bshr .u32 (((xs.getD j.toNat opt0).2.1).getD q.toNat 0) 24))), (54, VL A46 1 1), (55, VL A47 (m_ + 1) c47)], [(3, ⟨65, [I6 ((xs.getD j.toNat opt0).1), VL A18 ((xs.getD j.toNat opt0).2.1.length) c18, VT ((xs.getD j.toNat opt0).2.2)]⟩)]⟩ ?_
       refine X.again (hJ45 _ _ _ ?_)
       refine RX.succ fun J48 hJ48 => ?_
       refine Rn 19 (Qo B109 501348 6) [.blk 3, Qs B109 250675, .loop J48, .blk 2, .blk 1, Qs B109 1959, .loop J40, .blk 0, Qs B109 31] ⟨61, [(0, VL A47 (m_ + 1) c47), (3, .own 3 0), (4, VL none 0 0), (5, I6 4), (9, I3 (((xs.getD j.toNat opt0).2.1).getD q.toNat 0)), (10, I6 2), (36, VL A18 ((xs.getD j.toNat opt0).2.1.length) c18), (37, I6 (((xs.getD j.toNat opt0).2.1.length : Nat) : Int)), (38, I6 q), (44, I6 2), (45, VB true), (46, I6 3), (47, I6 2), (48, VL A47 (m_ + 1) c47), (49, I3 (((xs.getD j.toNat opt0).2.1).getD q.toNat 0)), (50, I6 2), (51, I6 16), (52, I3 (bshr .u32 (((xs.getD j.toNat opt0).2.1).getD q.toNat 0) 16)), (53, I8 (IntKind.u8.wrap (bshr .u32 (((xs.getD j.toNat opt0).2.1).getD q.toNat 0) 16))), (54, VL A46 1 1), (55, VL A47 (m_ + 1) c47)], [(3, ⟨65, [I6 ((xs.getD j.toNat opt0).1), VL A18 ((xs.getD j.toNat opt0).2.1.length) c18, VT ((xs.getD j.toNat opt0).2.2)]⟩)]⟩ ?_
       refine Lt 54 5 1 1 [N8 (IntKind.u8.wrap (bshr .u32 (((xs.getD j.toNat opt0).2.1).getD q.toNat 0) 16))] ?_
       intro A49
       refine Ap 20 _ 22 1 (N8 0) (.tmp 48) (.tmp 54) (m_ + 1) c47 1 1 A47 A49 [N8 (IntKind.u8.wrap (bshr .u32 (((xs.getD j.toNat opt0).2.1).getD q.toNat 0) 16))] (.inl rfl) (by kernel_rfl) (Ar 54 rfl) (Br 54 rfl) (ones (by kernel_rfl)) (by omega) ?_
       intro A50 c50 hc50
       refine Tc [54] (cs' := (p_ ++ [IntKind.u8.wrap (bshr .u32 (((xs.getD j.toNat opt0).2.1).getD q.toNat 0) 24)] ++ [IntKind.u8.wrap (bshr .u32 (((xs.getD j.toNat opt0).2.1).getD q.toNat 0) 16)]).map (Value.int .u8)) (by simp) ?_
       refine Rn 9 (.ex .normal) [.loop J48, .blk 2, .blk 1, Qs B109 1959, .loop J40, .blk 0, Qs B109 31] ⟨61, [(0, VL A50 (m_ + 1 + 1) c50), (3, .own 3 0), (4, VL none 0 0), (5, I6 4), (9, I3 (((xs.getD j.toNat opt0).2.1).getD q.toNat 0)), (10, I6 1), (36, VL A18 ((xs.getD j.toNat opt0).2.1.length) c18), (37, I6 (((xs.getD j.toNat opt0).2.1.length : Nat) : Int)), (38, I6 q), (44, I6 2), (45, VB true), (46, I6 2), (47, I6 1), (48, VL A47 (m_ + 1) c47), (49, I3 (((xs.getD j.toNat opt0).2.1).getD q.toNat 0)), (50, I6 2), (51, I6 16), (52, I3 (bshr .u32 (((xs.getD j.toNat opt0).2.1).getD q.toNat 0) 16)), (53, I8 (IntKind.u8.wrap (bshr .u32 (((xs.getD j.toNat opt0).2.1).getD q.toNat 0) 16))), (54, VL A49 1 1), (55, VL A50 (m_ + 1 + 1) c50)], [(3, ⟨65, [I6 ((xs.getD j.toNat opt0).1), VL A18 ((xs.getD j.toNat opt0).2.1.length) c18, VT ((xs.getD j.toNat opt0).2.2)]⟩)]⟩ ?_
       refine X.again (hJ48 _ _ _ ?_)
       refine RX.succ fun J51 hJ51 => ?_
       refine Rn 19 (Qo B109 501348 6) [.blk 3, Qs B109 250675, .loop J51, .blk 2, .blk 1, Qs B109 1959, .loop J40, .blk 0, Qs B109 31] ⟨61, [(0, VL A50 (m_ + 1 + 1) c50), (3, .own 3 0), (4, VL none 0 0), (5, I6 4), (9, I3 (((xs.getD j.toNat opt0).2.1).getD q.toNat 0)), (10, I6 1), (36, VL A18 ((xs.getD j.toNat opt0).2.1.length) c18), (37, I6 (((xs.getD j.toNat opt0).2.1.length : Nat) : Int)), (38, I6 q), (44, I6 1), (45, VB true), (46, I6 2), (47, I6 1), (48, VL A50 (m_ + 1 + 1) c50), (49, I3 (((xs.getD j.toNat opt0).2.1).getD q.toNat 0)), (50, I6 1), (51, I6 8), (52, I3 (bshr .u32 (((xs.getD j.toNat opt0).2.1).getD q.toNat 0) 8)), (53, I8 (IntKind.u8.wrap (bshr .u32 (((xs.getD j.toNat opt0).2.1).getD q.toNat 0) 8))), (54, VL A49 1 1), (55, VL A50 (m_ + 1 + 1) c50)], [(3, ⟨65, [I6 ((xs.getD j.toNat opt0).1), VL A18 ((xs.getD j.toNat opt0).2.1.length) c18, VT ((xs.getD j.toNat opt0).2.2)]⟩)]⟩ ?_
       refine Lt 54 5 1 1 [N8 (IntKind.u8.wrap (bshr .u32 (((xs.getD j.toNat opt0).2.1).getD q.toNat 0) 8))] ?_
       intro A52
       refine Ap 20 _ 22 1 (N8 0) (.tmp 48) (.tmp 54) (m_ + 1 + 1) c50 1 1 A50 A52 [N8 (IntKind.u8.wrap (bshr .u32 (((xs.getD j.toNat opt0).2.1).getD q.toNat 0) 8))] (.inl rfl) (by kernel_rfl) (Ar 54 rfl) (Br 54 rfl) (ones (by kernel_rfl)) (by omega) ?_
       intro A53 c53 hc53
       refine Tc [54] (cs' := (p_ ++ [IntKind.u8.wrap (bshr .u32 (((xs.getD j.toNat opt0).2.1).getD q.toNat 0) 24)] ++ [IntKind.u8.wrap (bshr .u32 (((xs.getD j.toNat opt0).2.1).getD q.toNat 0) 16)] ++ [IntKind.u8.wrap (bshr .u32 (((xs.getD j.toNat opt0).2.1).getD q.toNat 0) 8)]).map (Value.int .u8)) (by simp) ?_
       refine Rn 9 (.ex .normal) [.loop J51, .blk 2, .blk 1, Qs B109 1959, .loop J40, .blk 0, Qs B109 31] ⟨61, [(0, VL A53 (m_ + 1 + 1 + 1) c53), (3, .own 3 0), (4, VL none 0 0), (5, I6 4), (9, I3 (((xs.getD j.toNat opt0).2.1).getD q.toNat 0)), (10, I6 0), (36, VL A18 ((xs.getD j.toNat opt0).2.1.length) c18), (37, I6 (((xs.getD j.toNat opt0).2.1.length : Nat) : Int)), (38, I6 q), (44, I6 1), (45, VB true), (46, I6 1), (47, I6 0), (48, VL A50 (m_ + 1 + 1) c50), (49, I3 (((xs.getD j.toNat opt0).2.1).getD q.toNat 0)), (50, I6 1), (51, I6 8), (52, I3 (bshr .u32 (((xs.getD j.toNat opt0).2.1).getD q.toNat 0) 8)), (53, I8 (IntKind.u8.wrap (bshr .u32 (((xs.getD j.toNat opt0).2.1).getD q.toNat 0) 8))), (54, VL A52 1 1), (55, VL A53 (m_ + 1 + 1 + 1) c53)], [(3, ⟨65, [I6 ((xs.getD j.toNat opt0).1), VL A18 ((xs.getD j.toNat opt0).2.1.length) c18, VT ((xs.getD j.toNat opt0).2.2)]⟩)]⟩ ?_
       refine X.again (hJ51 _ _ _ ?_)
       refine RX.succ fun J54 hJ54 => ?_
       refine Rn 19 (Qo B109 501348 6) [.blk 3, Qs B109 250675, .loop J54, .blk 2, .blk 1, Qs B109 1959, .loop J40, .blk 0, Qs B109 31] ⟨61, [(0, VL A53 (m_ + 1 + 1 + 1) c53), (3, .own 3 0), (4, VL none 0 0), (5, I6 4), (9, I3 (((xs.getD j.toNat opt0).2.1).getD q.toNat 0)), (10, I6 0), (36, VL A18 ((xs.getD j.toNat opt0).2.1.length) c18), (37, I6 (((xs.getD j.toNat opt0).2.1.length : Nat) : Int)), (38, I6 q), (44, I6 0), (45, VB true), (46, I6 1), (47, I6 0), (48, VL A53 (m_ + 1 + 1 + 1) c53), (49, I3 (((xs.getD j.toNat opt0).2.1).getD q.toNat 0)), (50, I6 0), (51, I6 0), (52, I3 (bshr .u32 (((xs.getD j.toNat opt0).2.1).getD q.toNat 0) 0)), (53, I8 (IntKind.u8.wrap (bshr .u32 (((xs.getD j.toNat opt0).2.1).getD q.toNat 0) 0))), (54, VL A52 1 1), (55, VL A53 (m_ + 1 + 1 + 1) c53)], [(3, ⟨65, [I6 ((xs.getD j.toNat opt0).1), VL A18 ((xs.getD j.toNat opt0).2.1.length) c18, VT ((xs.getD j.toNat opt0).2.2)]⟩)]⟩ ?_
       refine Lt 54 5 1 1 [N8 (IntKind.u8.wrap (bshr .u32 (((xs.getD j.toNat opt0).2.1).getD q.toNat 0) 0))] ?_
       intro A55
       refine Ap 20 _ 22 1 (N8 0) (.tmp 48) (.tmp 54) (m_ + 1 + 1 + 1) c53 1 1 A53 A55 [N8 (IntKind.u8.wrap (bshr .u32 (((xs.getD j.toNat opt0).2.1).getD q.toNat 0) 0))] (.inl rfl) (by kernel_rfl) (Ar 54 rfl) (Br 54 rfl) (ones (by kernel_rfl)) (by omega) ?_
       intro A56 c56 hc56
       refine Tc [54] (cs' := (p_ ++ [IntKind.u8.wrap (bshr .u32 (((xs.getD j.toNat opt0).2.1).getD q.toNat 0) 24)] ++ [IntKind.u8.wrap (bshr .u32 (((xs.getD j.toNat opt0).2.1).getD q.toNat 0) 16)] ++ [IntKind.u8.wrap (bshr .u32 (((xs.getD j.toNat opt0).2.1).getD q.toNat 0) 8)] ++ [IntKind.u8.wrap (bshr .u32 (((xs.getD j.toNat opt0).2.1).getD q.toNat 0) 0)]).map (Value.int .u8)) (by simp) ?_
       refine Rn 9 (.ex .normal) [.loop J54, .blk 2, .blk 1, Qs B109 1959, .loop J40, .blk 0, Qs B109 31] ⟨61, [(0, VL A56 (m_ + 1 + 1 + 1 + 1) c56), (3, .own 3 0), (4, VL none 0 0), (5, I6 4), (9, I3 (((xs.getD j.toNat opt0).2.1).getD q.toNat 0)), (10, I6 (-1)), (36, VL A18 ((xs.getD j.toNat opt0).2.1.length) c18), (37, I6 (((xs.getD j.toNat opt0).2.1.length : Nat) : Int)), (38, I6 q), (44, I6 0), (45, VB true), (46, I6 0), (47, I6 (-1)), (48, VL A53 (m_ + 1 + 1 + 1) c53), (49, I3 (((xs.getD j.toNat opt0).2.1).getD q.toNat 0)), (50, I6 0), (51, I6 0), (52, I3 (bshr .u32 (((xs.getD j.toNat opt0).2.1).getD q.toNat 0) 0)), (53, I8 (IntKind.u8.wrap (bshr .u32 (((xs.getD j.toNat opt0).2.1).getD q.toNat 0) 0))), (54, VL A55 1 1), (55, VL A56 (m_ + 1 + 1 + 1 + 1) c56)], [(3, ⟨65, [I6 ((xs.getD j.toNat opt0).1), VL A18 ((xs.getD j.toNat opt0).2.1.length) c18, VT ((xs.getD j.toNat opt0).2.2)]⟩)]⟩ ?_
       refine X.again (hJ54 _ _ _ ?_)
       refine RX.succ fun J57 hJ57 => ?_
       refine Tr [20] ?_
       have e1 : IntKind.i64.wrap (q + 1) = q + 1 := wi64 (by omega) (by omega)
       have e0 : (q + 1).toNat = q.toNat + 1 := by omega
       exact Rn 18 (.ex .normal) [.loop J40, .blk 0, Qs B109 31] _ (X.again (hJ40 _ _ _ _ ⟨A56, c56, m_ + 1 + 1 + 1 + 1, p_ ++ [IntKind.u8.wrap (bshr .u32 (((xs.getD j.toNat opt0).2.1).getD q.toNat 0) 24)] ++ [IntKind.u8.wrap (bshr .u32 (((xs.getD j.toNat opt0).2.1).getD q.toNat 0) 16)] ++ [IntKind.u8.wrap (bshr .u32 (((xs.getD j.toNat opt0).2.1).getD q.toNat 0) 8)] ++ [IntKind.u8.wrap (bshr .u32 (((xs.getD j.toNat opt0).2.1).getD q.toNat 0) 0)], IntKind.i64.wrap (q + 1), rfl, rfl, rfl, ⟨by omega, by omega, by rw [e1, e0, ← put_num hp (by omega) (show (szk (xs.getD (j).toNat opt0).1).toNat = 4 by rw [hsz_]; rfl) (be4 (by omega)).symm]; simp only [List.append_assoc, List.cons_append, List.nil_append], by rw [e1]; omega⟩, rfl⟩ (by rw [e1]; omega)))
      ·
       refine Rb 11 (Qo B109 62 3) 4 [Qs B109 63] [(57, VL D_ m_ d_), (59, VT ((xs.getD j.toNat opt0).2.2))] [0, 5, 38] [] [3] ?_
       refine X.appendStr 20 (RR 5 1 D_ m_ d_ ((p_).map (Value.int .u8))) 22 9 (x := .tmp 57) (y := .tmp 59) (n := m_) (c := d_) (A := D_) (b := (xs.getD j.toNat opt0).2.2) (by kernel_rfl) (by kernel_rfl) (by kernel_rfl) (by kernel_rfl) (by kernel_rfl) (by kernel_rfl) rfl (by kernel_rfl) (.inl rfl) rfl rfl (by omega) ?_
       intro A58 c58 hc58
       refine Tc [] (cs' := (p_ ++ bytesL ((xs.getD j.toNat opt0).2.2)).map (Value.int .u8)) (by simp) ?_
       refine Rn 4 (.ex .ret) [] ⟨61, [(4, VL A58 (m_ + ((xs.getD j.toNat opt0).2.2).size) c58)], []⟩ ?_
       refine fin19 _ _ _ _ [.slice A58 (m_ + ((xs.getD j.toNat opt0).2.2).size) c58] [] (.inl rfl) (by kernel_rfl) (by kernel_rfl) ?_
       have e1 : IntKind.i64.wrap (j + 1) = j + 1 := wi64 (by omega) (by omega)
       have e0 : (j + 1).toNat = j.toNat + 1 := by omega
       exact Rn 8 (.ex .normal) [.loop J14, .blk 3, Qs B49 127] _ (X.again (hJ14 _ _ _ _ ⟨A58, c58, m_ + ((xs.getD j.toNat opt0).2.2).size, p_ ++ bytesL ((xs.getD j.toNat opt0).2.2), IntKind.i64.wrap (j + 1), rfl, rfl, rfl, ⟨by omega, by omega, by rw [e1, e0, bodyO_step (by omega), ← hl]; exact (put_done hp (by omega)), by rw [e1, e0, sumO_step (by omega)]; omega⟩, rfl⟩ (by rw [e1]; omega)))
     ·
      refine Rc 8 (Qc B108 1725) 0 [Qs B108 863] [(10, VB (((xs.getD j.toNat opt0).1) == 172))] [8] ?_
      refine Se 10 rfl ?_ ?_ <;> intro h59
      ·
       refine Rc 14 (.ex .ret) 3 [] [(2, I6 3), (4, I6 3)] [5, 10] ?_
       refine fin20 _ _ _ _ [N6 3, N6 0, N6 3] [(3, ⟨65, [I6 ((xs.getD j.toNat opt0).1), VL A18 ((xs.getD j.toNat opt0).2.1.length) c18, VT ((xs.getD j.toNat opt0).2.2)]⟩)] (.inl rfl) (by kernel_rfl) (by kernel_rfl) ?_
       have hsz_ : szk (xs.getD (j).toNat opt0).1 = 3 := by rw [show (xs.getD (j).toNat opt0).1 = 172 by assumption]; rfl
       have hol_ : optLen (xs.getD (j).toNat opt0) = 2 + ((xs.getD (j).toNat opt0).2.1.length : Int) * 3 + ((xs.getD (j).toNat opt0).2.2.size : Int) := by unfold optLen; rw [hsz_]
       refine Ra 20 (Qo B109 14 9) 1 [Qs B109 15] [(5, I6 3), (18, VL B_ n_ c_), (21, I8 (IntKind.u8.wrap ((xs.getD j.toNat opt0).1))), (26, I6 (IntKind.i64.wrap ((((xs.getD j.toNat opt0).2.1.length : Nat) : Int) * 3)))] ?_
       refine Kn 26 .i64 (((xs.getD (j).toNat opt0).2.1.length : Int) * 3) rfl (wi64 (by omega) (by omega)) ?_
       refine Ra 1 (Qo B109 14 10) 0 [] [(27, I6 (IntKind.i64.wrap (2 + (((xs.getD (j).toNat opt0).2.1.length : Int) * 3))))] ?_
       refine Kn 27 .i64 (2 + (((xs.getD (j).toNat opt0).2.1.length : Int) * 3)) rfl (wi64 (by omega) (by omega)) ?_
       refine Ra 4 (Qo B109 14 14) 0 [] [(31, I6 (IntKind.i64.wrap ((2 + (((xs.getD (j).toNat opt0).2.1.length : Int) * 3)) + (((xs.getD j.toNat opt0).2.2).size : Int))))] ?_
       refine Kn 31 .i64 ((2 + (((xs.getD (j).toNat opt0).2.1.length : Int) * 3)) + (((xs.getD j.toNat opt0).2.2).size : Int)) rfl (wi64 (by omega) (by omega)) ?_
       refine Ra 1 (Qo B109 14 15) 0 [] [(32, I8 (IntKind.u8.wrap ((2 + (((xs.getD (j).toNat opt0).2.1.length : Int) * 3)) + (((xs.getD j.toNat opt0).2.2).size : Int))))] ?_
       refine Lt 33 5 1 2 [N8 (IntKind.u8.wrap ((xs.getD j.toNat opt0).1)), N8 (IntKind.u8.wrap ((2 + (((xs.getD (j).toNat opt0).2.1.length : Int) * 3)) + (((xs.getD j.toNat opt0).2.2).size : Int)))] ?_
       intro A60
       refine Ra 0 (Qo B109 14 16) 0 [] [(33, VL A60 2 2)] ?_
       refine Ap 20 _ 22 1 (N8 0) (.tmp 18) (.tmp 33) n_ c_ 2 2 B_ A60 [N8 (IntKind.u8.wrap ((xs.getD j.toNat opt0).1)), N8 (IntKind.u8.wrap ((2 + (((xs.getD (j).toNat opt0).2.1.length : Int) * 3)) + (((xs.getD j.toNat opt0).2.2).size : Int)))] (.inl rfl) (by kernel_rfl) (Ar 33 rfl) (Br 33 rfl) (ones (by kernel_rfl)) (by omega) ?_
       intro A61 c61 hc61
       refine Tc [33] (cs' := (l_ ++ [IntKind.u8.wrap ((xs.getD j.toNat opt0).1), IntKind.u8.wrap ((2 + (((xs.getD (j).toNat opt0).2.1.length : Int) * 3)) + (((xs.getD j.toNat opt0).2.2).size : Int))]).map (Value.int .u8)) (by simp) ?_
       refine Tr [20] ?_
       refine Rn 13 (Qc B109 122) [.blk 0, Qs B109 31] _ (X.loopJ (fun m s R' G' => ∃ (D_ : Option Addr) (d_ m_ : Nat) (p_ : List Int) (q : Int), s = ⟨61, [(0, VL D_ m_ d_), (3, .own 3 0), (4, VL none 0 0), (5, I6 3), (36, VL A18 ((xs.getD j.toNat opt0).2.1.length) c18), (37, I6 (((xs.getD j.toNat opt0).2.1.length : Nat) : Int)), (38, I6 q)], [(3, ⟨65, [I6 ((xs.getD j.toNat opt0).1), VL A18 ((xs.getD j.toNat opt0).2.1.length) c18, VT ((xs.getD j.toNat opt0).2.2)]⟩)]⟩ ∧ R' = [(20, RR 5 1 D_ m_ d_ ((p_).map (Value.int .u8)))] ∧ G1 = G' ∧ (0 ≤ q ∧ q ≤ ((xs.getD (j).toNat opt0).2.1.length : Int) ∧ p_ = l_ ++ putH (xs.getD (j).toNat opt0) ++ numsB (xs.getD (j).toNat opt0).1 ((xs.getD (j).toNat opt0).2.1.take q.toNat) ∧ (m_ : Int) = n_ + 2 + q * 3) ∧ m = (((xs.getD (j).toNat opt0).2.1.length : Int) - q).toNat) _ ⟨A61, c61, n_ + 2, l_ ++ [IntKind.u8.wrap ((xs.getD j.toNat opt0).1), IntKind.u8.wrap ((2 + (((xs.getD (j).toNat opt0).2.1.length : Int) * 3)) + (((xs.getD j.toNat opt0).2.2).size : Int))], 0, rfl, rfl, rfl, ⟨by omega, by omega, put_head (o := (xs.getD (j).toNat opt0)) l_ rfl (by rw [hol_]), by omega⟩, rfl⟩ ?_)
       rintro m62 s62 R62 G62 ⟨D_, d_, m_, p_, q, rfl, rfl, rfl, hF62, rfl⟩ J62 hJ62
       obtain ⟨hq0, hq1, hp, hm_⟩ := hF62
       refine Ra 6 (Qc B109 978) 0 [Qs B109 979] [(39, VB (decide (q < (((xs.getD j.toNat opt0).2.1.length : Nat) : Int))))] ?_
       refine Sd 39 rfl ?_ ?_ <;> intro h63
       ·
        refine Ra 7 (Qo B109 7832 0) 1 [Qs B109 7833, .blk 1, Qs B109 1959] [] ?_
        refine Ix 63 29 1 A18 ((xs.getD j.toNat opt0).2.1.length) c18 .i64 q (.tmp 36) (.tmp 38) (by omega) (by omega) (fun _ _ => rowAt.so hr18 (by omega)) ?_
        obtain ⟨at66, lo66, hi66⟩ := At.int [(20, ⟨5, 1, .slice D_ m_ d_, m_, (p_).map (Value.int .u8)⟩)] hr18 ((q).toNat) (by omega)
        simp only [IntKind.lo, IntKind.hi] at lo66 hi66
        refine Ld 29 A18 ((q).toNat * 1) (.tmp 40) (N3 (((xs.getD j.toNat opt0).2.1).getD q.toNat 0)) [N3 (((xs.getD j.toNat opt0).2.1).getD q.toNat 0)] at66 ?_
        refine Ra 11 (Qc B109 31334) 1 [.blk 2] [(9, I3 (((xs.getD j.toNat opt0).2.1).getD q.toNat 0)), (10, I6 2)] ?_
        refine X.rounds 6 ?_
        refine RX.succ fun J67 hJ67 => ?_
        refine Rn 19 (Qo B109 501348 6) [.blk 3, Qs B109 250675, .loop J67, .blk 2, .blk 1, Qs B109 1959, .loop J62, .blk 0, Qs B109 31] ⟨61, [(0, VL D_ m_ d_), (3, .own 3 0), (4, VL none 0 0), (5, I6 3), (9, I3 (((xs.getD j.toNat opt0).2.1).getD q.toNat 0)), (10, I6 2), (36, VL A18 ((xs.getD j.toNat opt0).2.1.length) c18), (37, I6 (((xs.getD j.toNat opt0).2.1.length : Nat) : Int)), (38, I6 q), (44, I6 2), (45, VB true), (48, VL D_ m_ d_), (49, I3 (((xs.getD j.toNat opt0).2.1).getD q.toNat 0)), (50, I6 2), (51, I6 16), (52, I3 (bshr .u32 (((xs.getD j.toNat opt0).2.1).getD q.toNat 0) 16)), (53, I8 (IntKind.u8.wrap (bshr .u32 (((xs.getD j.toNat opt0).2.1).getD q.toNat 0) 16)))], [(3, ⟨65, [I6 ((xs.getD j.toNat opt0).1), VL A18 ((xs.getD j.toNat opt0).2.1.length) c18, VT ((xs.getD j.toNat opt0).2.2)]⟩)]⟩ ?_
        refine Lt 54 5 1 1 [N8 (IntKind.u8.wrap (bshr .u32 (((xs.getD j.toNat opt0).2.1).getD q.toNat 0) 16))] ?_
        intro A68
        refine Ap 20 _ 22 1 (N8 0) (.tmp 48) (.tmp 54) m_ d_ 1 1 D_ A68 [N8 (IntKind.u8.wrap (bshr .u32 (((xs.getD j.toNat opt0).2.1).getD q.toNat 0) 16))] (.inl rfl) (by kernel_rfl) (Ar 54 rfl) (Br 54 rfl) (ones (by kernel_rfl)) (by omega) ?_
        intro A69 c69 hc69
        refine Tc [54] (cs' := (p_ ++ [IntKind.u8.wrap (bshr .u32 (((xs.getD j.toNat opt0).2.1).getD q.toNat 0) 16)]).map (Value.int .u8)) (by simp) ?_
        refine Rn 9 (.ex .normal) [.loop J67, .blk 2, .blk 1, Qs B109 1959, .loop J62, .blk 0, Qs B109 31] ⟨61, [(0, VL A69 (m_ + 1) c69), (3, .own 3 0), (4, VL none 0 0), (5, I6 3), (9, I3 (((xs.getD j.toNat opt0).2.1).getD q.toNat 0)), (10, I6 1), (36, VL A18 ((xs.getD j.toNat opt0).2.1.length) c18), (37, I6 (((xs.getD j.toNat opt0).2.1.length : Nat) : Int)), (38, I6 q), (44, I6 2), (45, VB true), (46, I6 2), (47, I6 1), (48, VL D_ m_ d_), (49, I3 (((xs.getD j.toNat opt0).2.1).getD q.toNat 0)), (50, I6 2), (51, I6 16), (52, I3 (bshr .u32 (((xs.getD j.toNat opt0).2.1).getD q.toNat 0) 16)), (53, I8 (IntKind.u8.wrap (bshr .u32 (((xs.getD j.toNat opt0).2.1).getD q.toNat 0) 16))), (54, VL A68 1 1), (55, VL A69 (m_ + 1) c69)], [(3, ⟨65, [I6 ((xs.getD j.toNat opt0).1), VL A18 ((xs.getD j.toNat opt0).2.1.length) c18, VT ((xs.getD j.toNat opt0).2.2)]⟩)]⟩ ?_
        refine X.again (hJ67 _ _ _ ?_)
        refine RX.succ fun J70 hJ70 => ?_
        refine Rn 19 (Qo B109 501348 6) [.blk 3, Qs B109 250675, .loop J70, .blk 2, .blk 1, Qs B109 1959, .loop J62, .blk 0, Qs B109 31] ⟨61, [(0, VL A69 (m_ + 1) c69), (3, .own 3 0), (4, VL none 0 0), (5, I6 3), (9, I3 (((xs.getD j.toNat opt0).2.1).getD q.toNat 0)), (10, I6 1), (36, VL A18 ((xs.getD j.toNat opt0).2.1.length) c18), (37, I6 (((xs.getD j.toNat opt0).2.1.length : Nat) : Int)), (38, I6 q), (44, I6 1), (45, VB true), (46, I6 2), (47, I6 1), (48, VL A69 (m_ + 1) c69), (49, I3 (((xs.getD j.toNat opt0).2.1).getD q.toNat 0)), (50, I6 1), (51, I6 8), (52, I3 (bshr .u32 (((xs.getD j.toNat opt0).2.1).getD q.toNat 0) 8)), (53, I8 (IntKind.u8.wrap (bshr .u32 (((xs.getD j.toNat opt0).2.1).getD q.toNat 0) 8))), (54, VL A68 1 1), (55, VL A69 (m_ + 1) c69)], [(3, ⟨65, [I6 ((xs.getD j.toNat opt0).1), VL A18 ((xs.getD j.toNat opt0).2.1.length) c18, VT ((xs.getD j.toNat opt0).2.2)]⟩)]⟩ ?_
        refine Lt 54 5 1 1 [N8 (IntKind.u8.wrap (bshr .u32 (((xs.getD j.toNat opt0).2.1).getD q.toNat 0) 8))] ?_
        intro A71
        refine Ap 20 _ 22 1 (N8 0) (.tmp 48) (.tmp 54) (m_ + 1) c69 1 1 A69 A71 [N8 (IntKind.u8.wrap (bshr .u32 (((xs.getD j.toNat opt0).2.1).getD q.toNat 0) 8))] (.inl rfl) (by kernel_rfl) (Ar 54 rfl) (Br 54 rfl) (ones (by kernel_rfl)) (by omega) ?_
        intro A72 c72 hc72
        refine Tc [54] (cs' := (p_ ++ [IntKind.u8.wrap (bshr .u32 (((xs.getD j.toNat opt0).2.1).getD q.toNat 0) 16)] ++ [IntKind.u8.wrap (bshr .u32 (((xs.getD j.toNat opt0).2.1).getD q.toNat 0) 8)]).map (Value.int .u8)) (by simp) ?_
        refine Rn 9 (.ex .normal) [.loop J70, .blk 2, .blk 1, Qs B109 1959, .loop J62, .blk 0, Qs B109 31] ⟨61, [(0, VL A72 (m_ + 1 + 1) c72), (3, .own 3 0), (4, VL none 0 0), (5, I6 3), (9, I3 (((xs.getD j.toNat opt0).2.1).getD q.toNat 0)), (10, I6 0), (36, VL A18 ((xs.getD j.toNat opt0).2.1.length) c18), (37, I6 (((xs.getD j.toNat opt0).2.1.length : Nat) : Int)), (38, I6 q), (44, I6 1), (45, VB true), (46, I6 1), (47, I6 0), (48, VL A69 (m_ + 1) c69), (49, I3 (((xs.getD j.toNat opt0).2.1).getD q.toNat 0)), (50, I6 1), (51, I6 8), (52, I3 (bshr .u32 (((xs.getD j.toNat opt0).2.1).getD q.toNat 0) 8)), (53, I8 (IntKind.u8.wrap (bshr .u32 (((xs.getD j.toNat opt0).2.1).getD q.toNat 0) 8))), (54, VL A71 1 1), (55, VL A72 (m_ + 1 + 1) c72)], [(3, ⟨65, [I6 ((xs.getD j.toNat opt0).1), VL A18 ((xs.getD j.toNat opt0).2.1.length) c18, VT ((xs.getD j.toNat opt0).2.2)]⟩)]⟩ ?_
        refine X.again (hJ70 _ _ _ ?_)
        refine RX.succ fun J73 hJ73 => ?_
        refine Rn 19 (Qo B109 501348 6) [.blk 3, Qs B109 250675, .loop J73, .blk 2, .blk 1, Qs B109 1959, .loop J62, .blk 0, Qs B109 31] ⟨61, [(0, VL A72 (m_ + 1 + 1) c72), (3, .own 3 0), (4, VL none 0 0), (5, I6 3), (9, I3 (((xs.getD j.toNat opt0).2.1).getD q.toNat 0)), (10, I6 0), (36, VL A18 ((xs.getD j.toNat opt0).2.1.length) c18), (37, I6 (((xs.getD j.toNat opt0).2.1.length : Nat) : Int)), (38, I6 q), (44, I6 0), (45, VB true), (46, I6 1), (47, I6 0), (48, VL A72 (m_ + 1 + 1) c72), (49, I3 (((xs.getD j.toNat opt0).2.1).getD q.toNat 0)), (50, I6 0), (51, I6 0), (52, I3 (bshr .u32 (((xs.getD j.toNat opt0).2.1).getD q.toNat 0) 0)), (53, I8 (IntKind.u8.wrap (bshr .u32 (((xs.getD j.toNat opt0).2.1).getD q.toNat 0) 0))), (54, VL A71 1 1), (55, VL A72 (m_ + 1 + 1) c72)], [(3, ⟨65, [I6 ((xs.getD j.toNat opt0).1), VL A18 ((xs.getD j.toNat opt0).2.1.length) c18, VT ((xs.getD j.toNat opt0).2.2)]⟩)]⟩ ?_
        refine Lt 54 5 1 1 [N8 (IntKind.u8.wrap (bshr .u32 (((xs.getD j.toNat opt0).2.1).getD q.toNat 0) 0))] ?_
        intro A74
        refine Ap 20 _ 22 1 (N8 0) (.tmp 48) (.tmp 54) (m_ + 1 + 1) c72 1 1 A72 A74 [N8 (IntKind.u8.wrap (bshr .u32 (((xs.getD j.toNat opt0).2.1).getD q.toNat 0) 0))] (.inl rfl) (by kernel_rfl) (Ar 54 rfl) (Br 54 rfl) (ones (by kernel_rfl)) (by omega) ?_
        intro A75 c75 hc75
        refine Tc [54] (cs' := (p_ ++ [IntKind.u8.wrap (bshr .u32 (((xs.getD j.toNat opt0).2.1).getD q.toNat 0) 16)] ++ [IntKind.u8.wrap (bshr .u32 (((xs.getD j.toNat opt0).2.1).getD q.toNat 0) 8)] ++ [IntKind.u8.wrap (bshr .u32 (((xs.getD j.toNat opt0).2.1).getD q.toNat 0) 0)]).map (Value.int .u8)) (by simp) ?_
        refine Rn 9 (.ex .normal) [.loop J73, .blk 2, .blk 1, Qs B109 1959, .loop J62, .blk 0, Qs B109 31] ⟨61, [(0, VL A75 (m_ + 1 + 1 + 1) c75), (3, .own 3 0), (4, VL none 0 0), (5, I6 3), (9, I3 (((xs.getD j.toNat opt0).2.1).getD q.toNat 0)), (10, I6 (-1)), (36, VL A18 ((xs.getD j.toNat opt0).2.1.length) c18), (37, I6 (((xs.getD j.toNat opt0).2.1.length : Nat) : Int)), (38, I6 q), (44, I6 0), (45, VB true), (46, I6 0), (47, I6 (-1)), (48, VL A72 (m_ + 1 + 1) c72), (49, I3 (((xs.getD j.toNat opt0).2.1).getD q.toNat 0)), (50, I6 0), (51, I6 0), (52, I3 (bshr .u32 (((xs.getD j.toNat opt0).2.1).getD q.toNat 0) 0)), (53, I8 (IntKind.u8.wrap (bshr .u32 (((xs.getD j.toNat opt0).2.1).getD q.toNat 0) 0))), (54, VL A74 1 1), (55, VL A75 (m_ + 1 + 1 + 1) c75)], [(3, ⟨65, [I6 ((xs.getD j.toNat opt0).1), VL A18 ((xs.getD j.toNat opt0).2.1.length) c18, VT ((xs.getD j.toNat opt0).2.2)]⟩)]⟩ ?_
        refine X.again (hJ73 _ _ _ ?_)
        refine RX.succ fun J76 hJ76 => ?_
        refine Tr [20] ?_
        have e1 : IntKind.i64.wrap (q + 1) = q + 1 := wi64 (by omega) (by omega)
        have e0 : (q + 1).toNat = q.toNat + 1 := by omega
        exact Rn 18 (.ex .normal) [.loop J62, .blk 0, Qs B109 31] _ (X.again (hJ62 _ _ _ _ ⟨A75, c75, m_ + 1 + 1 + 1, p_ ++ [IntKind.u8.wrap (bshr .u32 (((xs.getD j.toNat opt0).2.1).getD q.toNat 0) 16)] ++ [IntKind.u8.wrap (bshr .u32 (((xs.getD j.toNat opt0).2.1).getD q.toNat 0) 8)] ++ [IntKind.u8.wrap (bshr .u32 (((xs.getD j.toNat opt0).2.1).getD q.toNat 0) 0)], IntKind.i64.wrap (q + 1), rfl, rfl, rfl, ⟨by omega, by omega, by rw [e1, e0, ← put_num hp (by omega) (show (szk (xs.getD (j).toNat opt0).1).toNat = 3 by rw [hsz_]; rfl) (be3 (by omega)).symm]; simp only [List.append_assoc, List.cons_append, List.nil_append], by rw [e1]; omega⟩, rfl⟩ (by rw [e1]; omega)))
       ·
        refine Rb 11 (Qo B109 62 3) 4 [Qs B109 63] [(57, VL D_ m_ d_), (59, VT ((xs.getD j.toNat opt0).2.2))] [0, 5, 38] [] [3] ?_
        refine X.appendStr 20 (RR 5 1 D_ m_ d_ ((p_).map (Value.int .u8))) 22 9 (x := .tmp 57) (y := .tmp 59) (n := m_) (c := d_) (A := D_) (b := (xs.getD j.toNat opt0).2.2) (by kernel_rfl) (by kernel_rfl) (by kernel_rfl) (by kernel_rfl) (by kernel_rfl) (by kernel_rfl) rfl (by kernel_rfl) (.inl rfl) rfl rfl (by omega) ?_
        intro A77 c77 hc77
        refine Tc [] (cs' := (p_ ++ bytesL ((xs.getD j.toNat opt0).2.2)).map (Value.int .u8)) (by simp) ?_
        refine Rn 4 (.ex .ret) [] ⟨61, [(4, VL A77 (m_ + ((xs.getD j.toNat opt0).2.2).size) c77)], []⟩ ?_
        refine fin19 _ _ _ _ [.slice A77 (m_ + ((xs.getD j.toNat opt0).2.2).size) c77] [] (.inl rfl) (by kernel_rfl) (by kernel_rfl) ?_
        have e1 : IntKind.i64.wrap (j + 1) = j + 1 := wi64 (by omega) (by omega)
        have e0 : (j + 1).toNat = j.toNat + 1 := by omega
        exact Rn 8 (.ex .normal) [.loop J14, .blk 3, Qs B49 127] _ (X.again (hJ14 _ _ _ _ ⟨A77, c77, m_ + ((xs.getD j.toNat opt0).2.2).size, p_ ++ bytesL ((xs.getD j.toNat opt0).2.2), IntKind.i64.wrap (j + 1), rfl, rfl, rfl, ⟨by omega, by omega, by rw [e1, e0, bodyO_step (by omega), ← hl]; exact (put_done hp (by omega)), by rw [e1, e0, sumO_step (by omega)]; omega⟩, rfl⟩ (by rw [e1]; omega)))
      ·
       refine Ra 6 (Qc B108 863) 1 [] [(10, VB (((xs.getD j.toNat opt0).1) == 174))] ?_
       refine Se 10 rfl ?_ ?_ <;> intro h78
       ·
        refine Rc 11 (.ex .ret) 2 [] [(2, I6 3), (4, I6 3)] [10] ?_
        refine fin20 _ _ _ _ [N6 3, N6 0, N6 3] [(3, ⟨65, [I6 ((xs.getD j.toNat opt0).1), VL A18 ((xs.getD j.toNat opt0).2.1.length) c18, VT ((xs.getD j.toNat opt0).2.2)]⟩)] (.inl rfl) (by kernel_rfl) (by kernel_rfl) ?_
        have hsz_ : szk (xs.getD (j).toNat opt0).1 = 3 := by rw [show (xs.getD (j).toNat opt0).1 = 174 by assumption]; rfl
        have hol_ : optLen (xs.getD (j).toNat opt0) = 2 + ((xs.getD (j).toNat opt0).2.1.length : Int) * 3 + ((xs.getD (j).toNat opt0).2.2.size : Int) := by unfold optLen; rw [hsz_]
        refine Ra 20 (Qo B109 14 9) 1 [Qs B109 15] [(5, I6 3), (18, VL B_ n_ c_), (21, I8 (IntKind.u8.wrap ((xs.getD j.toNat opt0).1))), (26, I6 (IntKind.i64.wrap ((((xs.getD j.toNat opt0).2.1.length : Nat) : Int) * 3)))] ?_
        refine Kn 26 .i64 (((xs.getD (j).toNat opt0).2.1.length : Int) * 3) rfl (wi64 (by omega) (by omega)) ?_
        refine Ra 1 (Qo B109 14 10) 0 [] [(27, I6 (IntKind.i64.wrap (2 + (((xs.getD (j).toNat opt0).2.1.length : Int) * 3))))] ?_
        refine Kn 27 .i64 (2 + (((xs.getD (j).toNat opt0).2.1.length : Int) * 3)) rfl (wi64 (by omega) (by omega)) ?_
        refine Ra 4 (Qo B109 14 14) 0 [] [(31, I6 (IntKind.i64.wrap ((2 + (((xs.getD (j).toNat opt0).2.1.length : Int) * 3)) + (((xs.getD j.toNat opt0).2.2).size : Int))))] ?_
        refine Kn 31 .i64 ((2 + (((xs.getD (j).toNat opt0).2.1.length : Int) * 3)) + (((xs.getD j.toNat opt0).2.2).size : Int)) rfl (wi64 (by omega) (by omega)) ?_
        refine Ra 1 (Qo B109 14 15) 0 [] [(32, I8 (IntKind.u8.wrap ((2 + (((xs.getD (j).toNat opt0).2.1.length : Int) * 3)) + (((xs.getD j.toNat opt0).2.2).size : Int))))] ?_
        refine Lt 33 5 1 2 [N8 (IntKind.u8.wrap ((xs.getD j.toNat opt0).1)), N8 (IntKind.u8.wrap ((2 + (((xs.getD (j).toNat opt0).2.1.length : Int) * 3)) + (((xs.getD j.toNat opt0).2.2).size : Int)))] ?_
        intro A79
        refine Ra 0 (Qo B109 14 16) 0 [] [(33, VL A79 2 2)] ?_
        refine Ap 20 _ 22 1 (N8 0) (.tmp 18) (.tmp 33) n_ c_ 2 2 B_ A79 [N8 (IntKind.u8.wrap ((xs.getD j.toNat opt0).1)), N8 (IntKind.u8.wrap ((2 + (((xs.getD (j).toNat opt0).2.1.length : Int) * 3)) + (((xs.getD j.toNat opt0).2.2).size : Int)))] (.inl rfl) (by kernel_rfl) (Ar 33 rfl) (Br 33 rfl) (ones (by kernel_rfl)) (by omega) ?_
        intro A80 c80 hc80
        refine Tc [33] (cs' := (l_ ++ [IntKind.u8.wrap ((xs.getD j.toNat opt0).1), IntKind.u8.wrap ((2 + (((xs.getD (j).toNat opt0).2.1.length : Int) * 3)) + (((xs.getD j.toNat opt0).2.2).size : Int))]).map (Value.int .u8)) (by simp) ?_
        refine Tr [20] ?_
        refine Rn 13 (Qc B109 122) [.blk 0, Qs B109 31] _ (X.loopJ (fun m s R' G' => ∃ (D_ : Option Addr) (d_ m_ : Nat) (p_ : List Int) (q : Int), s = ⟨61, [(0, VL D_ m_ d_), (3, .own 3 0), (4, VL none 0 0), (5, I6 3), (36, VL A18 ((xs.getD j.toNat opt0).2.1.length) c18), (37, I6 (((xs.getD j.toNat opt0).2.1.length : Nat) : Int)), (38, I6 q)], [(3, ⟨65, [I6 ((xs.getD j.toNat opt0).1), VL A18 ((xs.getD j.toNat opt0).2.1.length) c18, VT ((xs.getD j.toNat opt0).2.2)]⟩)]⟩ ∧ R' = [(20, RR 5 1 D_ m_ d_ ((p_).map (Value.int .u8)))] ∧ G1 = G' ∧ (0 ≤ q ∧ q ≤ ((xs.getD (j).toNat opt0).2.1.length : Int) ∧ p_ = l_ ++ putH (xs.getD (j).toNat opt0) ++ numsB (xs.getD (j).toNat opt0).1 ((xs.getD (j).toNat opt0).2.1.take q.toNat) ∧ (m_ : Int) = n_ + 2 + q * 3) ∧ m = (((xs.getD (j).toNat opt0).2.1.length : Int) - q).toNat) _ ⟨A80, c80, n_ + 2, l_ ++ [IntKind.u8.wrap ((xs.getD j.toNat opt0).1), IntKind.u8.wrap ((2 + (((xs.getD (j).toNat opt0).2.1.length : Int) * 3)) + (((xs.getD j.toNat opt0).2.2).size : Int))], 0, rfl, rfl, rfl, ⟨by omega, by omega, put_head (o := (xs.getD (j).toNat opt0)) l_ rfl (by rw [hol_]), by omega⟩, rfl⟩ ?_)
        rintro m81 s81 R81 G81 ⟨D_, d_, m_, p_, q, rfl, rfl, rfl, hF81, rfl⟩ J81 hJ81
        obtain ⟨hq0, hq1, hp, hm_⟩ := hF81
        refine Ra 6 (Qc B109 978) 0 [Qs B109 979] [(39, VB (decide (q < (((xs.getD j.toNat opt0).2.1.length : Nat) : Int))))] ?_
        refine Sd 39 rfl ?_ ?_ <;> intro h82
        ·
         refine Ra 7 (Qo B109 7832 0) 1 [Qs B109 7833, .blk 1, Qs B109 1959] [] ?_
         refine Ix 63 29 1 A18 ((xs.getD j.toNat opt0).2.1.length) c18 .i64 q (.tmp 36) (.tmp 38) (by omega) (by omega) (fun _ _ => rowAt.so hr18 (by omega)) ?_
         obtain ⟨at85, lo85, hi85⟩ := At.int [(20, ⟨5, 1, .slice D_ m_ d_, m_, (p_).map (Value.int .u8)⟩)] hr18 ((q).toNat) (by omega)
         simp only [IntKind.lo, IntKind.hi] at lo85 hi85
         refine Ld 29 A18 ((q).toNat * 1) (.tmp 40) (N3 (((xs.getD j.toNat opt0).2.1).getD q.toNat 0)) [N3 (((xs.getD j.toNat opt0).2.1).getD q.toNat 0)] at85 ?_
         refine Ra 11 (Qc B109 31334) 1 [.blk 2] [(9, I3 (((xs.getD j.toNat opt0).2.1).getD q.toNat 0)), (10, I6 2)] ?_
         refine X.rounds 6 ?_
         refine RX.succ fun J86 hJ86 => ?_
         refine Rn 19 (Qo B109 501348 6) [.blk 3, Qs B109 250675, .loop J86, .blk 2, .blk 1, Qs B109 1959, .loop J81, .blk 0, Qs B109 31] ⟨61, [(0, VL D_ m_ d_), (3, .own 3 0), (4, VL none 0 0), (5, I6 3), (9, I3 (((xs.getD j.toNat opt0).2.1).getD q.toNat 0)), (10, I6 2), (36, VL A18 ((xs.getD j.toNat opt0).2.1.length) c18), (37, I6 (((xs.getD j.toNat opt0).2.1.length : Nat) : Int)), (38, I6 q), (44, I6 2), (45, VB true), (48, VL D_ m_ d_), (49, I3 (((xs.getD j.toNat opt0).2.1).getD q.toNat 0)), (50, I6 2), (51, I6 16), (52, I3 (bshr .u32 (((xs.getD j.toNat opt0).2.1).getD q.toNat 0) 16)), (53, I8 (IntKind.u8.wrap (bshr .u32 (((xs.getD j.toNat opt0).2.1).getD q.toNat 0) 16)))], [(3, ⟨65, [I6 ((xs.getD j.toNat opt0).1), VL A18 ((xs.getD j.toNat opt0).2.1.length) c18, VT ((xs.getD j.toNat opt0).2.2)]⟩)]⟩ ?_
         refine Lt 54 5 1 1 [N8 (IntKind.u8.wrap (bshr .u32 (((xs.getD j.toNat opt0).2.1).getD q.toNat 0) 16))] ?_
         intro A87
         refine Ap 20 _ 22 1 (N8 0) (.tmp 48) (.tmp 54) m_ d_ 1 1 D_ A87 [N8 (IntKind.u8.wrap (bshr .u32 (((xs.getD j.toNat opt0).2.1).getD q.toNat 0) 16))] (.inl rfl) (by kernel_rfl) (Ar 54 rfl) (Br 54 rfl) (ones (by kernel_rfl)) (by omega) ?_
         intro A88 c88 hc88
         refine Tc [54] (cs' := (p_ ++ [IntKind.u8.wrap (bshr .u32 (((xs.getD j.toNat opt0).2.1).getD q.toNat 0) 16)]).map (Value.int .u8)) (by simp) ?_
         refine Rn 9 (.ex .normal) [.loop J86, .blk 2, .blk 1, Qs B109 1959, .loop J81, .blk 0, Qs B109 31] ⟨61, [(0, VL A88 (m_ + 1) c88), (3, .own 3 0), (4, VL none 0 0), (5, I6 3), (9, I3 (((xs.getD j.toNat opt0).2.1).getD q.toNat 0)), (10, I6 1), (36, VL A18 ((xs.getD j.toNat opt0).2.1.length) c18), (37, I6 (((xs.getD j.toNat opt0).2.1.length : Nat) : Int)), (38, I6 q), (44, I6 2), (45, VB true), (46, I6 2), (47, I6 1), (48, VL D_ m_ d_), (49, I3 (((xs.getD j.toNat opt0).2.1).getD q.toNat 0)), (50, I6 2), (51, I6 16), (52, I3 (bshr .u32 (((xs.getD j.toNat opt0).2.1).getD q.toNat 0) 16)), (53, I8 (IntKind.u8.wrap (bshr .u32 (((xs.getD j.toNat opt0).2.1).getD q.toNat 0) 16))), (54, VL A87 1 1), (55, VL A88 (m_ + 1) c88)], [(3, ⟨65, [I6 ((xs.getD j.toNat opt0).1), VL A18 ((xs.getD j.toNat opt0).2.1.length) c18, VT ((xs.getD j.toNat opt0).2.2)]⟩)]⟩ ?_
         refine X.again (hJ86 _ _ _ ?_)
         refine RX.succ fun J89 hJ89 => ?_
         refine Rn 19 (Qo B109 501348 6) [.blk 3, Qs B109 250675, .loop J89, .blk 2, .blk 1, Qs B109 1959, .loop J81, .blk 0, Qs B109 31] ⟨61, [(0, VL A88 (m_ + 1) c88), (3, .own 3 0), (4, VL none 0 0), (5, I6 3), (9, I3 (((xs.getD j.toNat opt0).2.1).getD q.toNat 0)), (10, I6 1), (36, VL A18 ((xs.getD j.toNat opt0).2.1.length) c18), (37, I6 (((xs.getD j.toNat opt0).2.1.length : Nat) : Int)), (38, I6 q), (44, I6 1), (45, VB true), (46, I6 2), (47, I6 1), (48, VL A88 (m_ + 1) c88), (49, I3 (((xs.getD j.toNat opt0).2.1).getD q.toNat 0)), (50, I6 1), (51, I6 8), (52, I3 (bshr .u32 (((xs.getD j.toNat opt0).2.1).getD q.toNat 0) 8)), (53, I8 (IntKind.u8.wrap (bshr .u32 (((xs.getD j.toNat opt0).2.1).getD q.toNat 0) 8))), (54, VL A87 1 1), (55, VL A88 (m_ + 1) c88)], [(3, ⟨65, [I6 ((xs.getD j.toNat opt0).1), VL A18 ((xs.getD j.toNat opt0).2.1.length) c18, VT ((xs.getD j.toNat opt0).2.2)]⟩)]⟩ ?_
         refine Lt 54 5 1 1 [N8 (IntKind.u8.wrap (bshr .u32 (((xs.getD j.toNat opt0).2.1).getD q.toNat 0) 8))] ?_
         intro A90
         refine Ap 20 _ 22 1 (N8 0) (.tmp 48) (.tmp 54) (m_ + 1) c88 1 1 A88 A90 [N8 (IntKind.u8.wrap (bshr .u32 (((xs.getD j.toNat opt0).2.1).getD q.toNat 0) 8))] (.inl rfl) (by kernel_rfl) (Ar 54 rfl) (Br 54 rfl) (ones (by kernel_rfl)) (by omega) ?_
         intro A91 c91 hc91
         refine Tc [54] (cs' := (p_ ++ [IntKind.u8.wrap (bshr .u32 (((xs.getD j.toNat opt0).2.1).getD q.toNat 0) 16)] ++ [IntKind.u8.wrap (bshr .u32 (((xs.getD j.toNat opt0).2.1).getD q.toNat 0) 8)]).map (Value.int .u8)) (by simp) ?_
         refine Rn 9 (.ex .normal) [.loop J89, .blk 2, .blk 1, Qs B109 1959, .loop J81, .blk 0, Qs B109 31] ⟨61, [(0, VL A91 (m_ + 1 + 1) c91), (3, .own 3 0), (4, VL none 0 0), (5, I6 3), (9, I3 (((xs.getD j.toNat opt0).2.1).getD q.toNat 0)), (10, I6 0), (36, VL A18 ((xs.getD j.toNat opt0).2.1.length) c18), (37, I6 (((xs.getD j.toNat opt0).2.1.length : Nat) : Int)), (38, I6 q), (44, I6 1), (45, VB true), (46, I6 1), (47, I6 0), (48, VL A88 (m_ + 1) c88), (49, I3 (((xs.getD j.toNat opt0).2.1).getD q.toNat 0)), (50, I6 1), (51, I6 8), (52, I3 (bshr .u32 (((xs.getD j.toNat opt0).2.1).getD q.toNat 0) 8)), (53, I8 (IntKind.u8.wrap (bshr .u32 (((xs.getD j.toNat opt0).2.1).getD q.toNat 0) 8))), (54, VL A90 1 1), (55, VL A91 (m_ + 1 + 1) c91)], [(3, ⟨65, [I6 ((xs.getD j.toNat opt0).1), VL A18 ((xs.getD j.toNat opt0).2.1.length) c18, VT ((xs.getD j.toNat opt0).2.2)]⟩)]⟩ ?_
         refine X.again (hJ89 _ _ _ ?_)
         refine RX.succ fun J92 hJ92 => ?_
         refine Rn 19 (Qo B109 501348 6) [.blk 3, Qs B109 250675, .loop J92, .blk 2, .blk 1, Qs B109 1959, .loop J81, .blk 0, Qs B109 31] ⟨61, [(0, VL A91 (m_ + 1 + 1) c91), (3, .own 3 0), (4, VL none 0 0), (5, I6 3), (9, I3 (((xs.getD j.toNat opt0).2.1).getD q.toNat 0)), (10, I6 0), (36, VL A18 ((xs.getD j.toNat opt0).2.1.length) c18), (37, I6 (((xs.getD j.toNat opt0).2.1.length : Nat) : Int)), (38, I6 q), (44, I6 0), (45, VB true), (46, I6 1), (47, I6 0), (48, VL A91 (m_ + 1 + 1) c91), (49, I3 (((xs.getD j.toNat opt0).2.1).getD q.toNat 0)), (50, I6 0), (51, I6 0), (52, I3 (bshr .u32 (((xs.getD j.toNat opt0).2.1).getD q.toNat 0) 0)), (53, I8 (IntKind.u8.wrap (bshr .u32 (((xs.getD j.toNat opt0).2.1).getD q.toNat 0) 0))), (54, VL A90 1 1), (55, VL A91 (m_ + 1 + 1) c91)], [(3, ⟨65, [I6 ((xs.getD j.toNat opt0).1), VL A18 ((xs.getD j.toNat opt0).2.1.length) c18, VT ((xs.getD j.toNat opt0).2.2)]⟩)]⟩ ?_
         refine Lt 54 5 1 1 [N8 (IntKind.u8.wrap (bshr .u32 (((xs.getD j.toNat opt0).2.1).getD q.toNat 0) 0))] ?_
         intro A93
         refine Ap 20 _ 22 1 (N8 0) (.tmp 48) (.tmp 54) (m_ + 1 + 1) c91 1 1 A91 A93 [N8 (IntKind.u8.wrap (bshr .u32 (((xs.getD j.toNat opt0).2.1).getD q.toNat 0) 0))] (.inl rfl) (by kernel_rfl) (Ar 54 rfl) (Br 54 rfl) (ones (by kernel_rfl)) (by omega) ?_
         intro A94 c94 hc94
         refine Tc [54] (cs' := (p_ ++ [IntKind.u8.wrap (bshr .u32 (((xs.getD j.toNat opt0).2.1).getD q.toNat 0) 16)] ++ [IntKind.u8.wrap (bshr .u32 (((xs.getD j.toNat opt0).2.1).getD q.toNat 0) 8)] ++ [IntKind.u8.wrap (bshr .u32 (((xs.getD j.toNat opt0).2.1).getD q.toNat 0) 0)]).map (Value.int .u8)) (by simp) ?_
         refine Rn 9 (.ex .normal) [.loop J92, .blk 2, .blk 1, Qs B109 1959, .loop J81, .blk 0, Qs B109 31] ⟨61, [(0, VL A94 (m_ + 1 + 1 + 1) c94), (3, .own 3 0), (4, VL none 0 0), (5, I6 3), (9, I3 (((xs.getD j.toNat opt0).2.1).getD q.toNat 0)), (10, I6 (-1)), (36, VL A18 ((xs.getD j.toNat opt0).2.1.length) c18), (37, I6 (((xs.getD j.toNat opt0).2.1.length : Nat) : Int)), (38, I6 q), (44, I6 0), (45, VB true), (46, I6 0), (47, I6 (-1)), (48, VL A91 (m_ + 1 + 1) c91), (49, I3 (((xs.getD j.toNat opt0).2.1).getD q.toNat 0)), (50, I6 0), (51, I6 0), (52, I3 (bshr .u32 (((xs.getD j.toNat opt0).2.1).getD q.toNat 0) 0)), (53, I8 (IntKind.u8.wrap (bshr .u32 (((xs.getD j.toNat opt0).2.1).getD q.toNat 0) 0))), (54, VL A93 1 1), (55, VL A94 (m_ + 1 + 1 + 1) c94)], [(3, ⟨65, [I6 ((xs.getD j.toNat opt0).1), VL A18 ((xs.getD j.toNat opt0).2.1.length) c18, VT ((xs.getD j.toNat opt0).2.2)]⟩)]⟩ ?_
         refine X.again (hJ92 _ _ _ ?_)
         refine RX.succ fun J95 hJ95 => ?_
         refine Tr [20] ?_
         have e1 : IntKind.i64.wrap (q + 1) = q + 1 := wi64 (by omega) (by omega)
         have e0 : (q + 1).toNat = q.toNat + 1 := by omega
         exact Rn 18 (.ex .normal) [.loop J81, .blk 0, Qs B109 31] _ (X.again (hJ81 _ _ _ _ ⟨A94, c94, m_ + 1 + 1 + 1, p_ ++ [IntKind.u8.wrap (bshr .u32 (((xs.getD j.toNat opt0).2.1).getD q.toNat 0) 16)] ++ [IntKind.u8.wrap (bshr .u32 (((xs.getD j.toNat opt0).2.1).getD q.toNat 0) 8)] ++ [IntKind.u8.wrap (bshr .u32 (((xs.getD j.toNat opt0).2.1).getD q.toNat 0) 0)], IntKind.i64.wrap (q + 1), rfl, rfl, rfl, ⟨by omega, by omega, by rw [e1, e0, ← put_num hp (by omega) (show (szk (xs.getD (j).toNat opt0).1).toNat = 3 by rw [hsz_]; rfl) (be3 (by omega)).symm]; simp only [List.append_assoc, List.cons_append, List.nil_append], by rw [e1]; omega⟩, rfl⟩ (by rw [e1]; omega)))
        ·
         refine Rb 11 (Qo B109 62 3) 4 [Qs B109 63] [(57, VL D_ m_ d_), (59, VT ((xs.getD j.toNat opt0).2.2))] [0, 5, 38] [] [3] ?_
         refine X.appendStr 20 (RR 5 1 D_ m_ d_ ((p_).map (Value.int .u8))) 22 9 (x := .tmp 57) (y := .tmp 59) (n := m_) (c := d_) (A := D_) (b := (xs.getD j.toNat opt0).2.2) (by kernel_rfl) (by kernel_rfl) (by kernel_rfl) (by kernel_rfl) (by kernel_rfl) (by kernel_rfl) rfl (by kernel_rfl) (.inl rfl) rfl rfl (by omega) ?_
         intro A96 c96 hc96
         refine Tc [] (cs' := (p_ ++ bytesL ((xs.getD j.toNat opt0).2.2)).map (Value.int .u8)) (by simp) ?_
         refine Rn 4 (.ex .ret) [] ⟨61, [(4, VL A96 (m_ + ((xs.getD j.toNat opt0).2.2).size) c96)], []⟩ ?_
         refine fin19 _ _ _ _ [.slice A96 (m_ + ((xs.getD j.toNat opt0).2.2).size) c96] [] (.inl rfl) (by kernel_rfl) (by kernel_rfl) ?_
         have e1 : IntKind.i64.wrap (j + 1) = j + 1 := wi64 (by omega) (by omega)
         have e0 : (j + 1).toNat = j.toNat + 1 := by omega
         exact Rn 8 (.ex .normal) [.loop J14, .blk 3, Qs B49 127] _ (X.again (hJ14 _ _ _ _ ⟨A96, c96, m_ + ((xs.getD j.toNat opt0).2.2).size, p_ ++ bytesL ((xs.getD j.toNat opt0).2.2), IntKind.i64.wrap (j + 1), rfl, rfl, rfl, ⟨by omega, by omega, by rw [e1, e0, bodyO_step (by omega), ← hl]; exact (put_done hp (by omega)), by rw [e1, e0, sumO_step (by omega)]; omega⟩, rfl⟩ (by rw [e1]; omega)))
       ·
        refine Rc 12 (.ex .ret) 2 [] [] [10] ?_
        refine fin20 _ _ _ _ [N6 0, N6 0, N6 0] [(3, ⟨65, [I6 ((xs.getD j.toNat opt0).1), VL A18 ((xs.getD j.toNat opt0).2.1.length) c18, VT ((xs.getD j.toNat opt0).2.2)]⟩)] (.inl rfl) (by kernel_rfl) (by kernel_rfl) ?_
        have hsz_ : szk (xs.getD (j).toNat opt0).1 = 0 := by unfold szk; rw [if_neg (by omega), if_neg (by omega), if_neg (by omega)]
        have hol_ : optLen (xs.getD (j).toNat opt0) = 2 + ((xs.getD (j).toNat opt0).2.1.length : Int) * 0 + ((xs.getD (j).toNat opt0).2.2.size : Int) := by unfold optLen; rw [hsz_]
        have hnl_ := hz_.2.2.2.2.2 hsz_
        refine Ra 20 (Qo B109 14 9) 1 [Qs B109 15] [(5, I6 0), (18, VL B_ n_ c_), (21, I8 (IntKind.u8.wrap ((xs.getD j.toNat opt0).1))), (26, I6 (IntKind.i64.wrap ((((xs.getD j.toNat opt0).2.1.length : Nat) : Int) * 0)))] ?_
        refine Kn 26 .i64 (((xs.getD (j).toNat opt0).2.1.length : Int) * 0) rfl (wi64 (by omega) (by omega)) ?_
        refine Ra 1 (Qo B109 14 10) 0 [] [(27, I6 (IntKind.i64.wrap (2 + (((xs.getD (j).toNat opt0).2.1.length : Int) * 0))))] ?_
        refine Kn 27 .i64 (2 + (((xs.getD (j).toNat opt0).2.1.length : Int) * 0)) rfl (wi64 (by omega) (by omega)) ?_
        refine Ra 4 (Qo B109 14 14) 0 [] [(31, I6 (IntKind.i64.wrap ((2 + (((xs.getD (j).toNat opt0).2.1.length : Int) * 0)) + (((xs.getD j.toNat opt0).2.2).size : Int))))] ?_
        refine Kn 31 .i64 ((2 + (((xs.getD (j).toNat opt0).2.1.length : Int) * 0)) + (((xs.getD j.toNat opt0).2.2).size : Int)) rfl (wi64 (by omega) (by omega)) ?_
        refine Ra 1 (Qo B109 14 15) 0 [] [(32, I8 (IntKind.u8.wrap ((2 + (((xs.getD (j).toNat opt0).2.1.length : Int) * 0)) + (((xs.getD j.toNat opt0).2.2).size : Int))))] ?_
        refine Lt 33 5 1 2 [N8 (IntKind.u8.wrap ((xs.getD j.toNat opt0).1)), N8 (IntKind.u8.wrap ((2 + (((xs.getD (j).toNat opt0).2.1.length : Int) * 0)) + (((xs.getD j.toNat opt0).2.2).size : Int)))] ?_
        intro A97
        refine Ra 0 (Qo B109 14 16) 0 [] [(33, VL A97 2 2)] ?_
        refine Ap 20 _ 22 1 (N8 0) (.tmp 18) (.tmp 33) n_ c_ 2 2 B_ A97 [N8 (IntKind.u8.wrap ((xs.getD j.toNat opt0).1)), N8 (IntKind.u8.wrap ((2 + (((xs.getD (j).toNat opt0).2.1.length : Int) * 0)) + (((xs.getD j.toNat opt0).2.2).size : Int)))] (.inl rfl) (by kernel_rfl) (Ar 33 rfl) (Br 33 rfl) (ones (by kernel_rfl)) (by omega) ?_
        intro A98 c98 hc98
        refine Tc [33] (cs' := (l_ ++ [IntKind.u8.wrap ((xs.getD j.toNat opt0).1), IntKind.u8.wrap ((2 + (((xs.getD (j).toNat opt0).2.1.length : Int) * 0)) + (((xs.getD j.toNat opt0).2.2).size : Int))]).map (Value.int .u8)) (by simp) ?_
        refine Rn 13 (Qc B109 122) [.blk 0, Qs B109 31] ⟨61, [(0, VL A98 (n_ + 2) c98), (3, .own 3 0), (4, VL none 0 0), (5, I6 0), (36, VL A18 ((xs.getD j.toNat opt0).2.1.length) c18), (37, I6 (((xs.getD j.toNat opt0).2.1.length : Nat) : Int)), (38, I6 0)], [(3, ⟨65, [I6 ((xs.getD j.toNat opt0).1), VL A18 ((xs.getD j.toNat opt0).2.1.length) c18, VT ((xs.getD j.toNat opt0).2.2)]⟩)]⟩ ?_
        refine X.rounds 2 ?_
        refine RX.succ fun J99 hJ99 => ?_
        refine Rn 6 (Qc B109 978) [Qs B109 979, .loop J99, .blk 0, Qs B109 31] ⟨61, [(0, VL A98 (n_ + 2) c98), (3, .own 3 0), (4, VL none 0 0), (5, I6 0), (36, VL A18 ((xs.getD j.toNat opt0).2.1.length) c18), (37, I6 (((xs.getD j.toNat opt0).2.1.length : Nat) : Int)), (38, I6 0), (39, VB (decide (0 < (((xs.getD j.toNat opt0).2.1.length : Nat) : Int))))], [(3, ⟨65, [I6 ((xs.getD j.toNat opt0).1), VL A18 ((xs.getD j.toNat opt0).2.1.length) c18, VT ((xs.getD j.toNat opt0).2.2)]⟩)]⟩ ?_
        refine X.isFalse 39 rfl (decide_eq_false (by omega)) ?_
        refine Rb 11 (Qo B109 62 3) 4 [Qs B109 63] [(57, VL A98 (n_ + 2) c98), (59, VT ((xs.getD j.toNat opt0).2.2))] [0, 5, 38] [] [3] ?_
        refine X.appendStr 20 (RR 5 1 A98 (n_ + 2) c98 ((l_ ++ [IntKind.u8.wrap ((xs.getD j.toNat opt0).1), IntKind.u8.wrap ((2 + (((xs.getD (j).toNat opt0).2.1.length : Int) * 0)) + (((xs.getD j.toNat opt0).2.2).size : Int))]).map (Value.int .u8))) 22 9 (x := .tmp 57) (y := .tmp 59) (n := n_ + 2) (c := c98) (A := A98) (b := (xs.getD j.toNat opt0).2.2) (by kernel_rfl) (by kernel_rfl) (by kernel_rfl) (by kernel_rfl) (by kernel_rfl) (by kernel_rfl) rfl (by kernel_rfl) (.inl rfl) rfl rfl (by omega) ?_
        intro A100 c100 hc100
        refine Tc [] (cs' := ((l_ ++ [IntKind.u8.wrap ((xs.getD j.toNat opt0).1), IntKind.u8.wrap ((2 + (((xs.getD (j).toNat opt0).2.1.length : Int) * 0)) + (((xs.getD j.toNat opt0).2.2).size : Int))]) ++ bytesL ((xs.getD j.toNat opt0).2.2)).map (Value.int .u8)) (by simp) ?_
        refine Rn 4 (.ex .ret) [] ⟨61, [(4, VL A100 (n_ + 2 + ((xs.getD j.toNat opt0).2.2).size) c100)], []⟩ ?_
        refine fin19 _ _ _ _ [.slice A100 (n_ + 2 + ((xs.getD j.toNat opt0).2.2).size) c100] [] (.inl rfl) (by kernel_rfl) (by kernel_rfl) ?_
        have e1 : IntKind.i64.wrap (j + 1) = j + 1 := wi64 (by omega) (by omega)
        have e0 : (j + 1).toNat = j.toNat + 1 := by omega
        exact Rn 8 (.ex .normal) [.loop J14, .blk 3, Qs B49 127] _ (X.again (hJ14 _ _ _ _ ⟨A100, c100, n_ + 2 + ((xs.getD j.toNat opt0).2.2).size, (l_ ++ [IntKind.u8.wrap ((xs.getD j.toNat opt0).1), IntKind.u8.wrap ((2 + (((xs.getD (j).toNat opt0).2.1.length : Int) * 0)) + (((xs.getD j.toNat opt0).2.2).size : Int))]) ++ bytesL ((xs.getD j.toNat opt0).2.2), IntKind.i64.wrap (j + 1), rfl, rfl, rfl, ⟨by omega, by omega, by rw [e1, e0, bodyO_step (by omega), ← hl]; exact (put_none (o := (xs.getD (j).toNat opt0)) hnl_ rfl (by rw [hol_])), by rw [e1, e0, sumO_step (by omega)]; omega⟩, rfl⟩ (by rw [e1]; omega)))
   ·
    rw [List.take_of_length_le (show xs.length ≤ j.toNat by omega)] at hl hn
    have hnl2_ : n_ = l_.length := by have hb_ := bodyO_len xs; rw [← hl] at hb_; omega
    refine Rn 8 (Qc B49 508) [.blk 5, Qs B49 255] _ (X.loopJ (fun m s R' G' => ∃ (E_ : Option Addr) (f_ o_ : Nat) (r_ : List Int), s = ⟨73, [(10, VL E_ o_ f_)], []⟩ ∧ R' = [(20, RR 5 1 E_ o_ f_ ((r_).map (Value.int .u8)))] ∧ G1 = G' ∧ (padZ r_ = padZ (bodyO xs) ∧ o_ = r_.length ∧ o_ + (4 - o_ % 4) % 4 ≤ 44) ∧ m = (4 - o_ % 4) % 4) _ ⟨B_, c_, n_, l_, rfl, rfl, rfl, ⟨by rw [hl], hnl2_, by omega⟩, rfl⟩ ?_)
    rintro m101 s101 R101 G101 ⟨E_, f_, o_, r_, rfl, rfl, rfl, hF101, rfl⟩ J101 hJ101
    obtain ⟨hpad, hn2, hob⟩ := hF101
    refine Ra 6 (Qo B49 4064 3) 0 [Qs B49 4065, Qs B49 2033] [(67, I6 (Int.tmod ((o_ : Nat) : Int) 4))] ?_
    refine Kn 67 .i64 (((o_ : Nat) : Int) % 4) rfl (Int.tmod_eq_emod_of_nonneg (by omega)) ?_
    refine Ra 3 (Qc B49 4065) 1 [] [(68, VB ((((o_ : Nat) : Int) % 4) != 0))] ?_
    refine Sn 68 rfl ?_ ?_ <;> intro h102
    ·
     refine Ra 6 (Qo B49 4066 1) 1 [.blk 6] [(69, VL E_ o_ f_)] ?_
     refine Lt 70 5 1 1 [N8 0] ?_
     intro A103
     refine Ap 20 _ 22 1 (N8 0) (.tmp 69) (.tmp 70) o_ f_ 1 1 E_ A103 [N8 0] (.inl rfl) (by kernel_rfl) (Ar 70 rfl) (Br 70 rfl) (ones (by kernel_rfl)) (by omega) ?_
     intro A104 c104 hc104
     refine Tc [70] (cs' := (r_ ++ [0]).map (Value.int .u8)) (by simp) ?_
     refine Tr [20] ?_
     exact Rn 3 (.ex .normal) [.loop J101, .blk 5, Qs B49 255] _ (X.again (hJ101 _ _ _ _ ⟨A104, c104, o_ + 1, r_ ++ [0], rfl, rfl, rfl, ⟨by rw [padZ_step (by omega)]; exact hpad, by simp [hn2], by omega⟩, rfl⟩ (by omega)))
    ·
     refine Rn 14 (.ex .ret) [] ⟨73, [(2, VL E_ o_ f_), (3, I6 0)], []⟩ ?_
     refine Dg (.inl rfl) [.slice E_ o_ f_, N6 0] [20] rfl (hG1) ?_
     have he_ : errO xs = 0 := errO_ok hc_ (by omega)
     have hp_ : printO xs = r_ := printO_yes (l := xs) he_ hpad (by omega)
     rw [hp_, he_, ← hn2]
     exact ⟨E_, f_, rfl, rfl⟩
theorem padZ_len (l : List Int) : (padZ l).length % 4 = 0 ∧ (padZ l).length ≤ l.length + 3 ∧ l.length ≤ (padZ l).length := by
 unfold padZ
 rw [List.length_append, List.length_replicate]
 omega
theorem errO_zero {xs : List Opt} (h : errO xs = 0) : chk [] xs = 0 ∧ sumO xs ≤ 40 := by
 unfold errO at h
 split at h
 · rename_i h1; exact absurd h h1
 ·
  split at h
  · exact absurd h (by decide)
  ·
   rename_i h1 h2
   exact ⟨by simpa using h1, by omega⟩
end Go.Proofs.YtjgpdbkkpomhjaaX
