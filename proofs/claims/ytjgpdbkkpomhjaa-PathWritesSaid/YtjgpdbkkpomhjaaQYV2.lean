/- A part of a law's proof. Conditions: none. -/
import Derived.Test.YtjgpdbkkpomhjaaProg
import Derived.KernelRfl
import Derived.Test.YtjgpdbkkpomhjaaQYV1
import Derived.Test.YtjgpdbkkpomhjaaQYT
namespace Go.Proofs.YtjgpdbkkpomhjaaX
open Go.RowKit
open Go.Proofs.YtjgpdbkkpomhjaaW.PrintLast
set_option linter.unusedVariables false
set_option linter.unusedSimpArgs false
set_option maxRecDepth 100000
theorem num_step (n c : Int) : IntKind.u32.wrap (IntKind.u32.wrap (n * 256) + IntKind.u32.wrap c) = (n * 256 + c) % 4294967296 := by
 show ((n * 256) % 4294967296 + c % 4294967296) % 4294967296 = _
 omega
theorem num_take {ns : List Int} {i : Nat} (h : i < ns.length) : num (ns.take (i + 1)) = (num (ns.take i) * 256 + ns.getD i 0) % 4294967296 := by
 rw [List.take_succ_eq_append_getElem h, num_snoc]
 simp [h]
theorem getD_drop {ns : List Int} {a j : Nat} : (ns.drop a).getD j 0 = ns.getD (a + j) 0 := by simp [List.getD]
theorem numsOf_succ (ns : List Int) (z j : Nat) : numsOf ns z (j + 1) = numsOf ns z j ++ [num ((ns.drop (j * z)).take z)] := by simp [numsOf, List.range_succ]
theorem inB_of {ns : List Int} {a n : Nat} {e : Int} (he : (ns.drop a).getD 1 0 = e) (h : e.toNat = n) : inB (ns.drop a) = (ns.take (a + n)).drop (a + 2) := by
 unfold inB
 rw [he, h, List.drop_take, List.drop_take, List.drop_drop]
 congr 1
 omega
theorem part_of {ns : List Int} {a n j z : Nat} (h : j * z + z + 2 ≤ n) : (((ns.take (a + n)).drop (a + 2)).drop (j * z)).take z = (ns.take (a + 2 + j * z + z)).drop (a + 2 + j * z) := by
 rw [List.drop_drop, List.drop_take, List.drop_take, List.take_take]
 congr 1
 omega
noncomputable def B122 : Code := bodyOf Try.f122
set_option maxHeartbeats 1000000 in
theorem numO_ok (A : Option Addr) (c : Nat) (ns : List Int) (G : Mem) (hr : rowAt (D.int .u8) G A ns) (hle : ns.length ≤ c) (hmx : c ≤ maxLen) : CallsG Try.prog 122 [.slice A ns.length c] G (fun _ v rows => v = .int .u32 (num ns) ∧ rows = []) := by
 simp only [maxLen] at hmx
 refine CallsG.enter Try.func122 rfl rfl ?_
 intro w
 refine Rn 17 (Qc B122 58) [.blk 0, Qs B122 15] _ (X.loopJ (fun m s R' G' => ∃ (q i : Int), s = ⟨20, [(0, VL A ns.length c), (2, I3 0), (3, I3 q), (4, I6 i)], []⟩ ∧ R' = [] ∧ G = G' ∧ (0 ≤ i ∧ i ≤ (ns.length : Int) ∧ q = num (ns.take i.toNat)) ∧ m = ((ns.length : Int) - i).toNat) _ ⟨0, 0, rfl, rfl, rfl, ⟨by omega, by omega, by simp [num]⟩, rfl⟩ ?_)
 rintro m1 s1 R1 G1 ⟨q, i, rfl, rfl, rfl, hF1, rfl⟩ J1 hJ1
 obtain ⟨hi0, hi1, hq⟩ := hF1
 refine Ra 9 (Qc B122 465) 0 [Qs B122 233] [(8, VB (decide (i < (ns.length : Int))))] ?_
 refine Sd 8 rfl ?_ ?_ <;> intro h2
 ·
  refine Ra 10 (Qo B122 932 4) 1 [.blk 1, Qs B122 467] [(12, I3 (IntKind.u32.wrap (q * 256))), (13, VL A ns.length c), (14, I6 i)] ?_
  refine Ix 22 5 1 A ns.length c .i64 i (.tmp 13) (.tmp 14) (by omega) (by omega) (fun _ _ => rowAt.so hr (by omega)) ?_
  obtain ⟨at5, lo5, hi5⟩ := At.int [] hr ((i).toNat) (by omega)
  simp only [IntKind.lo, IntKind.hi] at lo5 hi5
  refine Ra 0 (Qo B122 932 5) 0 [] [(15, .v (elt A ((i).toNat * 1)))] ?_
  refine Ld 5 A ((i).toNat * 1) (.tmp 15) (N8 (ns.getD i.toNat 0)) [N8 (ns.getD i.toNat 0)] at5 ?_
  have e1 : IntKind.i64.wrap (i + 1) = i + 1 := wi64 (by omega) (by omega)
  have e0 : (i + 1).toNat = i.toNat + 1 := by omega
  exact Rn 11 (.ex .normal) [.loop J1, .blk 0, Qs B122 15] _ (X.again (hJ1 _ _ _ _ ⟨IntKind.u32.wrap ((IntKind.u32.wrap (q * 256)) + (IntKind.u32.wrap (ns.getD i.toNat 0))), IntKind.i64.wrap (i + 1), rfl, rfl, rfl, ⟨by omega, by omega, by rw [e1, e0, num_take (by omega), ← hq]; exact num_step _ _⟩, rfl⟩ (by rw [e1]; omega)))
 ·
  refine Rn 13 (.ex .ret) [] ⟨20, [(2, I3 q)], []⟩ ?_
  refine Dg (.inl rfl) [N3 q] [] rfl (Ge.refl _ _) ?_
  rw [List.take_of_length_le (by omega)] at hq
  exact ⟨by rw [hq]; rfl, rfl⟩
noncomputable def B59 : Code := bodyOf Try.f59
set_option maxHeartbeats 4000000 in
theorem rParse_ok (A : Option Addr) (c : Nat) (ns : List Int) (G : Mem) (hr : rowAt (D.int .u8) G A ns) (hle : ns.length ≤ c) (hmx : c ≤ maxLen) : CallsG Try.prog 59 [.slice A ns.length c] G (fun G' v rows => ∃ A' c' cs, v = .tuple #[.slice A' (optP ns).1.length c', .int .i64 (optP ns).2] ∧ rows = [⟨65, 3, .slice A' (optP ns).1.length c', (optP ns).1.length, cs⟩] ∧ repsD optD G' (optP ns).1 cs) := by
 simp only [maxLen] at hmx
 refine CallsG.enter Try.func59 rfl rfl ?_
 intro w
 refine Rn 14 (Qc B59 13) [Qs B59 7] ⟨141, [(0, VL A ns.length c), (2, VL none 0 0), (3, I6 0), (13, VB (decide ((ns.length : Int) > 40)))], []⟩ ?_
 refine Sd 13 rfl ?_ ?_ <;> intro h1
 ·
  refine Rn 9 (.ex .ret) [] ⟨141, [(2, VL none 0 0), (3, I6 4)], []⟩ ?_
  refine X.nilRow 900 65 3 rfl ?_
  refine Dg (.inl rfl) [.slice none 0 0, N6 4] [900] rfl (Ge.refl _ _) ?_
  have hP_ : optP ns = ([], 4) := optP_long (by omega)
  rw [hP_]
  exact ⟨none, 0, [], rfl, rfl, rfl⟩
 ·
  refine Ra 15 (Qc B59 124) 1 [.blk 0, Qs B59 63] [(4, VL none 0 0), (5, I6 0)] ?_
  refine X.nilRow 30 65 3 rfl ?_
  refine Rn 0 (Qc B59 124) [.blk 0, Qs B59 63] _ (X.loopJ (fun m s R' G' => ∃ (B_ : Option Addr) (c_ n_ : Nat) (a : Int) (l_ : List Opt) (qs_ : List Value), s = ⟨141, [(0, VL A ns.length c), (4, VL B_ n_ c_), (5, I6 a)], []⟩ ∧ R' = [(30, RR 65 3 B_ n_ c_ qs_)] ∧ Ge G w.heap.size G' ∧ (0 ≤ a ∧ a ≤ (ns.length : Int) ∧ parseO l_ (ns.drop a.toNat) = parseO [] ns ∧ repsD optD G' l_ qs_ ∧ n_ = l_.length ∧ 2 * (n_ : Int) + ns.length - a ≤ 40) ∧ m = ((ns.length : Int) - a).toNat) _ ⟨none, 0, 0, 0, [], [], rfl, rfl, Ge.refl _ _, ⟨by omega, by omega, rfl, rfl, rfl, by omega⟩, rfl⟩ ?_)
  rintro m2 s2 R2 G2 ⟨B_, c_, n_, a, l_, qs_, rfl, rfl, hG2, hF2, rfl⟩ J2 hJ2
  replace hr := hr.mono hG2.le
  obtain ⟨ha0, ha1, hpa, hcs, hn, hb⟩ := hF2
  obtain ⟨ys_, hys_⟩ : ∃ y_, ns.drop a.toNat = y_ := ⟨_, rfl⟩
  have hyl : ys_.length = ns.length - a.toNat := by rw [← hys_, List.length_drop]
  have hy0 : ys_.getD 0 0 = ns.getD a.toNat 0 := by rw [← hys_, getD_drop]; rfl
  have hy1 : ys_.getD 1 0 = ns.getD (a + 1).toNat 0 := by rw [← hys_, getD_drop, show (a + 1).toNat = a.toNat + 1 by omega]
  rw [hys_] at hpa
  refine Ra 9 (Qc B59 993) 0 [Qs B59 497] [(17, VB (decide (a < (ns.length : Int))))] ?_
  refine Sd 17 rfl ?_ ?_ <;> intro h3
  ·
   refine Ra 9 (Qo B59 3976 2) 1 [Qs B59 3977, Qs B59 1989, .blk 1] [(18, VL A ns.length c), (19, I6 a)] ?_
   refine Ix 22 5 1 A ns.length c .i64 a (.tmp 18) (.tmp 19) (by omega) (by omega) (fun _ _ => rowAt.so hr (by omega)) ?_
   obtain ⟨at6, lo6, hi6⟩ := At.int [(30, ⟨65, 3, .slice B_ n_ c_, n_, qs_⟩)] hr ((a).toNat) (by omega)
   simp only [IntKind.lo, IntKind.hi] at lo6 hi6
   refine Ra 0 (Qo B59 3976 3) 0 [] [(20, .v (elt A ((a).toNat * 1)))] ?_
   refine Ld 5 A ((a).toNat * 1) (.tmp 20) (N8 (ns.getD a.toNat 0)) [N8 (ns.getD a.toNat 0)] at6 ?_
   refine Ra 3 (Qc B59 3977) 1 [] [(22, VB ((ns.getD a.toNat 0) == 0))] ?_
   refine Se 22 rfl ?_ ?_ <;> intro h7
   ·
    refine Rn 9 (Qc B59 63634) [.blk 2, Qs B59 15909, Qs B59 1989, .blk 1, .loop J2, .blk 0, Qs B59 63] _ (X.loopJ (fun m s R' G' => ∃ (k : Int), s = ⟨141, [(0, VL A ns.length c), (4, VL B_ n_ c_), (5, I6 a), (6, I6 k)], []⟩ ∧ R' = [(30, RR 65 3 B_ n_ c_ qs_)] ∧ G2 = G' ∧ (a ≤ k ∧ k ≤ (ns.length : Int) ∧ ∀ x ∈ ys_.take (k - a).toNat, x = 0) ∧ m = ((ns.length : Int) - k).toNat) _ ⟨a, rfl, rfl, rfl, ⟨by omega, by omega, by simp⟩, rfl⟩ ?_)
    rintro m8 s8 R8 G8 ⟨k, rfl, rfl, rfl, hF8, rfl⟩ J8 hJ8
    obtain ⟨hk0, hk1, hk2⟩ := hF8
    have hyk : ys_.getD (k - a).toNat 0 = ns.getD k.toNat 0 := by rw [← hys_, getD_drop, show a.toNat + (k - a).toNat = k.toNat by omega]
    refine Ra 9 (Qc B59 509073) 0 [Qs B59 254537] [(27, VB (decide (k < (ns.length : Int))))] ?_
    refine Sd 27 rfl ?_ ?_ <;> intro h9
    ·
     refine Ra 9 (Qo B59 2036296 2) 1 [Qs B59 2036297, .blk 3, Qs B59 509075] [(30, VL A ns.length c), (31, I6 k)] ?_
     refine Ix 22 5 1 A ns.length c .i64 k (.tmp 30) (.tmp 31) (by omega) (by omega) (fun _ _ => rowAt.so hr (by omega)) ?_
     obtain ⟨at12, lo12, hi12⟩ := At.int [(30, ⟨65, 3, .slice B_ n_ c_, n_, qs_⟩)] hr ((k).toNat) (by omega)
     simp only [IntKind.lo, IntKind.hi] at lo12 hi12
     refine Ra 0 (Qo B59 2036296 3) 0 [] [(32, .v (elt A ((k).toNat * 1)))] ?_
     refine Ld 5 A ((k).toNat * 1) (.tmp 32) (N8 (ns.getD k.toNat 0)) [N8 (ns.getD k.toNat 0)] at12 ?_
     refine Ra 3 (Qc B59 2036297) 1 [] [(34, VB ((ns.getD k.toNat 0) != 0))] ?_
     refine Sn 34 rfl ?_ ?_ <;> intro h13
     ·
      refine Rn 18 (.ex .ret) [] ⟨141, [(2, VL none 0 0), (3, I6 5)], []⟩ ?_
      refine X.nilRow 900 65 3 rfl ?_
      refine Dg (.inl rfl) [.slice none 0 0, N6 5] [900] rfl (hG2) ?_
      have hP_ : optP ns = ([], 5) := (optP_of (by omega)).trans (hpa.symm.trans (parse_bad (i := (k - a).toNat) (by omega) (by omega) (by omega) (by rw [hyk]; assumption)))
      rw [hP_]
      exact ⟨none, 0, [], rfl, rfl, rfl⟩
     ·
      have e1 : IntKind.i64.wrap (k + 1) = k + 1 := wi64 (by omega) (by omega)
      have e0 : (k + 1 - a).toNat = (k - a).toNat + 1 := by omega
      exact Rn 9 (.ex .normal) [.loop J8, .blk 2, Qs B59 15909, Qs B59 1989, .blk 1, .loop J2, .blk 0, Qs B59 63] _ (X.again (hJ8 _ _ _ _ ⟨IntKind.i64.wrap (k + 1), rfl, rfl, rfl, ⟨by omega, by omega, by rw [e1, e0]; exact take_all (p := fun x : Int => x = 0) (d := 0) hk2 (by omega) (by rw [hyk]; assumption)⟩, rfl⟩ (by rw [e1]; omega)))
    ·
     refine Rn 19 (.ex .ret) [] ⟨141, [(2, VL B_ n_ c_), (3, I6 0)], []⟩ ?_
     refine Dg (.inl rfl) [.slice B_ n_ c_, N6 0] [30] rfl (hG2) ?_
     have hP_ : optP ns = (l_, 0) := (optP_of (by omega)).trans (hpa.symm.trans (parse_zero (by omega) (by rw [List.take_of_length_le (by omega)] at hk2; exact hk2)))
     rw [hP_, hn]
     exact ⟨B_, c_, qs_, rfl, rfl, hcs⟩
   ·
    refine Ra 8 (Qo B59 7956 2) 1 [Qs B59 7957, Qs B59 3979] [(36, VL A ns.length c), (37, I6 a)] ?_
    refine Ix 22 5 1 A ns.length c .i64 a (.tmp 36) (.tmp 37) (by omega) (by omega) (fun _ _ => rowAt.so hr (by omega)) ?_
    obtain ⟨at16, lo16, hi16⟩ := At.int [(30, ⟨65, 3, .slice B_ n_ c_, n_, qs_⟩)] hr ((a).toNat) (by omega)
    simp only [IntKind.lo, IntKind.hi] at lo16 hi16
    refine Ra 0 (Qo B59 7956 3) 0 [] [(38, .v (elt A ((a).toNat * 1)))] ?_
    refine Ld 5 A ((a).toNat * 1) (.tmp 38) (N8 (ns.getD a.toNat 0)) [N8 (ns.getD a.toNat 0)] at16 ?_
    refine Ra 3 (Qc B59 7957) 1 [] [(40, VB ((ns.getD a.toNat 0) == 1))] ?_
    refine Se 40 rfl ?_ ?_ <;> intro h17
    ·
     refine Ra 5 (Qo B59 31828 2) 0 [Qs B59 31829] [(42, I6 (IntKind.i64.wrap (a + 1)))] ?_
     refine Kn 42 .i64 (a + 1) rfl (wi64 (by omega) (by omega)) ?_
     have e1 : (a + 1).toNat = a.toNat + 1 := by omega
     exact Rn 6 (.ex .normal) [.loop J2, .blk 0, Qs B59 63] _ (X.again (hJ2 _ _ _ _ ⟨B_, c_, n_, a + 1, l_, qs_, rfl, rfl, hG2, ⟨by omega, by omega, by rw [e1, ← List.drop_drop, hys_, ← parse_one (by omega) (by omega)]; exact hpa, hcs, hn, by omega⟩, rfl⟩ (by omega)))
    ·
     refine Ra 8 (Qo B59 15916 2) 1 [Qs B59 15917, Qs B59 7959] [(44, I6 (IntKind.i64.wrap (a + 1)))] ?_
     refine Kn 44 .i64 (a + 1) rfl (wi64 (by omega) (by omega)) ?_
     refine Ra 5 (Qc B59 15917) 1 [] [(47, VB (decide (a + 1 ≥ (ns.length : Int))))] ?_
     refine Sd 47 rfl ?_ ?_ <;> intro h18
     ·
      refine Rn 13 (.ex .ret) [] ⟨141, [(2, VL none 0 0), (3, I6 3)], []⟩ ?_
      refine X.nilRow 900 65 3 rfl ?_
      refine Dg (.inl rfl) [.slice none 0 0, N6 3] [900] rfl (hG2) ?_
      have he_ : oneE ys_ = 3 := oneE_short (by omega)
      have hP_ : optP ns = ([], 3) := (optP_of (by omega)).trans (hpa.symm.trans ((parse_err (by omega) (by omega) (by omega) (by rw [he_]; decide)).trans (by rw [he_])))
      rw [hP_]
      exact ⟨none, 0, [], rfl, rfl, rfl⟩
     ·
      refine Ra 8 (Qo B59 15918 3) 1 [Qs B59 15919] [(48, VL A ns.length c), (50, I6 (IntKind.i64.wrap (a + 1)))] ?_
      refine Kn 50 .i64 (a + 1) rfl (wi64 (by omega) (by omega)) ?_
      refine Ix 22 5 1 A ns.length c .i64 (a + 1) (.tmp 48) (.tmp 50) (by omega) (by omega) (fun _ _ => rowAt.so hr (by omega)) ?_
      obtain ⟨at21, lo21, hi21⟩ := At.int [(30, ⟨65, 3, .slice B_ n_ c_, n_, qs_⟩)] hr ((a + 1).toNat) (by omega)
      simp only [IntKind.lo, IntKind.hi] at lo21 hi21
      refine Ra 0 (Qo B59 15918 4) 0 [] [(51, .v (elt A ((a + 1).toNat * 1)))] ?_
      refine Ld 5 A ((a + 1).toNat * 1) (.tmp 51) (N8 (ns.getD ((a + 1).toNat) 0)) [N8 (ns.getD ((a + 1).toNat) 0)] at21 ?_
      refine Ra 1 (Qo B59 15918 6) 0 [] [(53, I6 (IntKind.i64.wrap (ns.getD ((a + 1).toNat) 0)))] ?_
      refine Kn 53 .i64 (ns.getD ((a + 1).toNat) 0) rfl (wi64 (by omega) (by omega)) ?_
      refine Rn 10 (Qc B59 63677) [Qs B59 31839, .blk 1, .loop J2, .blk 0, Qs B59 63] ⟨141, [(0, VL A ns.length c), (4, VL B_ n_ c_), (5, I6 a), (7, I6 (ns.getD ((a + 1).toNat) 0)), (55, VB (decide (ns.getD ((a + 1).toNat) 0 < 2)))], []⟩ ?_
      refine Sd 55 rfl ?_ ?_ <;> intro h22
      ·
       refine Rn 13 (.ex .ret) [] ⟨141, [(2, VL none 0 0), (3, I6 5)], []⟩ ?_
       refine X.nilRow 900 65 3 rfl ?_
       refine Dg (.inl rfl) [.slice none 0 0, N6 5] [900] rfl (hG2) ?_
       have he_ : oneE ys_ = 5 := oneE_small (by omega) (by omega)
       have hP_ : optP ns = ([], 5) := (optP_of (by omega)).trans (hpa.symm.trans ((parse_err (by omega) (by omega) (by omega) (by rw [he_]; decide)).trans (by rw [he_])))
       rw [hP_]
       exact ⟨none, 0, [], rfl, rfl, rfl⟩
      ·
       refine Ra 9 (Qo B59 127356 3) 1 [Qs B59 127357, Qs B59 63679] [(58, I6 (IntKind.i64.wrap (a + (ns.getD ((a + 1).toNat) 0))))] ?_
       refine Kn 58 .i64 (a + (ns.getD ((a + 1).toNat) 0)) rfl (wi64 (by omega) (by omega)) ?_
       refine Ra 5 (Qc B59 127357) 1 [] [(61, VB (decide (a + (ns.getD ((a + 1).toNat) 0) > (ns.length : Int))))] ?_
       refine Sd 61 rfl ?_ ?_ <;> intro h23
       ·
        refine Rn 13 (.ex .ret) [] ⟨141, [(2, VL none 0 0), (3, I6 3)], []⟩ ?_
        refine X.nilRow 900 65 3 rfl ?_
        refine Dg (.inl rfl) [.slice none 0 0, N6 3] [900] rfl (hG2) ?_
        have he_ : oneE ys_ = 3 := oneE_far (by omega) (by omega) (by omega)
        have hP_ : optP ns = ([], 3) := (optP_of (by omega)).trans (hpa.symm.trans ((parse_err (by omega) (by omega) (by omega) (by rw [he_]; decide)).trans (by rw [he_])))
        rw [hP_]
        exact ⟨none, 0, [], rfl, rfl, rfl⟩
       ·
        refine Ra 7 (Qo B59 127358 2) 1 [Qs B59 127359] [(62, VL A ns.length c), (63, I6 a)] ?_
        refine Ix 22 5 1 A ns.length c .i64 a (.tmp 62) (.tmp 63) (by omega) (by omega) (fun _ _ => rowAt.so hr (by omega)) ?_
        obtain ⟨at26, lo26, hi26⟩ := At.int [(30, ⟨65, 3, .slice B_ n_ c_, n_, qs_⟩)] hr ((a).toNat) (by omega)
        simp only [IntKind.lo, IntKind.hi] at lo26 hi26
        refine Ra 0 (Qo B59 127358 3) 0 [] [(64, .v (elt A ((a).toNat * 1)))] ?_
        refine Ld 5 A ((a).toNat * 1) (.tmp 64) (N8 (ns.getD a.toNat 0)) [N8 (ns.getD a.toNat 0)] at26 ?_
        refine Ra 1 (Qo B59 127358 5) 0 [] [(66, I6 (IntKind.i64.wrap (ns.getD a.toNat 0)))] ?_
        refine Kn 66 .i64 (ns.getD a.toNat 0) rfl (wi64 (by omega) (by omega)) ?_
        refine Rb 9 (Qo B59 254718 2) 1 [Qs B59 254719] [(8, .own 8 0), (69, I6 (ns.getD a.toNat 0))] [] [(8, ⟨65, [I6 (ns.getD a.toNat 0), VL none 0 0, VT ByteArray.empty]⟩)] [] ?_
        refine X.inline (f := 112) (l := [I6 (ns.getD a.toNat 0)]) (fn := Try.f112) (c := B112) (by kernel_rfl) (by kernel_rfl) Try.func112 (by kernel_rfl) ?_
        intro Q27 M27 hM27 hQ27 fin27
        refine Ra 12 (Qc B112 13) 0 [Qs B112 7] [(2, I6 0), (4, VB ((ns.getD a.toNat 0) == 2))] ?_
        refine Se 4 rfl ?_ ?_ <;> intro h28
        ·
         refine Rn 8 (.ex .ret) [] ⟨13, [(2, I6 2)], [(1008, ⟨65, [I6 (ns.getD a.toNat 0), VL none 0 0, VT ByteArray.empty]⟩)]⟩ ?_
         refine fin27 _ _ _ _ [N6 2] [(8, ⟨65, [I6 (ns.getD a.toNat 0), VL none 0 0, VT ByteArray.empty]⟩)] (.inl rfl) (by kernel_rfl) (by kernel_rfl) ?_
         refine Ra 5 (Qc B59 1018876) 1 [Qs B59 1018877, Qs B59 509439] [(9, I6 2)] ?_
         have hr_d29 := hr
         have hcs_d29 := hcs
         refine Oh 24 B59 1018876 25 [⟨some 8, 8, 65, [I6 (ns.getD a.toNat 0), VL none 0 0, VT ByteArray.empty]⟩] [] [] ⟨P1, trivial⟩ Mt (fun ρ0 => ?_)
         refine Tk 0 25 1 B59 1018876 (I6 2) QOk.ctxG ?_
         refine Tk 1 25 3 B59 1018876 (VB true) QOk.ctxG ?_
         refine Tk 2 25 7 B59 1018876 (VB true) QOk.ctxG ?_
         refine Tk 3 25 15 B59 1018876 (I6 (ns.getD ((a + 1).toNat) 0)) QOk.ctxG ?_
         refine Tk 4 25 31 B59 1018876 (I6 (IntKind.i64.wrap ((ns.getD ((a + 1).toNat) 0) - 2))) QOk.ctxG ?_
         refine Dk 75 .i64 ((ns.getD ((a + 1).toNat) 0) - 2) rfl (wi64 (by omega) (by omega)) ?_
         refine Tk 5 25 63 B59 1018876 (I6 2) QOk.ctxG ?_
         refine Tk 6 25 127 B59 1018876 (I6 (Int.tmod ((ns.getD ((a + 1).toNat) 0) - 2) 2)) QOk.ctxG ?_
         refine Dk 77 .i64 (((ns.getD ((a + 1).toNat) 0) - 2) % 2) rfl (Int.tmod_eq_emod_of_nonneg (by omega)) ?_
         refine Tk 7 25 255 B59 1018876 (VB ((((ns.getD ((a + 1).toNat) 0) - 2) % 2) != 0)) QOk.ctxG ?_
         refine Tk 8 25 511 B59 1018876 (VB ((((ns.getD ((a + 1).toNat) 0) - 2) % 2) != 0)) QOk.ctxG ?_
         refine XD.split 79 rfl (fun h30 => ?_) (fun h30 => ?_)
         ·
          replace h30 : (((ns.getD ((a + 1).toNat) 0) - 2) % 2) ≠ 0 := by simpa using h30
          refine Ts [9, 10, 11, 12, 13, 14, 15, 16, 17, 18, 19, 20, 21, 22, 23, 24] 25 33554431 0 16 QOk.ctxG ?_
          refine XD.done (by kernel_rfl) ?_
          refine Rn 14 (.ex .ret) [] ⟨141, [(2, VL none 0 0), (3, I6 5)], []⟩ ?_
          refine X.nilRow 900 65 3 rfl ?_
          refine Dg (.inl rfl) [.slice none 0 0, N6 5] [900] rfl (hG2) ?_
          have hsz_ : szk (ns.getD (a).toNat 0) = 2 := by rw [show (ns.getD (a).toNat 0) = 2 by assumption]; rfl
          have hok_ := okP_lit (k := ys_.getD 0 0) (m := (ys_.getD 1 0).toNat - 2) (z := 2) (lo := 1) (hi := 1) (by rw [hy0]; exact hsz_) (by decide) (show _ = (1 : Int) by rw [hy0, show (ns.getD (a).toNat 0) = 2 by assumption]; rfl) (show _ = (1 : Int) by rw [hy0, show (ns.getD (a).toNat 0) = 2 by assumption]; rfl)
          rw [decide_eq_false (by omega)] at hok_
          have he_ : oneE ys_ = 5 := oneE_form (by omega) (by omega) (by omega) hok_
          have hP_ : optP ns = ([], 5) := (optP_of (by omega)).trans (hpa.symm.trans ((parse_err (by omega) (by omega) (by omega) (by rw [he_]; decide)).trans (by rw [he_])))
          rw [hP_]
          exact ⟨none, 0, [], rfl, rfl, rfl⟩
         ·
          replace h30 : (((ns.getD ((a + 1).toNat) 0) - 2) % 2) = 0 := by simpa using h30
          refine Tk 9 25 1023 B59 1018876 (.own 8 0) QOk.ctxG ?_
          refine Tk 10 25 2047 B59 1018876 (I6 (ns.getD a.toNat 0)) QOk.ctxG ?_
          refine Tk 11 25 4095 B59 1018876 (I6 (ns.getD ((a + 1).toNat) 0)) QOk.ctxG ?_
          refine Tk 12 25 8191 B59 1018876 (I6 (IntKind.i64.wrap ((ns.getD ((a + 1).toNat) 0) - 2))) QOk.ctxG ?_
          refine Dk 83 .i64 ((ns.getD ((a + 1).toNat) 0) - 2) rfl (wi64 (by omega) (by omega)) ?_
          refine Tk 13 25 16383 B59 1018876 (I6 2) QOk.ctxG ?_
          refine Tk 14 25 32767 B59 1018876 (I6 (IntKind.i64.wrap (Int.tdiv ((ns.getD ((a + 1).toNat) 0) - 2) 2))) QOk.ctxG ?_
          refine Dk 85 .i64 (((ns.getD ((a + 1).toNat) 0) - 2) / 2) rfl (wdiv_i64 (by omega) (by omega) (by omega)) ?_
          refine Do 15 25 65535 B59 1018876 ?_
          refine X.inline (f := 121) (l := [I6 (ns.getD a.toNat 0), I6 (((ns.getD ((a + 1).toNat) 0) - 2) / 2)]) (fn := Try.f121) (c := B121) (by kernel_rfl) (by kernel_rfl) Try.func121 (by kernel_rfl) ?_
          intro Q31 M31 hM31 hQ31 fin31
          refine Ra 12 (Qc B121 13) 0 [Qs B121 7] [(4, VB false), (6, VB ((ns.getD a.toNat 0) == 2))] ?_
          refine X.isTrue 6 rfl (by simpa using (show (ns.getD (a).toNat 0) = 2 by assumption)) ?_
          refine Rn 10 (.ex .ret) [] ⟨15, [(4, VB ((((ns.getD ((a + 1).toNat) 0) - 2) / 2) == 1))], [(1008, ⟨65, [I6 (ns.getD a.toNat 0), VL none 0 0, VT ByteArray.empty]⟩)]⟩ ?_
          refine fin31 _ _ _ _ [.bool ((((ns.getD ((a + 1).toNat) 0) - 2) / 2) == 1)] [(8, ⟨65, [I6 (ns.getD a.toNat 0), VL none 0 0, VT ByteArray.empty]⟩)] (.inl rfl) (by kernel_rfl) (by kernel_rfl) ?_
          refine X.back ⟨⟨P1, trivial⟩, Le.refl _, by kernel_rfl, ?_⟩
          refine Tk 16 25 131071 B59 1018876 (VB (!((((ns.getD ((a + 1).toNat) 0) - 2) / 2) == 1))) QOk.ctxG ?_
          refine Tk 17 25 262143 B59 1018876 (VB (!((((ns.getD ((a + 1).toNat) 0) - 2) / 2) == 1))) QOk.ctxG ?_
          refine Tk 18 25 524287 B59 1018876 (VB (!((((ns.getD ((a + 1).toNat) 0) - 2) / 2) == 1))) QOk.ctxG ?_
          refine Tk 19 25 1048575 B59 1018876 (VB (!((((ns.getD ((a + 1).toNat) 0) - 2) / 2) == 1))) QOk.ctxG ?_
          refine XD.split 90 rfl (fun h32 => ?_) (fun h32 => ?_)
          ·
           replace h32 : ((((ns.getD ((a + 1).toNat) 0) - 2) / 2) == 1) = false := by first | (simpa using h32; done) | (have h_ := congrArg (fun b_ => !b_) h32; simpa only [Bool.not_not, Bool.not_true, Bool.not_false] using h_)
           replace h32 : (((ns.getD ((a + 1).toNat) 0) - 2) / 2) ≠ 1 := by simpa using h32
           refine Ts [20, 21, 22, 23, 24] 25 33554431 0 5 QOk.ctxG ?_
           refine XD.done (by kernel_rfl) ?_
           refine Rn 14 (.ex .ret) [] ⟨141, [(2, VL none 0 0), (3, I6 5)], []⟩ ?_
           refine X.nilRow 900 65 3 rfl ?_
           refine Dg (.inl rfl) [.slice none 0 0, N6 5] [900] rfl (hG2) ?_
           have hsz_ : szk (ns.getD (a).toNat 0) = 2 := by rw [show (ns.getD (a).toNat 0) = 2 by assumption]; rfl
           have hok_ := okP_lit (k := ys_.getD 0 0) (m := (ys_.getD 1 0).toNat - 2) (z := 2) (lo := 1) (hi := 1) (by rw [hy0]; exact hsz_) (by decide) (show _ = (1 : Int) by rw [hy0, show (ns.getD (a).toNat 0) = 2 by assumption]; rfl) (show _ = (1 : Int) by rw [hy0, show (ns.getD (a).toNat 0) = 2 by assumption]; rfl)
           rw [decide_eq_false (by omega)] at hok_
           have he_ : oneE ys_ = 5 := oneE_form (by omega) (by omega) (by omega) hok_
           have hP_ : optP ns = ([], 5) := (optP_of (by omega)).trans (hpa.symm.trans ((parse_err (by omega) (by omega) (by omega) (by rw [he_]; decide)).trans (by rw [he_])))
           rw [hP_]
           exact ⟨none, 0, [], rfl, rfl, rfl⟩
          ·
           replace h32 : ((((ns.getD ((a + 1).toNat) 0) - 2) / 2) == 1) = true := by first | (simpa using h32; done) | (have h_ := congrArg (fun b_ => !b_) h32; simpa only [Bool.not_not, Bool.not_true, Bool.not_false] using h_)
           replace h32 : (((ns.getD ((a + 1).toNat) 0) - 2) / 2) = 1 := by simpa using h32
           refine Ts [20, 21, 22] 25 8388607 2 5 QOk.ctxG ?_
           refine Dn ⟨141, [(0, VL A ns.length c), (4, VL B_ n_ c_), (5, I6 a), (7, I6 (ns.getD ((a + 1).toNat) 0)), (8, .own 8 0), (9, I6 2), (90, VB false), (91, VL B_ n_ c_), (93, I6 (ns.getD a.toNat 0))], [(8, ⟨65, [I6 (ns.getD a.toNat 0), VL none 0 0, VT ByteArray.empty]⟩)]⟩ ⟨P1, trivial⟩ ?_
           refine Do 23 25 16777215 B59 1018876 ?_
           refine X.capLe (i := 30) rfl rfl ?_
           intro hle33 hmx33
           refine X.callV (f := 111) (l := [VL B_ n_ c_, I6 (ns.getD a.toNat 0)]) (Q := fun v_ => v_ = .bool (hadB l_ (ns.getD a.toNat 0))) [.slice B_ n_ c_, N6 (ns.getD a.toNat 0)] (by kernel_rfl) (by kernel_rfl) (by kernel_rfl) (fun G1_ hl_ hr_ => by rw [hn]; exact (rHad_ok B_ c_ l_ (ns.getD a.toNat 0) G1_ (rowLit (hr_ 30 _ rfl) (hcs.mono hl_) (by decide)) (by omega) hmx33).mono (fun _ _ _ _ h_ => h_.1)) ?_
           rintro _ rfl
           refine X.back ⟨⟨P1, trivial⟩, Le.refl _, by kernel_rfl, ?_⟩
           refine Ts [24] 25 33554431 0 1 QOk.ctxG ?_
           refine XD.done (by kernel_rfl) ?_
           refine Rn 1 (Qc B59 1018877) [Qs B59 509439, .blk 1, .loop J2, .blk 0, Qs B59 63] ⟨141, [(0, VL A ns.length c), (4, VL B_ n_ c_), (5, I6 a), (7, I6 (ns.getD ((a + 1).toNat) 0)), (8, .own 8 0), (9, I6 2), (95, VB (hadB l_ (ns.getD a.toNat 0)))], [(8, ⟨65, [I6 (ns.getD a.toNat 0), VL none 0 0, VT ByteArray.empty]⟩)]⟩ ?_
           refine X.split 95 rfl (fun h34 => ?_) (fun h34 => ?_)
           ·
            refine Rn 13 (.ex .ret) [] ⟨141, [(2, VL none 0 0), (3, I6 5)], []⟩ ?_
            refine X.nilRow 900 65 3 rfl ?_
            refine Dg (.inl rfl) [.slice none 0 0, N6 5] [900] rfl (hG2) ?_
            have hsz_ : szk (ns.getD (a).toNat 0) = 2 := by rw [show (ns.getD (a).toNat 0) = 2 by assumption]; rfl
            have hok_ := okP_lit (k := ys_.getD 0 0) (m := (ys_.getD 1 0).toNat - 2) (z := 2) (lo := 1) (hi := 1) (by rw [hy0]; exact hsz_) (by decide) (show _ = (1 : Int) by rw [hy0, show (ns.getD (a).toNat 0) = 2 by assumption]; rfl) (show _ = (1 : Int) by rw [hy0, show (ns.getD (a).toNat 0) = 2 by assumption]; rfl)
            rw [decide_eq_true (by omega)] at hok_
            have he_ : oneE ys_ = 0 := oneE_fine (by omega) (by omega) (by omega) hok_
            have hP_ : optP ns = ([], 5) := (optP_of (by omega)).trans (hpa.symm.trans (parse_had (by omega) (by omega) (by omega) he_ (by rw [hy0]; assumption)))
            rw [hP_]
            exact ⟨none, 0, [], rfl, rfl, rfl⟩
           ·
            refine Ra 18 (Qo B59 4075516 2) 1 [Qs B59 4075517, Qs B59 2037759] [(108, I6 (IntKind.i64.wrap (a + 2)))] ?_
            refine Kn 108 .i64 (a + 2) rfl (wi64 (by omega) (by omega)) ?_
            refine Rn 4 (Qc B59 8151034) [.blk 4, Qs B59 2037759, .blk 1, .loop J2, .blk 0, Qs B59 63] ⟨141, [(0, VL A ns.length c), (4, VL B_ n_ c_), (5, I6 a), (7, I6 (ns.getD ((a + 1).toNat) 0)), (8, .own 8 0), (9, I6 2), (10, I6 (a + 2))], [(8, ⟨65, [I6 (ns.getD a.toNat 0), VL none 0 0, VT ByteArray.empty]⟩)]⟩ ?_
            refine X.nilRow 31 29 1 rfl ?_
            have hin0_ : inB ys_ = (ns.take (a.toNat + (ns.getD (a + 1).toNat 0).toNat)).drop (a.toNat + 2) := by rw [← hys_]; exact inB_of (by rw [hys_]; exact hy1) rfl
            refine X.loopJ (fun m s R' G' => ∃ (D_ : Option Addr) (d_ j_ : Nat) (p_ : List Int) (k : Int), s = ⟨141, [(0, VL A ns.length c), (4, VL B_ n_ c_), (5, I6 a), (7, I6 (ns.getD ((a + 1).toNat) 0)), (8, .own 8 0), (9, I6 2), (10, I6 k)], [(8, ⟨65, [I6 (ns.getD a.toNat 0), VL D_ j_ d_, VT ByteArray.empty]⟩)]⟩ ∧ R' = [(31, RR 29 1 D_ j_ d_ ((p_).map (Value.int .u32))), (30, RR 65 3 B_ n_ c_ qs_)] ∧ Ge G2 w.heap.size G' ∧ (k = a + 2 + j_ * 2 ∧ k ≤ a + ns.getD (a + 1).toNat 0 ∧ p_ = numsOf (inB ys_) 2 j_) ∧ m = (a + ns.getD (a + 1).toNat 0 - k).toNat) _ ⟨none, 0, 0, [], a + 2, rfl, rfl, Ge.refl _ _, ⟨by omega, by omega, rfl⟩, rfl⟩ ?_
            rintro m35 s35 R35 G35 ⟨D_, d_, j_, p_, k, rfl, rfl, hG35, hF35, rfl⟩ J35 hJ35
            replace hr := hr.mono hG35.le
            replace hcs := hcs.mono hG35.le
            obtain ⟨hk, hk1, hp⟩ := hF35
            refine Ra 10 (Qo B59 65208272 7) 0 [Qs B59 65208273, Qs B59 32604137] [(111, VB true), (112, I6 k), (115, I6 (IntKind.i64.wrap (a + (ns.getD ((a + 1).toNat) 0))))] ?_
            refine Kn 115 .i64 (a + (ns.getD ((a + 1).toNat) 0)) rfl (wi64 (by omega) (by omega)) ?_
            refine Ra 4 (Qc B59 65208273) 1 [] [(117, VB (decide (k < a + (ns.getD ((a + 1).toNat) 0))))] ?_
            refine Sd 117 rfl ?_ ?_ <;> intro h36
            ·
             refine Ra 5 (Qc B59 130416548) 1 [.blk 5, Qs B59 65208275] [] ?_
             have hr_d37 := hr
             have hcs_d37 := hcs
             refine Oh 31 B59 130416548 13 [⟨some 8, 8, 65, [I6 (ns.getD a.toNat 0), VL D_ j_ d_, VT ByteArray.empty]⟩] [] [12] ⟨P1, trivial⟩ Mt (fun ρ0 => ?_)
             refine Tk 0 13 1 B59 130416548 (.own 8 1) QOk.ctxG ?_
             refine Tk 1 13 3 B59 130416548 (VL D_ j_ d_) QOk.ctxG ?_
             refine Tk 2 13 7 B59 130416548 (VL A ns.length c) QOk.ctxG ?_
             refine Tk 3 13 15 B59 130416548 (I6 k) QOk.ctxG ?_
             refine Tk 4 13 31 B59 130416548 (I6 k) QOk.ctxG ?_
             refine Tk 5 13 63 B59 130416548 (I6 2) QOk.ctxG ?_
             refine Tk 6 13 127 B59 130416548 (I6 (IntKind.i64.wrap (k + 2))) QOk.ctxG ?_
             refine Dk 127 .i64 (k + 2) rfl (wi64 (by omega) (by omega)) ?_
             have hlo38 : (k).toNat ≤ (k + 2).toNat := by omega
             have hhi38 : (k + 2).toNat ≤ ns.length := by omega
             refine XD.cut (i := 7) (l' := (lb 13 255)) (o := (oA B59 (pa 130416548) 7)) (t := 22) (e := 5) (sz := 1) (n := ns.length) (c := c) (A := A) (x := .tmp 123) (l0 := (some (.tmp 124))) (h := (some (.tmp 127))) (lv := (some (N6 k))) (hv := (some (N6 (k + 2)))) k.toNat ((k + 2).toNat) QOk.ctxG (by kernel_rfl) (by kernel_rfl) (by kernel_rfl) (by kernel_rfl) (by kernel_rfl) (by kernel_rfl) (by kernel_rfl) (by kernel_rfl) (by kernel_rfl) (⟨_, _, rfl, by omega, rfl⟩) (⟨_, _, rfl, by omega, rfl⟩) hlo38 (Nat.le_trans hhi38 hle) (by kernel_rfl) ?_
             obtain ⟨A38, hA38⟩ : ∃ A_, cutA A c ((k).toNat) 1 = A_ := ⟨_, rfl⟩
             obtain ⟨ys38, hys38⟩ : ∃ l_, (ns.take ((k + 2).toNat)).drop ((k).toNat) = l_ := ⟨_, rfl⟩
             have hr38 : rowAt (D.int .u8) G35 (cutA A c ((k).toNat) 1) ((ns.take ((k + 2).toNat)).drop ((k).toNat)) := rowAt_cut hr hlo38 hhi38 hle
             have hl38 : ((k + 2).toNat) - ((k).toNat) = ys38.length := by rw [← hys38, List.length_drop, List.length_take]; omega
             have hc38 : ys38.length ≤ c - ((k).toNat) := by omega
             have hm38 : c - ((k).toNat) ≤ maxLen := Nat.le_trans (Nat.sub_le _ _) hmx
             rw [hys38, show cutA A c ((k).toNat) _ = A38 from hA38] at hr38
             rw [hA38, hl38]
             refine Do 8 13 511 B59 130416548 ?_
             refine Cg 122 [.slice A38 ys38.length (c - k.toNat)] 0 (numO_ok A38 (c - k.toNat) ys38 _ hr38 hc38 hm38) ?_
             rintro v39 G39 rows39 hG39 ⟨rfl, rfl⟩
             replace hr := hr.mono hG39.le
             replace hcs := hcs.mono hG39.le
             replace hr38 := hr38.mono hG39.le
             refine X.back ⟨⟨P1, trivial⟩, hG39.le, rfl, ?_⟩
             refine Do 9 13 1023 B59 130416548 ?_
             refine Lt 130 29 1 1 [N3 (num ys38)] ?_
             intro A40
             refine X.back ⟨⟨P1, trivial⟩, hG39.le, rfl, ?_⟩
             refine Do 10 13 2047 B59 130416548 ?_
             refine Ap 31 _ 63 4 (N3 0) (.tmp 122) (.tmp 130) j_ d_ 1 1 D_ A40 [N3 (num ys38)] (.inl rfl) (by kernel_rfl) (Ar 130 rfl) (Br 130 rfl) (ones (by kernel_rfl)) (by omega) ?_
             intro A41 c41 hc41
             refine Tc [130, 30] (cs' := (p_ ++ [num ys38]).map (Value.int .u32)) (by simp) ?_
             refine X.back ⟨⟨P1, trivial⟩, hG39.le, rfl, ?_⟩
             refine Ts [11] 13 4095 1 2 QOk.ctxG ?_
             refine XD.toE ?_
             refine En ⟨141, [(0, VL A ns.length c), (4, VL B_ n_ c_), (5, I6 a), (7, I6 (ns.getD ((a + 1).toNat) 0)), (8, .own 8 0), (9, I6 2), (10, I6 k), (131, VL A41 (j_ + 1) c41), (132, .own 8 1)], [(8, ⟨65, [I6 (ns.getD a.toNat 0), VL D_ j_ d_, VT ByteArray.empty]⟩)]⟩ ?_
             refine Eo 12 13 8191 B59 130416548 ?_
             refine X.simple (by kernel_rfl) ?_
             refine X.back ?_
             refine XE.done (by kernel_rfl) ?_
             refine Rb 6 (Qo B59 65208275 3) 2 [] [(120, I6 (IntKind.i64.wrap (k + 2)))] [] [(8, ⟨65, [I6 (ns.getD a.toNat 0), VL A41 (j_ + 1) c41, VT ByteArray.empty]⟩)] [] ?_
             refine Kn 120 .i64 (k + 2) rfl (wi64 (by omega) (by omega)) ?_
             refine Tr [31, 30] ?_
             have hps_ : ys38 = ((inB ys_).drop (j_ * 2)).take 2 := by rw [← hys38, hin0_, part_of (by omega)]; congr 1 <;> (try congr 1) <;> omega
             exact Rn 2 (.ex .normal) [.loop J35, .blk 4, Qs B59 2037759, .blk 1, .loop J2, .blk 0, Qs B59 63] _ (X.again (hJ35 _ _ _ _ ⟨A41, c41, j_ + 1, p_ ++ [num ys38], k + 2, rfl, rfl, (hG35.trans hG39), ⟨by omega, by omega, by rw [numsOf_succ, ← hps_, hp]⟩, rfl⟩ (by omega)))
            ·
             refine Tr [31, 30] ?_
             refine X.capLe (i := 31) rfl rfl ?_
             intro hle42 hmx42
             refine X.freezeHd (i := 31) (n := j_) (c := d_) (A := D_) (kd := .u32) (p_) rfl rfl (by intro n_ hn_; rw [hp] at hn_; have := numsOf_range _ _ _ n_ hn_; simp only [IntKind.lo, IntKind.hi]; omega) (by kernel_rfl) (fun _ h => h) ?_
             intro G42 hG42 hr42
             replace hr := hr.mono hG42.le
             replace hcs := hcs.mono hG42.le
             refine Rb 10 (Qo B59 4075518 2) 4 [Qs B59 4075519] [(133, VL B_ n_ c_), (134, .v (.agg #[N6 (ns.getD a.toNat 0), .slice D_ j_ d_, .string ByteArray.empty]))] [9, 10] [] [8] ?_
             refine Lt 135 65 3 1 [N6 (ns.getD a.toNat 0), .slice D_ j_ d_, .string ByteArray.empty] ?_
             intro A43
             refine Ra 0 (Qo B59 4075518 3) 0 [] [(135, VL A43 1 1)] ?_
             refine Ap 30 _ 59 48 (.agg #[N6 0, .slice none 0 0, .string ByteArray.empty]) (.tmp 133) (.tmp 135) n_ c_ 1 1 B_ A43 [N6 (ns.getD a.toNat 0), .slice D_ j_ d_, .string ByteArray.empty] (.inl rfl) (by kernel_rfl) (Ar 135 rfl) (Br 135 rfl) (ones (by kernel_rfl)) (by omega) ?_
             intro A44 c44 hc44
             refine Tr [30, 135] ?_
             refine Rc 7 (Qo B59 4075519 3) 1 [] [(4, VL A44 (n_ + 1) c44), (139, I6 (IntKind.i64.wrap (a + (ns.getD ((a + 1).toNat) 0))))] [7] ?_
             refine Kn 139 .i64 (a + (ns.getD ((a + 1).toNat) 0)) rfl (wi64 (by omega) (by omega)) ?_
             refine Tr [30] ?_
             have hsz_ : szk (ns.getD (a).toNat 0) = 2 := by rw [show (ns.getD (a).toNat 0) = 2 by assumption]; rfl
             have hok_ := okP_lit (k := ys_.getD 0 0) (m := (ys_.getD 1 0).toNat - 2) (z := 2) (lo := 1) (hi := 1) (by rw [hy0]; exact hsz_) (by decide) (show _ = (1 : Int) by rw [hy0, show (ns.getD (a).toNat 0) = 2 by assumption]; rfl) (show _ = (1 : Int) by rw [hy0, show (ns.getD (a).toNat 0) = 2 by assumption]; rfl)
             rw [decide_eq_true (by omega)] at hok_
             have he_ : oneE ys_ = 0 := oneE_fine (by omega) (by omega) (by omega) hok_
             have hN_ : oneN ys_ = ns.getD (a + 1).toNat 0 := by rw [← hy1]; unfold oneN; rw [if_pos he_]
             have e1 : (a + ns.getD (a + 1).toNat 0).toNat = a.toNat + (oneN ys_).toNat := by omega
             have hcn_ : (inB ys_).length / 2 = j_ := by rw [inB_len (by omega)]; omega
             have ho_ : oneO ys_ = ((ns.getD (a).toNat 0), p_, ⟨#[]⟩) := by unfold oneO optS; rw [if_pos he_, hy0, hsz_, if_neg (by decide), hp]; show (_, numsOf _ 2 ((inB ys_).length / 2), _) = _; rw [hcn_]
             have hpl_ : p_.length = j_ := by rw [hp, numsOf_len]
             have hrep_ := opt_rep (G := G42) (k := (ns.getD (a).toNat 0)) (s := ⟨#[]⟩) (ns := p_) (by simp only [IntKind.lo, IntKind.hi]; omega) (by rw [hpl_]; exact hle42) hmx42 hr42 ⟨rfl, Nat.zero_le _⟩
             rw [← ho_, hpl_] at hrep_
             have hpp_ := parse_step (acc := l_) (l := ys_) (by omega) (by omega) (by omega) he_ (by rw [hy0]; assumption)
             exact Rn 3 (.ex .normal) [.loop J2, .blk 0, Qs B59 63] _ (X.again (hJ2 _ _ _ _ ⟨A44, c44, n_ + 1, a + (ns.getD ((a + 1).toNat) 0), l_ ++ [oneO ys_], qs_ ++ [N6 (ns.getD a.toNat 0), .slice D_ j_ d_, .string ByteArray.empty], rfl, rfl, ((hG2.trans hG35).trans hG42), ⟨by omega, by omega, by rw [e1, ← List.drop_drop, hys_, ← hpp_]; exact hpa, repsD_snoc hcs hrep_, by rw [List.length_append, ← hn]; rfl, by omega⟩, rfl⟩ (by omega)))
        ·
         refine Ra 10 (Qc B112 29) 1 [Qs B112 15] [(6, VB ((ns.getD a.toNat 0) == 8))] ?_
         refine Se 6 rfl ?_ ?_ <;> intro h45
         ·
          refine Rn 8 (.ex .ret) [] ⟨13, [(2, I6 4)], [(1008, ⟨65, [I6 (ns.getD a.toNat 0), VL none 0 0, VT ByteArray.empty]⟩)]⟩ ?_
          refine fin27 _ _ _ _ [N6 4] [(8, ⟨65, [I6 (ns.getD a.toNat 0), VL none 0 0, VT ByteArray.empty]⟩)] (.inl rfl) (by kernel_rfl) (by kernel_rfl) ?_
          refine Ra 5 (Qc B59 1018876) 1 [Qs B59 1018877, Qs B59 509439] [(9, I6 4)] ?_
          have hr_d46 := hr
          have hcs_d46 := hcs
          refine Oh 24 B59 1018876 25 [⟨some 8, 8, 65, [I6 (ns.getD a.toNat 0), VL none 0 0, VT ByteArray.empty]⟩] [] [] ⟨P1, trivial⟩ Mt (fun ρ0 => ?_)
          refine Tk 0 25 1 B59 1018876 (I6 4) QOk.ctxG ?_
          refine Tk 1 25 3 B59 1018876 (VB true) QOk.ctxG ?_
          refine Tk 2 25 7 B59 1018876 (VB true) QOk.ctxG ?_
          refine Tk 3 25 15 B59 1018876 (I6 (ns.getD ((a + 1).toNat) 0)) QOk.ctxG ?_
          refine Tk 4 25 31 B59 1018876 (I6 (IntKind.i64.wrap ((ns.getD ((a + 1).toNat) 0) - 2))) QOk.ctxG ?_
          refine Dk 75 .i64 ((ns.getD ((a + 1).toNat) 0) - 2) rfl (wi64 (by omega) (by omega)) ?_
          refine Tk 5 25 63 B59 1018876 (I6 4) QOk.ctxG ?_
          refine Tk 6 25 127 B59 1018876 (I6 (Int.tmod ((ns.getD ((a + 1).toNat) 0) - 2) 4)) QOk.ctxG ?_
          refine Dk 77 .i64 (((ns.getD ((a + 1).toNat) 0) - 2) % 4) rfl (Int.tmod_eq_emod_of_nonneg (by omega)) ?_
          refine Tk 7 25 255 B59 1018876 (VB ((((ns.getD ((a + 1).toNat) 0) - 2) % 4) != 0)) QOk.ctxG ?_
          refine Tk 8 25 511 B59 1018876 (VB ((((ns.getD ((a + 1).toNat) 0) - 2) % 4) != 0)) QOk.ctxG ?_
          refine XD.split 79 rfl (fun h47 => ?_) (fun h47 => ?_)
          ·
           replace h47 : (((ns.getD ((a + 1).toNat) 0) - 2) % 4) ≠ 0 := by simpa using h47
           refine Ts [9, 10, 11, 12, 13, 14, 15, 16, 17, 18, 19, 20, 21, 22, 23, 24] 25 33554431 0 16 QOk.ctxG ?_
           refine XD.done (by kernel_rfl) ?_
           refine Rn 14 (.ex .ret) [] ⟨141, [(2, VL none 0 0), (3, I6 5)], []⟩ ?_
           refine X.nilRow 900 65 3 rfl ?_
           refine Dg (.inl rfl) [.slice none 0 0, N6 5] [900] rfl (hG2) ?_
           have hsz_ : szk (ns.getD (a).toNat 0) = 4 := by rw [show (ns.getD (a).toNat 0) = 8 by assumption]; rfl
           have hok_ := okP_lit (k := ys_.getD 0 0) (m := (ys_.getD 1 0).toNat - 2) (z := 4) (lo := 2) (hi := 2) (by rw [hy0]; exact hsz_) (by decide) (show _ = (2 : Int) by rw [hy0, show (ns.getD (a).toNat 0) = 8 by assumption]; rfl) (show _ = (2 : Int) by rw [hy0, show (ns.getD (a).toNat 0) = 8 by assumption]; rfl)
           rw [decide_eq_false (by omega)] at hok_
           have he_ : oneE ys_ = 5 := oneE_form (by omega) (by omega) (by omega) hok_
           have hP_ : optP ns = ([], 5) := (optP_of (by omega)).trans (hpa.symm.trans ((parse_err (by omega) (by omega) (by omega) (by rw [he_]; decide)).trans (by rw [he_])))
           rw [hP_]
           exact ⟨none, 0, [], rfl, rfl, rfl⟩
          ·
           replace h47 : (((ns.getD ((a + 1).toNat) 0) - 2) % 4) = 0 := by simpa using h47
           refine Tk 9 25 1023 B59 1018876 (.own 8 0) QOk.ctxG ?_
           refine Tk 10 25 2047 B59 1018876 (I6 (ns.getD a.toNat 0)) QOk.ctxG ?_
           refine Tk 11 25 4095 B59 1018876 (I6 (ns.getD ((a + 1).toNat) 0)) QOk.ctxG ?_
           refine Tk 12 25 8191 B59 1018876 (I6 (IntKind.i64.wrap ((ns.getD ((a + 1).toNat) 0) - 2))) QOk.ctxG ?_
           refine Dk 83 .i64 ((ns.getD ((a + 1).toNat) 0) - 2) rfl (wi64 (by omega) (by omega)) ?_
           refine Tk 13 25 16383 B59 1018876 (I6 4) QOk.ctxG ?_
           refine Tk 14 25 32767 B59 1018876 (I6 (IntKind.i64.wrap (Int.tdiv ((ns.getD ((a + 1).toNat) 0) - 2) 4))) QOk.ctxG ?_
           refine Dk 85 .i64 (((ns.getD ((a + 1).toNat) 0) - 2) / 4) rfl (wdiv_i64 (by omega) (by omega) (by omega)) ?_
           refine Do 15 25 65535 B59 1018876 ?_
           refine X.inline (f := 121) (l := [I6 (ns.getD a.toNat 0), I6 (((ns.getD ((a + 1).toNat) 0) - 2) / 4)]) (fn := Try.f121) (c := B121) (by kernel_rfl) (by kernel_rfl) Try.func121 (by kernel_rfl) ?_
           intro Q48 M48 hM48 hQ48 fin48
           refine Ra 12 (Qc B121 13) 0 [Qs B121 7] [(4, VB false), (6, VB ((ns.getD a.toNat 0) == 2))] ?_
           refine X.isFalse 6 rfl (by rw [show (ns.getD (a).toNat 0) = 8 by assumption]; decide) ?_
           refine Rn 10 (Qc B121 29) [Qs B121 15] ⟨15, [(1, I6 (((ns.getD ((a + 1).toNat) 0) - 2) / 4)), (4, VB false), (10, VB ((ns.getD a.toNat 0) == 8))], [(1008, ⟨65, [I6 (ns.getD a.toNat 0), VL none 0 0, VT ByteArray.empty]⟩)]⟩ ?_
           refine X.isTrue 10 rfl (by simpa using (show (ns.getD (a).toNat 0) = 8 by assumption)) ?_
           refine Rc 10 (.ex .ret) 1 [] [(4, VB ((((ns.getD ((a + 1).toNat) 0) - 2) / 4) == 2))] [1, 10] ?_
           refine fin48 _ _ _ _ [.bool ((((ns.getD ((a + 1).toNat) 0) - 2) / 4) == 2)] [(8, ⟨65, [I6 (ns.getD a.toNat 0), VL none 0 0, VT ByteArray.empty]⟩)] (.inl rfl) (by kernel_rfl) (by kernel_rfl) ?_
           refine X.back ⟨⟨P1, trivial⟩, Le.refl _, by kernel_rfl, ?_⟩
           refine Tk 16 25 131071 B59 1018876 (VB (!((((ns.getD ((a + 1).toNat) 0) - 2) / 4) == 2))) QOk.ctxG ?_
           refine Tk 17 25 262143 B59 1018876 (VB (!((((ns.getD ((a + 1).toNat) 0) - 2) / 4) == 2))) QOk.ctxG ?_
           refine Tk 18 25 524287 B59 1018876 (VB (!((((ns.getD ((a + 1).toNat) 0) - 2) / 4) == 2))) QOk.ctxG ?_
           refine Tk 19 25 1048575 B59 1018876 (VB (!((((ns.getD ((a + 1).toNat) 0) - 2) / 4) == 2))) QOk.ctxG ?_
           refine XD.split 90 rfl (fun h49 => ?_) (fun h49 => ?_)
           ·
            replace h49 : ((((ns.getD ((a + 1).toNat) 0) - 2) / 4) == 2) = false := by first | (simpa using h49; done) | (have h_ := congrArg (fun b_ => !b_) h49; simpa only [Bool.not_not, Bool.not_true, Bool.not_false] using h_)
            replace h49 : (((ns.getD ((a + 1).toNat) 0) - 2) / 4) ≠ 2 := by simpa using h49
            refine Ts [20, 21, 22, 23, 24] 25 33554431 0 5 QOk.ctxG ?_
            refine XD.done (by kernel_rfl) ?_
            refine Rn 14 (.ex .ret) [] ⟨141, [(2, VL none 0 0), (3, I6 5)], []⟩ ?_
            refine X.nilRow 900 65 3 rfl ?_
            refine Dg (.inl rfl) [.slice none 0 0, N6 5] [900] rfl (hG2) ?_
            have hsz_ : szk (ns.getD (a).toNat 0) = 4 := by rw [show (ns.getD (a).toNat 0) = 8 by assumption]; rfl
            have hok_ := okP_lit (k := ys_.getD 0 0) (m := (ys_.getD 1 0).toNat - 2) (z := 4) (lo := 2) (hi := 2) (by rw [hy0]; exact hsz_) (by decide) (show _ = (2 : Int) by rw [hy0, show (ns.getD (a).toNat 0) = 8 by assumption]; rfl) (show _ = (2 : Int) by rw [hy0, show (ns.getD (a).toNat 0) = 8 by assumption]; rfl)
            rw [decide_eq_false (by omega)] at hok_
            have he_ : oneE ys_ = 5 := oneE_form (by omega) (by omega) (by omega) hok_
            have hP_ : optP ns = ([], 5) := (optP_of (by omega)).trans (hpa.symm.trans ((parse_err (by omega) (by omega) (by omega) (by rw [he_]; decide)).trans (by rw [he_])))
            rw [hP_]
            exact ⟨none, 0, [], rfl, rfl, rfl⟩
           ·
            replace h49 : ((((ns.getD ((a + 1).toNat) 0) - 2) / 4) == 2) = true := by first | (simpa using h49; done) | (have h_ := congrArg (fun b_ => !b_) h49; simpa only [Bool.not_not, Bool.not_true, Bool.not_false] using h_)
            replace h49 : (((ns.getD ((a + 1).toNat) 0) - 2) / 4) = 2 := by simpa using h49
            refine Ts [20, 21, 22] 25 8388607 2 5 QOk.ctxG ?_
            refine Dn ⟨141, [(0, VL A ns.length c), (4, VL B_ n_ c_), (5, I6 a), (7, I6 (ns.getD ((a + 1).toNat) 0)), (8, .own 8 0), (9, I6 4), (90, VB false), (91, VL B_ n_ c_), (93, I6 (ns.getD a.toNat 0))], [(8, ⟨65, [I6 (ns.getD a.toNat 0), VL none 0 0, VT ByteArray.empty]⟩)]⟩ ⟨P1, trivial⟩ ?_
            refine Do 23 25 16777215 B59 1018876 ?_
            refine X.capLe (i := 30) rfl rfl ?_
            intro hle50 hmx50
            refine X.callV (f := 111) (l := [VL B_ n_ c_, I6 (ns.getD a.toNat 0)]) (Q := fun v_ => v_ = .bool (hadB l_ (ns.getD a.toNat 0))) [.slice B_ n_ c_, N6 (ns.getD a.toNat 0)] (by kernel_rfl) (by kernel_rfl) (by kernel_rfl) (fun G1_ hl_ hr_ => by rw [hn]; exact (rHad_ok B_ c_ l_ (ns.getD a.toNat 0) G1_ (rowLit (hr_ 30 _ rfl) (hcs.mono hl_) (by decide)) (by omega) hmx50).mono (fun _ _ _ _ h_ => h_.1)) ?_
            rintro _ rfl
            refine X.back ⟨⟨P1, trivial⟩, Le.refl _, by kernel_rfl, ?_⟩
            refine Ts [24] 25 33554431 0 1 QOk.ctxG ?_
            refine XD.done (by kernel_rfl) ?_
            refine Rn 1 (Qc B59 1018877) [Qs B59 509439, .blk 1, .loop J2, .blk 0, Qs B59 63] ⟨141, [(0, VL A ns.length c), (4, VL B_ n_ c_), (5, I6 a), (7, I6 (ns.getD ((a + 1).toNat) 0)), (8, .own 8 0), (9, I6 4), (95, VB (hadB l_ (ns.getD a.toNat 0)))], [(8, ⟨65, [I6 (ns.getD a.toNat 0), VL none 0 0, VT ByteArray.empty]⟩)]⟩ ?_
            refine X.split 95 rfl (fun h51 => ?_) (fun h51 => ?_)
            ·
             refine Rn 13 (.ex .ret) [] ⟨141, [(2, VL none 0 0), (3, I6 5)], []⟩ ?_
             refine X.nilRow 900 65 3 rfl ?_
             refine Dg (.inl rfl) [.slice none 0 0, N6 5] [900] rfl (hG2) ?_
             have hsz_ : szk (ns.getD (a).toNat 0) = 4 := by rw [show (ns.getD (a).toNat 0) = 8 by assumption]; rfl
             have hok_ := okP_lit (k := ys_.getD 0 0) (m := (ys_.getD 1 0).toNat - 2) (z := 4) (lo := 2) (hi := 2) (by rw [hy0]; exact hsz_) (by decide) (show _ = (2 : Int) by rw [hy0, show (ns.getD (a).toNat 0) = 8 by assumption]; rfl) (show _ = (2 : Int) by rw [hy0, show (ns.getD (a).toNat 0) = 8 by assumption]; rfl)
             rw [decide_eq_true (by omega)] at hok_
             have he_ : oneE ys_ = 0 := oneE_fine (by omega) (by omega) (by omega) hok_
             have hP_ : optP ns = ([], 5) := (optP_of (by omega)).trans (hpa.symm.trans (parse_had (by omega) (by omega) (by omega) he_ (by rw [hy0]; assumption)))
             rw [hP_]
             exact ⟨none, 0, [], rfl, rfl, rfl⟩
            ·
             refine Ra 18 (Qo B59 4075516 2) 1 [Qs B59 4075517, Qs B59 2037759] [(108, I6 (IntKind.i64.wrap (a + 2)))] ?_
             refine Kn 108 .i64 (a + 2) rfl (wi64 (by omega) (by omega)) ?_
             refine Rn 4 (Qc B59 8151034) [.blk 4, Qs B59 2037759, .blk 1, .loop J2, .blk 0, Qs B59 63] ⟨141, [(0, VL A ns.length c), (4, VL B_ n_ c_), (5, I6 a), (7, I6 (ns.getD ((a + 1).toNat) 0)), (8, .own 8 0), (9, I6 4), (10, I6 (a + 2))], [(8, ⟨65, [I6 (ns.getD a.toNat 0), VL none 0 0, VT ByteArray.empty]⟩)]⟩ ?_
             refine X.nilRow 31 29 1 rfl ?_
             have hin0_ : inB ys_ = (ns.take (a.toNat + (ns.getD (a + 1).toNat 0).toNat)).drop (a.toNat + 2) := by rw [← hys_]; exact inB_of (by rw [hys_]; exact hy1) rfl
             refine X.loopJ (fun m s R' G' => ∃ (D_ : Option Addr) (d_ j_ : Nat) (p_ : List Int) (k : Int), s = ⟨141, [(0, VL A ns.length c), (4, VL B_ n_ c_), (5, I6 a), (7, I6 (ns.getD ((a + 1).toNat) 0)), (8, .own 8 0), (9, I6 4), (10, I6 k)], [(8, ⟨65, [I6 (ns.getD a.toNat 0), VL D_ j_ d_, VT ByteArray.empty]⟩)]⟩ ∧ R' = [(31, RR 29 1 D_ j_ d_ ((p_).map (Value.int .u32))), (30, RR 65 3 B_ n_ c_ qs_)] ∧ Ge G2 w.heap.size G' ∧ (k = a + 2 + j_ * 4 ∧ k ≤ a + ns.getD (a + 1).toNat 0 ∧ p_ = numsOf (inB ys_) 4 j_) ∧ m = (a + ns.getD (a + 1).toNat 0 - k).toNat) _ ⟨none, 0, 0, [], a + 2, rfl, rfl, Ge.refl _ _, ⟨by omega, by omega, rfl⟩, rfl⟩ ?_
             rintro m52 s52 R52 G52 ⟨D_, d_, j_, p_, k, rfl, rfl, hG52, hF52, rfl⟩ J52 hJ52
             replace hr := hr.mono hG52.le
             replace hcs := hcs.mono hG52.le
             obtain ⟨hk, hk1, hp⟩ := hF52
             refine Ra 10 (Qo B59 65208272 7) 0 [Qs B59 65208273, Qs B59 32604137] [(111, VB true), (112, I6 k), (115, I6 (IntKind.i64.wrap (a + (ns.getD ((a + 1).toNat) 0))))] ?_
             refine Kn 115 .i64 (a + (ns.getD ((a + 1).toNat) 0)) rfl (wi64 (by omega) (by omega)) ?_
             refine Ra 4 (Qc B59 65208273) 1 [] [(117, VB (decide (k < a + (ns.getD ((a + 1).toNat) 0))))] ?_
             refine Sd 117 rfl ?_ ?_ <;> intro h53
             ·
              refine Ra 5 (Qc B59 130416548) 1 [.blk 5, Qs B59 65208275] [] ?_
              have hr_d54 := hr
              have hcs_d54 := hcs
              refine Oh 31 B59 130416548 13 [⟨some 8, 8, 65, [I6 (ns.getD a.toNat 0), VL D_ j_ d_, VT ByteArray.empty]⟩] [] [12] ⟨P1, trivial⟩ Mt (fun ρ0 => ?_)
              refine Tk 0 13 1 B59 130416548 (.own 8 1) QOk.ctxG ?_
              refine Tk 1 13 3 B59 130416548 (VL D_ j_ d_) QOk.ctxG ?_
              refine Tk 2 13 7 B59 130416548 (VL A ns.length c) QOk.ctxG ?_
              refine Tk 3 13 15 B59 130416548 (I6 k) QOk.ctxG ?_
              refine Tk 4 13 31 B59 130416548 (I6 k) QOk.ctxG ?_
              refine Tk 5 13 63 B59 130416548 (I6 4) QOk.ctxG ?_
              refine Tk 6 13 127 B59 130416548 (I6 (IntKind.i64.wrap (k + 4))) QOk.ctxG ?_
              refine Dk 127 .i64 (k + 4) rfl (wi64 (by omega) (by omega)) ?_
              have hlo55 : (k).toNat ≤ (k + 4).toNat := by omega
              have hhi55 : (k + 4).toNat ≤ ns.length := by omega
              refine XD.cut (i := 7) (l' := (lb 13 255)) (o := (oA B59 (pa 130416548) 7)) (t := 22) (e := 5) (sz := 1) (n := ns.length) (c := c) (A := A) (x := .tmp 123) (l0 := (some (.tmp 124))) (h := (some (.tmp 127))) (lv := (some (N6 k))) (hv := (some (N6 (k + 4)))) k.toNat ((k + 4).toNat) QOk.ctxG (by kernel_rfl) (by kernel_rfl) (by kernel_rfl) (by kernel_rfl) (by kernel_rfl) (by kernel_rfl) (by kernel_rfl) (by kernel_rfl) (by kernel_rfl) (⟨_, _, rfl, by omega, rfl⟩) (⟨_, _, rfl, by omega, rfl⟩) hlo55 (Nat.le_trans hhi55 hle) (by kernel_rfl) ?_
              obtain ⟨A55, hA55⟩ : ∃ A_, cutA A c ((k).toNat) 1 = A_ := ⟨_, rfl⟩
              obtain ⟨ys55, hys55⟩ : ∃ l_, (ns.take ((k + 4).toNat)).drop ((k).toNat) = l_ := ⟨_, rfl⟩
              have hr55 : rowAt (D.int .u8) G52 (cutA A c ((k).toNat) 1) ((ns.take ((k + 4).toNat)).drop ((k).toNat)) := rowAt_cut hr hlo55 hhi55 hle
              have hl55 : ((k + 4).toNat) - ((k).toNat) = ys55.length := by rw [← hys55, List.length_drop, List.length_take]; omega
              have hc55 : ys55.length ≤ c - ((k).toNat) := by omega
              have hm55 : c - ((k).toNat) ≤ maxLen := Nat.le_trans (Nat.sub_le _ _) hmx
              rw [hys55, show cutA A c ((k).toNat) _ = A55 from hA55] at hr55
              rw [hA55, hl55]
              refine Do 8 13 511 B59 130416548 ?_
              refine Cg 122 [.slice A55 ys55.length (c - k.toNat)] 0 (numO_ok A55 (c - k.toNat) ys55 _ hr55 hc55 hm55) ?_
              rintro v56 G56 rows56 hG56 ⟨rfl, rfl⟩
              replace hr := hr.mono hG56.le
              replace hcs := hcs.mono hG56.le
              replace hr55 := hr55.mono hG56.le
              refine X.back ⟨⟨P1, trivial⟩, hG56.le, rfl, ?_⟩
              refine Do 9 13 1023 B59 130416548 ?_
              refine Lt 130 29 1 1 [N3 (num ys55)] ?_
              intro A57
              refine X.back ⟨⟨P1, trivial⟩, hG56.le, rfl, ?_⟩
              refine Do 10 13 2047 B59 130416548 ?_
              refine Ap 31 _ 63 4 (N3 0) (.tmp 122) (.tmp 130) j_ d_ 1 1 D_ A57 [N3 (num ys55)] (.inl rfl) (by kernel_rfl) (Ar 130 rfl) (Br 130 rfl) (ones (by kernel_rfl)) (by omega) ?_
              intro A58 c58 hc58
              refine Tc [130, 30] (cs' := (p_ ++ [num ys55]).map (Value.int .u32)) (by simp) ?_
              refine X.back ⟨⟨P1, trivial⟩, hG56.le, rfl, ?_⟩
              refine Ts [11] 13 4095 1 2 QOk.ctxG ?_
              refine XD.toE ?_
              refine En ⟨141, [(0, VL A ns.length c), (4, VL B_ n_ c_), (5, I6 a), (7, I6 (ns.getD ((a + 1).toNat) 0)), (8, .own 8 0), (9, I6 4), (10, I6 k), (131, VL A58 (j_ + 1) c58), (132, .own 8 1)], [(8, ⟨65, [I6 (ns.getD a.toNat 0), VL D_ j_ d_, VT ByteArray.empty]⟩)]⟩ ?_
              refine Eo 12 13 8191 B59 130416548 ?_
              refine X.simple (by kernel_rfl) ?_
              refine X.back ?_
              refine XE.done (by kernel_rfl) ?_
              refine Rb 6 (Qo B59 65208275 3) 2 [] [(120, I6 (IntKind.i64.wrap (k + 4)))] [] [(8, ⟨65, [I6 (ns.getD a.toNat 0), VL A58 (j_ + 1) c58, VT ByteArray.empty]⟩)] [] ?_
              refine Kn 120 .i64 (k + 4) rfl (wi64 (by omega) (by omega)) ?_
              refine Tr [31, 30] ?_
              have hps_ : ys55 = ((inB ys_).drop (j_ * 4)).take 4 := by rw [← hys55, hin0_, part_of (by omega)]; congr 1 <;> (try congr 1) <;> omega
              exact Rn 2 (.ex .normal) [.loop J52, .blk 4, Qs B59 2037759, .blk 1, .loop J2, .blk 0, Qs B59 63] _ (X.again (hJ52 _ _ _ _ ⟨A58, c58, j_ + 1, p_ ++ [num ys55], k + 4, rfl, rfl, (hG52.trans hG56), ⟨by omega, by omega, by rw [numsOf_succ, ← hps_, hp]⟩, rfl⟩ (by omega)))
             ·
              refine Tr [31, 30] ?_
              refine X.capLe (i := 31) rfl rfl ?_
              intro hle59 hmx59
              refine X.freezeHd (i := 31) (n := j_) (c := d_) (A := D_) (kd := .u32) (p_) rfl rfl (by intro n_ hn_; rw [hp] at hn_; have := numsOf_range _ _ _ n_ hn_; simp only [IntKind.lo, IntKind.hi]; omega) (by kernel_rfl) (fun _ h => h) ?_
              intro G59 hG59 hr59
              replace hr := hr.mono hG59.le
              replace hcs := hcs.mono hG59.le
              refine Rb 10 (Qo B59 4075518 2) 4 [Qs B59 4075519] [(133, VL B_ n_ c_), (134, .v (.agg #[N6 (ns.getD a.toNat 0), .slice D_ j_ d_, .string ByteArray.empty]))] [9, 10] [] [8] ?_
              refine Lt 135 65 3 1 [N6 (ns.getD a.toNat 0), .slice D_ j_ d_, .string ByteArray.empty] ?_
              intro A60
              refine Ra 0 (Qo B59 4075518 3) 0 [] [(135, VL A60 1 1)] ?_
              refine Ap 30 _ 59 48 (.agg #[N6 0, .slice none 0 0, .string ByteArray.empty]) (.tmp 133) (.tmp 135) n_ c_ 1 1 B_ A60 [N6 (ns.getD a.toNat 0), .slice D_ j_ d_, .string ByteArray.empty] (.inl rfl) (by kernel_rfl) (Ar 135 rfl) (Br 135 rfl) (ones (by kernel_rfl)) (by omega) ?_
              intro A61 c61 hc61
              refine Tr [30, 135] ?_
              refine Rc 7 (Qo B59 4075519 3) 1 [] [(4, VL A61 (n_ + 1) c61), (139, I6 (IntKind.i64.wrap (a + (ns.getD ((a + 1).toNat) 0))))] [7] ?_
              refine Kn 139 .i64 (a + (ns.getD ((a + 1).toNat) 0)) rfl (wi64 (by omega) (by omega)) ?_
              refine Tr [30] ?_
              have hsz_ : szk (ns.getD (a).toNat 0) = 4 := by rw [show (ns.getD (a).toNat 0) = 8 by assumption]; rfl
              have hok_ := okP_lit (k := ys_.getD 0 0) (m := (ys_.getD 1 0).toNat - 2) (z := 4) (lo := 2) (hi := 2) (by rw [hy0]; exact hsz_) (by decide) (show _ = (2 : Int) by rw [hy0, show (ns.getD (a).toNat 0) = 8 by assumption]; rfl) (show _ = (2 : Int) by rw [hy0, show (ns.getD (a).toNat 0) = 8 by assumption]; rfl)
              rw [decide_eq_true (by omega)] at hok_
              have he_ : oneE ys_ = 0 := oneE_fine (by omega) (by omega) (by omega) hok_
              have hN_ : oneN ys_ = ns.getD (a + 1).toNat 0 := by rw [← hy1]; unfold oneN; rw [if_pos he_]
              have e1 : (a + ns.getD (a + 1).toNat 0).toNat = a.toNat + (oneN ys_).toNat := by omega
              have hcn_ : (inB ys_).length / 4 = j_ := by rw [inB_len (by omega)]; omega
              have ho_ : oneO ys_ = ((ns.getD (a).toNat 0), p_, ⟨#[]⟩) := by unfold oneO optS; rw [if_pos he_, hy0, hsz_, if_neg (by decide), hp]; show (_, numsOf _ 4 ((inB ys_).length / 4), _) = _; rw [hcn_]
              have hpl_ : p_.length = j_ := by rw [hp, numsOf_len]
              have hrep_ := opt_rep (G := G59) (k := (ns.getD (a).toNat 0)) (s := ⟨#[]⟩) (ns := p_) (by simp only [IntKind.lo, IntKind.hi]; omega) (by rw [hpl_]; exact hle59) hmx59 hr59 ⟨rfl, Nat.zero_le _⟩
              rw [← ho_, hpl_] at hrep_
              have hpp_ := parse_step (acc := l_) (l := ys_) (by omega) (by omega) (by omega) he_ (by rw [hy0]; assumption)
              exact Rn 3 (.ex .normal) [.loop J2, .blk 0, Qs B59 63] _ (X.again (hJ2 _ _ _ _ ⟨A61, c61, n_ + 1, a + (ns.getD ((a + 1).toNat) 0), l_ ++ [oneO ys_], qs_ ++ [N6 (ns.getD a.toNat 0), .slice D_ j_ d_, .string ByteArray.empty], rfl, rfl, ((hG2.trans hG52).trans hG59), ⟨by omega, by omega, by rw [e1, ← List.drop_drop, hys_, ← hpp_]; exact hpa, repsD_snoc hcs hrep_, by rw [List.length_append, ← hn]; rfl, by omega⟩, rfl⟩ (by omega)))
         ·
          refine Ra 9 (Qo B112 60 3) 1 [Qs B112 61, Qs B112 31] [(9, VB ((ns.getD a.toNat 0) == 172))] ?_
          refine Se 9 rfl ?_ ?_ <;> intro h62
          ·
           refine Rn 13 (.ex .ret) [] ⟨13, [(2, I6 3)], [(1008, ⟨65, [I6 (ns.getD a.toNat 0), VL none 0 0, VT ByteArray.empty]⟩)]⟩ ?_
           refine fin27 _ _ _ _ [N6 3] [(8, ⟨65, [I6 (ns.getD a.toNat 0), VL none 0 0, VT ByteArray.empty]⟩)] (.inl rfl) (by kernel_rfl) (by kernel_rfl) ?_
           refine Ra 5 (Qc B59 1018876) 1 [Qs B59 1018877, Qs B59 509439] [(9, I6 3)] ?_
           have hr_d63 := hr
           have hcs_d63 := hcs
           refine Oh 24 B59 1018876 25 [⟨some 8, 8, 65, [I6 (ns.getD a.toNat 0), VL none 0 0, VT ByteArray.empty]⟩] [] [] ⟨P1, trivial⟩ Mt (fun ρ0 => ?_)
           refine Tk 0 25 1 B59 1018876 (I6 3) QOk.ctxG ?_
           refine Tk 1 25 3 B59 1018876 (VB true) QOk.ctxG ?_
           refine Tk 2 25 7 B59 1018876 (VB true) QOk.ctxG ?_
           refine Tk 3 25 15 B59 1018876 (I6 (ns.getD ((a + 1).toNat) 0)) QOk.ctxG ?_
           refine Tk 4 25 31 B59 1018876 (I6 (IntKind.i64.wrap ((ns.getD ((a + 1).toNat) 0) - 2))) QOk.ctxG ?_
           refine Dk 75 .i64 ((ns.getD ((a + 1).toNat) 0) - 2) rfl (wi64 (by omega) (by omega)) ?_
           refine Tk 5 25 63 B59 1018876 (I6 3) QOk.ctxG ?_
           refine Tk 6 25 127 B59 1018876 (I6 (Int.tmod ((ns.getD ((a + 1).toNat) 0) - 2) 3)) QOk.ctxG ?_
           refine Dk 77 .i64 (((ns.getD ((a + 1).toNat) 0) - 2) % 3) rfl (Int.tmod_eq_emod_of_nonneg (by omega)) ?_
           refine Tk 7 25 255 B59 1018876 (VB ((((ns.getD ((a + 1).toNat) 0) - 2) % 3) != 0)) QOk.ctxG ?_
           refine Tk 8 25 511 B59 1018876 (VB ((((ns.getD ((a + 1).toNat) 0) - 2) % 3) != 0)) QOk.ctxG ?_
           refine XD.split 79 rfl (fun h64 => ?_) (fun h64 => ?_)
           ·
            replace h64 : (((ns.getD ((a + 1).toNat) 0) - 2) % 3) ≠ 0 := by simpa using h64
            refine Ts [9, 10, 11, 12, 13, 14, 15, 16, 17, 18, 19, 20, 21, 22, 23, 24] 25 33554431 0 16 QOk.ctxG ?_
            refine XD.done (by kernel_rfl) ?_
            refine Rn 14 (.ex .ret) [] ⟨141, [(2, VL none 0 0), (3, I6 5)], []⟩ ?_
            refine X.nilRow 900 65 3 rfl ?_
            refine Dg (.inl rfl) [.slice none 0 0, N6 5] [900] rfl (hG2) ?_
            have hsz_ : szk (ns.getD (a).toNat 0) = 3 := by rw [show (ns.getD (a).toNat 0) = 172 by assumption]; rfl
            have hok_ := okP_lit (k := ys_.getD 0 0) (m := (ys_.getD 1 0).toNat - 2) (z := 3) (lo := 0) (hi := 3) (by rw [hy0]; exact hsz_) (by decide) (show _ = (0 : Int) by rw [hy0, show (ns.getD (a).toNat 0) = 172 by assumption]; rfl) (show _ = (3 : Int) by rw [hy0, show (ns.getD (a).toNat 0) = 172 by assumption]; rfl)
            rw [decide_eq_false (by omega)] at hok_
            have he_ : oneE ys_ = 5 := oneE_form (by omega) (by omega) (by omega) hok_
            have hP_ : optP ns = ([], 5) := (optP_of (by omega)).trans (hpa.symm.trans ((parse_err (by omega) (by omega) (by omega) (by rw [he_]; decide)).trans (by rw [he_])))
            rw [hP_]
            exact ⟨none, 0, [], rfl, rfl, rfl⟩
           ·
            replace h64 : (((ns.getD ((a + 1).toNat) 0) - 2) % 3) = 0 := by simpa using h64
            refine Tk 9 25 1023 B59 1018876 (.own 8 0) QOk.ctxG ?_
            refine Tk 10 25 2047 B59 1018876 (I6 (ns.getD a.toNat 0)) QOk.ctxG ?_
            refine Tk 11 25 4095 B59 1018876 (I6 (ns.getD ((a + 1).toNat) 0)) QOk.ctxG ?_
            refine Tk 12 25 8191 B59 1018876 (I6 (IntKind.i64.wrap ((ns.getD ((a + 1).toNat) 0) - 2))) QOk.ctxG ?_
            refine Dk 83 .i64 ((ns.getD ((a + 1).toNat) 0) - 2) rfl (wi64 (by omega) (by omega)) ?_
            refine Tk 13 25 16383 B59 1018876 (I6 3) QOk.ctxG ?_
            refine Tk 14 25 32767 B59 1018876 (I6 (IntKind.i64.wrap (Int.tdiv ((ns.getD ((a + 1).toNat) 0) - 2) 3))) QOk.ctxG ?_
            refine Dk 85 .i64 (((ns.getD ((a + 1).toNat) 0) - 2) / 3) rfl (wdiv_i64 (by omega) (by omega) (by omega)) ?_
            refine Do 15 25 65535 B59 1018876 ?_
            refine X.inline (f := 121) (l := [I6 (ns.getD a.toNat 0), I6 (((ns.getD ((a + 1).toNat) 0) - 2) / 3)]) (fn := Try.f121) (c := B121) (by kernel_rfl) (by kernel_rfl) Try.func121 (by kernel_rfl) ?_
            intro Q65 M65 hM65 hQ65 fin65
            refine Ra 12 (Qc B121 13) 0 [Qs B121 7] [(4, VB false), (6, VB ((ns.getD a.toNat 0) == 2))] ?_
            refine X.isFalse 6 rfl (by rw [show (ns.getD (a).toNat 0) = 172 by assumption]; decide) ?_
            refine Rn 10 (Qc B121 29) [Qs B121 15] ⟨15, [(1, I6 (((ns.getD ((a + 1).toNat) 0) - 2) / 3)), (4, VB false), (10, VB ((ns.getD a.toNat 0) == 8))], [(1008, ⟨65, [I6 (ns.getD a.toNat 0), VL none 0 0, VT ByteArray.empty]⟩)]⟩ ?_
            refine X.isFalse 10 rfl (by rw [show (ns.getD (a).toNat 0) = 172 by assumption]; decide) ?_
            refine Rc 11 (.ex .ret) 1 [] [(4, VB (decide (((ns.getD ((a + 1).toNat) 0) - 2) / 3 ≤ 3)))] [1, 10] ?_
            refine fin65 _ _ _ _ [.bool (decide (((ns.getD ((a + 1).toNat) 0) - 2) / 3 ≤ 3))] [(8, ⟨65, [I6 (ns.getD a.toNat 0), VL none 0 0, VT ByteArray.empty]⟩)] (.inl rfl) (by kernel_rfl) (by kernel_rfl) ?_
            refine X.back ⟨⟨P1, trivial⟩, Le.refl _, by kernel_rfl, ?_⟩
            refine Tk 16 25 131071 B59 1018876 (VB (!(decide (((ns.getD ((a + 1).toNat) 0) - 2) / 3 ≤ 3)))) QOk.ctxG ?_
            refine Tk 17 25 262143 B59 1018876 (VB (!(decide (((ns.getD ((a + 1).toNat) 0) - 2) / 3 ≤ 3)))) QOk.ctxG ?_
            refine Tk 18 25 524287 B59 1018876 (VB (!(decide (((ns.getD ((a + 1).toNat) 0) - 2) / 3 ≤ 3)))) QOk.ctxG ?_
            refine Tk 19 25 1048575 B59 1018876 (VB (!(decide (((ns.getD ((a + 1).toNat) 0) - 2) / 3 ≤ 3)))) QOk.ctxG ?_
            refine XD.split 90 rfl (fun h66 => ?_) (fun h66 => ?_)
            ·
             replace h66 : (decide (((ns.getD ((a + 1).toNat) 0) - 2) / 3 ≤ 3)) = false := by first | (simpa using h66; done) | (have h_ := congrArg (fun b_ => !b_) h66; simpa only [Bool.not_not, Bool.not_true, Bool.not_false] using h_)
             replace h66 : ¬ (((ns.getD ((a + 1).toNat) 0) - 2) / 3 ≤ 3) := of_decide_eq_false h66
             refine Ts [20, 21, 22, 23, 24] 25 33554431 0 5 QOk.ctxG ?_
             refine XD.done (by kernel_rfl) ?_
             refine Rn 14 (.ex .ret) [] ⟨141, [(2, VL none 0 0), (3, I6 5)], []⟩ ?_
             refine X.nilRow 900 65 3 rfl ?_
             refine Dg (.inl rfl) [.slice none 0 0, N6 5] [900] rfl (hG2) ?_
             have hsz_ : szk (ns.getD (a).toNat 0) = 3 := by rw [show (ns.getD (a).toNat 0) = 172 by assumption]; rfl
             have hok_ := okP_lit (k := ys_.getD 0 0) (m := (ys_.getD 1 0).toNat - 2) (z := 3) (lo := 0) (hi := 3) (by rw [hy0]; exact hsz_) (by decide) (show _ = (0 : Int) by rw [hy0, show (ns.getD (a).toNat 0) = 172 by assumption]; rfl) (show _ = (3 : Int) by rw [hy0, show (ns.getD (a).toNat 0) = 172 by assumption]; rfl)
             rw [decide_eq_false (by omega)] at hok_
             have he_ : oneE ys_ = 5 := oneE_form (by omega) (by omega) (by omega) hok_
             have hP_ : optP ns = ([], 5) := (optP_of (by omega)).trans (hpa.symm.trans ((parse_err (by omega) (by omega) (by omega) (by rw [he_]; decide)).trans (by rw [he_])))
             rw [hP_]
             exact ⟨none, 0, [], rfl, rfl, rfl⟩
            ·
             replace h66 : (decide (((ns.getD ((a + 1).toNat) 0) - 2) / 3 ≤ 3)) = true := by first | (simpa using h66; done) | (have h_ := congrArg (fun b_ => !b_) h66; simpa only [Bool.not_not, Bool.not_true, Bool.not_false] using h_)
             replace h66 : ((ns.getD ((a + 1).toNat) 0) - 2) / 3 ≤ 3 := of_decide_eq_true h66
             refine Ts [20, 21, 22] 25 8388607 2 5 QOk.ctxG ?_
             refine Dn ⟨141, [(0, VL A ns.length c), (4, VL B_ n_ c_), (5, I6 a), (7, I6 (ns.getD ((a + 1).toNat) 0)), (8, .own 8 0), (9, I6 3), (90, VB false), (91, VL B_ n_ c_), (93, I6 (ns.getD a.toNat 0))], [(8, ⟨65, [I6 (ns.getD a.toNat 0), VL none 0 0, VT ByteArray.empty]⟩)]⟩ ⟨P1, trivial⟩ ?_
             refine Do 23 25 16777215 B59 1018876 ?_
             refine X.capLe (i := 30) rfl rfl ?_
             intro hle67 hmx67
             refine X.callV (f := 111) (l := [VL B_ n_ c_, I6 (ns.getD a.toNat 0)]) (Q := fun v_ => v_ = .bool (hadB l_ (ns.getD a.toNat 0))) [.slice B_ n_ c_, N6 (ns.getD a.toNat 0)] (by kernel_rfl) (by kernel_rfl) (by kernel_rfl) (fun G1_ hl_ hr_ => by rw [hn]; exact (rHad_ok B_ c_ l_ (ns.getD a.toNat 0) G1_ (rowLit (hr_ 30 _ rfl) (hcs.mono hl_) (by decide)) (by omega) hmx67).mono (fun _ _ _ _ h_ => h_.1)) ?_
             rintro _ rfl
             refine X.back ⟨⟨P1, trivial⟩, Le.refl _, by kernel_rfl, ?_⟩
             refine Ts [24] 25 33554431 0 1 QOk.ctxG ?_
             refine XD.done (by kernel_rfl) ?_
             refine Rn 1 (Qc B59 1018877) [Qs B59 509439, .blk 1, .loop J2, .blk 0, Qs B59 63] ⟨141, [(0, VL A ns.length c), (4, VL B_ n_ c_), (5, I6 a), (7, I6 (ns.getD ((a + 1).toNat) 0)), (8, .own 8 0), (9, I6 3), (95, VB (hadB l_ (ns.getD a.toNat 0)))], [(8, ⟨65, [I6 (ns.getD a.toNat 0), VL none 0 0, VT ByteArray.empty]⟩)]⟩ ?_
             refine X.split 95 rfl (fun h68 => ?_) (fun h68 => ?_)
             ·
              refine Rn 13 (.ex .ret) [] ⟨141, [(2, VL none 0 0), (3, I6 5)], []⟩ ?_
              refine X.nilRow 900 65 3 rfl ?_
              refine Dg (.inl rfl) [.slice none 0 0, N6 5] [900] rfl (hG2) ?_
              have hsz_ : szk (ns.getD (a).toNat 0) = 3 := by rw [show (ns.getD (a).toNat 0) = 172 by assumption]; rfl
              have hok_ := okP_lit (k := ys_.getD 0 0) (m := (ys_.getD 1 0).toNat - 2) (z := 3) (lo := 0) (hi := 3) (by rw [hy0]; exact hsz_) (by decide) (show _ = (0 : Int) by rw [hy0, show (ns.getD (a).toNat 0) = 172 by assumption]; rfl) (show _ = (3 : Int) by rw [hy0, show (ns.getD (a).toNat 0) = 172 by assumption]; rfl)
              rw [decide_eq_true (by omega)] at hok_
              have he_ : oneE ys_ = 0 := oneE_fine (by omega) (by omega) (by omega) hok_
              have hP_ : optP ns = ([], 5) := (optP_of (by omega)).trans (hpa.symm.trans (parse_had (by omega) (by omega) (by omega) he_ (by rw [hy0]; assumption)))
              rw [hP_]
              exact ⟨none, 0, [], rfl, rfl, rfl⟩
             ·
              refine Ra 18 (Qo B59 4075516 2) 1 [Qs B59 4075517, Qs B59 2037759] [(108, I6 (IntKind.i64.wrap (a + 2)))] ?_
              refine Kn 108 .i64 (a + 2) rfl (wi64 (by omega) (by omega)) ?_
              refine Rn 4 (Qc B59 8151034) [.blk 4, Qs B59 2037759, .blk 1, .loop J2, .blk 0, Qs B59 63] ⟨141, [(0, VL A ns.length c), (4, VL B_ n_ c_), (5, I6 a), (7, I6 (ns.getD ((a + 1).toNat) 0)), (8, .own 8 0), (9, I6 3), (10, I6 (a + 2))], [(8, ⟨65, [I6 (ns.getD a.toNat 0), VL none 0 0, VT ByteArray.empty]⟩)]⟩ ?_
              refine X.nilRow 31 29 1 rfl ?_
              have hin0_ : inB ys_ = (ns.take (a.toNat + (ns.getD (a + 1).toNat 0).toNat)).drop (a.toNat + 2) := by rw [← hys_]; exact inB_of (by rw [hys_]; exact hy1) rfl
              refine X.loopJ (fun m s R' G' => ∃ (D_ : Option Addr) (d_ j_ : Nat) (p_ : List Int) (k : Int), s = ⟨141, [(0, VL A ns.length c), (4, VL B_ n_ c_), (5, I6 a), (7, I6 (ns.getD ((a + 1).toNat) 0)), (8, .own 8 0), (9, I6 3), (10, I6 k)], [(8, ⟨65, [I6 (ns.getD a.toNat 0), VL D_ j_ d_, VT ByteArray.empty]⟩)]⟩ ∧ R' = [(31, RR 29 1 D_ j_ d_ ((p_).map (Value.int .u32))), (30, RR 65 3 B_ n_ c_ qs_)] ∧ Ge G2 w.heap.size G' ∧ (k = a + 2 + j_ * 3 ∧ k ≤ a + ns.getD (a + 1).toNat 0 ∧ p_ = numsOf (inB ys_) 3 j_) ∧ m = (a + ns.getD (a + 1).toNat 0 - k).toNat) _ ⟨none, 0, 0, [], a + 2, rfl, rfl, Ge.refl _ _, ⟨by omega, by omega, rfl⟩, rfl⟩ ?_
              rintro m69 s69 R69 G69 ⟨D_, d_, j_, p_, k, rfl, rfl, hG69, hF69, rfl⟩ J69 hJ69
              replace hr := hr.mono hG69.le
              replace hcs := hcs.mono hG69.le
              obtain ⟨hk, hk1, hp⟩ := hF69
              refine Ra 10 (Qo B59 65208272 7) 0 [Qs B59 65208273, Qs B59 32604137] [(111, VB true), (112, I6 k), (115, I6 (IntKind.i64.wrap (a + (ns.getD ((a + 1).toNat) 0))))] ?_
              refine Kn 115 .i64 (a + (ns.getD ((a + 1).toNat) 0)) rfl (wi64 (by omega) (by omega)) ?_
              refine Ra 4 (Qc B59 65208273) 1 [] [(117, VB (decide (k < a + (ns.getD ((a + 1).toNat) 0))))] ?_
              refine Sd 117 rfl ?_ ?_ <;> intro h70
              ·
               refine Ra 5 (Qc B59 130416548) 1 [.blk 5, Qs B59 65208275] [] ?_
               have hr_d71 := hr
               have hcs_d71 := hcs
               refine Oh 31 B59 130416548 13 [⟨some 8, 8, 65, [I6 (ns.getD a.toNat 0), VL D_ j_ d_, VT ByteArray.empty]⟩] [] [12] ⟨P1, trivial⟩ Mt (fun ρ0 => ?_)
               refine Tk 0 13 1 B59 130416548 (.own 8 1) QOk.ctxG ?_
               refine Tk 1 13 3 B59 130416548 (VL D_ j_ d_) QOk.ctxG ?_
               refine Tk 2 13 7 B59 130416548 (VL A ns.length c) QOk.ctxG ?_
               refine Tk 3 13 15 B59 130416548 (I6 k) QOk.ctxG ?_
               refine Tk 4 13 31 B59 130416548 (I6 k) QOk.ctxG ?_
               refine Tk 5 13 63 B59 130416548 (I6 3) QOk.ctxG ?_
               refine Tk 6 13 127 B59 130416548 (I6 (IntKind.i64.wrap (k + 3))) QOk.ctxG ?_
               refine Dk 127 .i64 (k + 3) rfl (wi64 (by omega) (by omega)) ?_
               have hlo72 : (k).toNat ≤ (k + 3).toNat := by omega
               have hhi72 : (k + 3).toNat ≤ ns.length := by omega
               refine XD.cut (i := 7) (l' := (lb 13 255)) (o := (oA B59 (pa 130416548) 7)) (t := 22) (e := 5) (sz := 1) (n := ns.length) (c := c) (A := A) (x := .tmp 123) (l0 := (some (.tmp 124))) (h := (some (.tmp 127))) (lv := (some (N6 k))) (hv := (some (N6 (k + 3)))) k.toNat ((k + 3).toNat) QOk.ctxG (by kernel_rfl) (by kernel_rfl) (by kernel_rfl) (by kernel_rfl) (by kernel_rfl) (by kernel_rfl) (by kernel_rfl) (by kernel_rfl) (by kernel_rfl) (⟨_, _, rfl, by omega, rfl⟩) (⟨_, _, rfl, by omega, rfl⟩) hlo72 (Nat.le_trans hhi72 hle) (by kernel_rfl) ?_
               obtain ⟨A72, hA72⟩ : ∃ A_, cutA A c ((k).toNat) 1 = A_ := ⟨_, rfl⟩
               obtain ⟨ys72, hys72⟩ : ∃ l_, (ns.take ((k + 3).toNat)).drop ((k).toNat) = l_ := ⟨_, rfl⟩
               have hr72 : rowAt (D.int .u8) G69 (cutA A c ((k).toNat) 1) ((ns.take ((k + 3).toNat)).drop ((k).toNat)) := rowAt_cut hr hlo72 hhi72 hle
               have hl72 : ((k + 3).toNat) - ((k).toNat) = ys72.length := by rw [← hys72, List.length_drop, List.length_take]; omega
               have hc72 : ys72.length ≤ c - ((k).toNat) := by omega
               have hm72 : c - ((k).toNat) ≤ maxLen := Nat.le_trans (Nat.sub_le _ _) hmx
               rw [hys72, show cutA A c ((k).toNat) _ = A72 from hA72] at hr72
               rw [hA72, hl72]
               refine Do 8 13 511 B59 130416548 ?_
               refine Cg 122 [.slice A72 ys72.length (c - k.toNat)] 0 (numO_ok A72 (c - k.toNat) ys72 _ hr72 hc72 hm72) ?_
               rintro v73 G73 rows73 hG73 ⟨rfl, rfl⟩
               replace hr := hr.mono hG73.le
               replace hcs := hcs.mono hG73.le
               replace hr72 := hr72.mono hG73.le
               refine X.back ⟨⟨P1, trivial⟩, hG73.le, rfl, ?_⟩
               refine Do 9 13 1023 B59 130416548 ?_
               refine Lt 130 29 1 1 [N3 (num ys72)] ?_
               intro A74
               refine X.back ⟨⟨P1, trivial⟩, hG73.le, rfl, ?_⟩
               refine Do 10 13 2047 B59 130416548 ?_
               refine Ap 31 _ 63 4 (N3 0) (.tmp 122) (.tmp 130) j_ d_ 1 1 D_ A74 [N3 (num ys72)] (.inl rfl) (by kernel_rfl) (Ar 130 rfl) (Br 130 rfl) (ones (by kernel_rfl)) (by omega) ?_
               intro A75 c75 hc75
               refine Tc [130, 30] (cs' := (p_ ++ [num ys72]).map (Value.int .u32)) (by simp) ?_
               refine X.back ⟨⟨P1, trivial⟩, hG73.le, rfl, ?_⟩
               refine Ts [11] 13 4095 1 2 QOk.ctxG ?_
               refine XD.toE ?_
               refine En ⟨141, [(0, VL A ns.length c), (4, VL B_ n_ c_), (5, I6 a), (7, I6 (ns.getD ((a + 1).toNat) 0)), (8, .own 8 0), (9, I6 3), (10, I6 k), (131, VL A75 (j_ + 1) c75), (132, .own 8 1)], [(8, ⟨65, [I6 (ns.getD a.toNat 0), VL D_ j_ d_, VT ByteArray.empty]⟩)]⟩ ?_
               refine Eo 12 13 8191 B59 130416548 ?_
               refine X.simple (by kernel_rfl) ?_
               refine X.back ?_
               refine XE.done (by kernel_rfl) ?_
               refine Rb 6 (Qo B59 65208275 3) 2 [] [(120, I6 (IntKind.i64.wrap (k + 3)))] [] [(8, ⟨65, [I6 (ns.getD a.toNat 0), VL A75 (j_ + 1) c75, VT ByteArray.empty]⟩)] [] ?_
               refine Kn 120 .i64 (k + 3) rfl (wi64 (by omega) (by omega)) ?_
               refine Tr [31, 30] ?_
               have hps_ : ys72 = ((inB ys_).drop (j_ * 3)).take 3 := by rw [← hys72, hin0_, part_of (by omega)]; congr 1 <;> (try congr 1) <;> omega
               exact Rn 2 (.ex .normal) [.loop J69, .blk 4, Qs B59 2037759, .blk 1, .loop J2, .blk 0, Qs B59 63] _ (X.again (hJ69 _ _ _ _ ⟨A75, c75, j_ + 1, p_ ++ [num ys72], k + 3, rfl, rfl, (hG69.trans hG73), ⟨by omega, by omega, by rw [numsOf_succ, ← hps_, hp]⟩, rfl⟩ (by omega)))
              ·
               refine Tr [31, 30] ?_
               refine X.capLe (i := 31) rfl rfl ?_
               intro hle76 hmx76
               refine X.freezeHd (i := 31) (n := j_) (c := d_) (A := D_) (kd := .u32) (p_) rfl rfl (by intro n_ hn_; rw [hp] at hn_; have := numsOf_range _ _ _ n_ hn_; simp only [IntKind.lo, IntKind.hi]; omega) (by kernel_rfl) (fun _ h => h) ?_
               intro G76 hG76 hr76
               replace hr := hr.mono hG76.le
               replace hcs := hcs.mono hG76.le
               refine Rb 10 (Qo B59 4075518 2) 4 [Qs B59 4075519] [(133, VL B_ n_ c_), (134, .v (.agg #[N6 (ns.getD a.toNat 0), .slice D_ j_ d_, .string ByteArray.empty]))] [9, 10] [] [8] ?_
               refine Lt 135 65 3 1 [N6 (ns.getD a.toNat 0), .slice D_ j_ d_, .string ByteArray.empty] ?_
               intro A77
               refine Ra 0 (Qo B59 4075518 3) 0 [] [(135, VL A77 1 1)] ?_
               refine Ap 30 _ 59 48 (.agg #[N6 0, .slice none 0 0, .string ByteArray.empty]) (.tmp 133) (.tmp 135) n_ c_ 1 1 B_ A77 [N6 (ns.getD a.toNat 0), .slice D_ j_ d_, .string ByteArray.empty] (.inl rfl) (by kernel_rfl) (Ar 135 rfl) (Br 135 rfl) (ones (by kernel_rfl)) (by omega) ?_
               intro A78 c78 hc78
               refine Tr [30, 135] ?_
               refine Rc 7 (Qo B59 4075519 3) 1 [] [(4, VL A78 (n_ + 1) c78), (139, I6 (IntKind.i64.wrap (a + (ns.getD ((a + 1).toNat) 0))))] [7] ?_
               refine Kn 139 .i64 (a + (ns.getD ((a + 1).toNat) 0)) rfl (wi64 (by omega) (by omega)) ?_
               refine Tr [30] ?_
               have hsz_ : szk (ns.getD (a).toNat 0) = 3 := by rw [show (ns.getD (a).toNat 0) = 172 by assumption]; rfl
               have hok_ := okP_lit (k := ys_.getD 0 0) (m := (ys_.getD 1 0).toNat - 2) (z := 3) (lo := 0) (hi := 3) (by rw [hy0]; exact hsz_) (by decide) (show _ = (0 : Int) by rw [hy0, show (ns.getD (a).toNat 0) = 172 by assumption]; rfl) (show _ = (3 : Int) by rw [hy0, show (ns.getD (a).toNat 0) = 172 by assumption]; rfl)
               rw [decide_eq_true (by omega)] at hok_
               have he_ : oneE ys_ = 0 := oneE_fine (by omega) (by omega) (by omega) hok_
               have hN_ : oneN ys_ = ns.getD (a + 1).toNat 0 := by rw [← hy1]; unfold oneN; rw [if_pos he_]
               have e1 : (a + ns.getD (a + 1).toNat 0).toNat = a.toNat + (oneN ys_).toNat := by omega
               have hcn_ : (inB ys_).length / 3 = j_ := by rw [inB_len (by omega)]; omega
               have ho_ : oneO ys_ = ((ns.getD (a).toNat 0), p_, ⟨#[]⟩) := by unfold oneO optS; rw [if_pos he_, hy0, hsz_, if_neg (by decide), hp]; show (_, numsOf _ 3 ((inB ys_).length / 3), _) = _; rw [hcn_]
               have hpl_ : p_.length = j_ := by rw [hp, numsOf_len]
               have hrep_ := opt_rep (G := G76) (k := (ns.getD (a).toNat 0)) (s := ⟨#[]⟩) (ns := p_) (by simp only [IntKind.lo, IntKind.hi]; omega) (by rw [hpl_]; exact hle76) hmx76 hr76 ⟨rfl, Nat.zero_le _⟩
               rw [← ho_, hpl_] at hrep_
               have hpp_ := parse_step (acc := l_) (l := ys_) (by omega) (by omega) (by omega) he_ (by rw [hy0]; assumption)
               exact Rn 3 (.ex .normal) [.loop J2, .blk 0, Qs B59 63] _ (X.again (hJ2 _ _ _ _ ⟨A78, c78, n_ + 1, a + (ns.getD ((a + 1).toNat) 0), l_ ++ [oneO ys_], qs_ ++ [N6 (ns.getD a.toNat 0), .slice D_ j_ d_, .string ByteArray.empty], rfl, rfl, ((hG2.trans hG69).trans hG76), ⟨by omega, by omega, by rw [e1, ← List.drop_drop, hys_, ← hpp_]; exact hpa, repsD_snoc hcs hrep_, by rw [List.length_append, ← hn]; rfl, by omega⟩, rfl⟩ (by omega)))
          ·
           refine Ra 5 (Qc B112 61) 1 [] [(12, VB ((ns.getD a.toNat 0) == 174))] ?_
           refine Se 12 rfl ?_ ?_ <;> intro h79
           ·
            refine Rn 8 (.ex .ret) [] ⟨13, [(2, I6 3)], [(1008, ⟨65, [I6 (ns.getD a.toNat 0), VL none 0 0, VT ByteArray.empty]⟩)]⟩ ?_
            refine fin27 _ _ _ _ [N6 3] [(8, ⟨65, [I6 (ns.getD a.toNat 0), VL none 0 0, VT ByteArray.empty]⟩)] (.inl rfl) (by kernel_rfl) (by kernel_rfl) ?_
            refine Ra 5 (Qc B59 1018876) 1 [Qs B59 1018877, Qs B59 509439] [(9, I6 3)] ?_
            have hr_d80 := hr
            have hcs_d80 := hcs
            refine Oh 24 B59 1018876 25 [⟨some 8, 8, 65, [I6 (ns.getD a.toNat 0), VL none 0 0, VT ByteArray.empty]⟩] [] [] ⟨P1, trivial⟩ Mt (fun ρ0 => ?_)
            refine Tk 0 25 1 B59 1018876 (I6 3) QOk.ctxG ?_
            refine Tk 1 25 3 B59 1018876 (VB true) QOk.ctxG ?_
            refine Tk 2 25 7 B59 1018876 (VB true) QOk.ctxG ?_
            refine Tk 3 25 15 B59 1018876 (I6 (ns.getD ((a + 1).toNat) 0)) QOk.ctxG ?_
            refine Tk 4 25 31 B59 1018876 (I6 (IntKind.i64.wrap ((ns.getD ((a + 1).toNat) 0) - 2))) QOk.ctxG ?_
            refine Dk 75 .i64 ((ns.getD ((a + 1).toNat) 0) - 2) rfl (wi64 (by omega) (by omega)) ?_
            refine Tk 5 25 63 B59 1018876 (I6 3) QOk.ctxG ?_
            refine Tk 6 25 127 B59 1018876 (I6 (Int.tmod ((ns.getD ((a + 1).toNat) 0) - 2) 3)) QOk.ctxG ?_
            refine Dk 77 .i64 (((ns.getD ((a + 1).toNat) 0) - 2) % 3) rfl (Int.tmod_eq_emod_of_nonneg (by omega)) ?_
            refine Tk 7 25 255 B59 1018876 (VB ((((ns.getD ((a + 1).toNat) 0) - 2) % 3) != 0)) QOk.ctxG ?_
            refine Tk 8 25 511 B59 1018876 (VB ((((ns.getD ((a + 1).toNat) 0) - 2) % 3) != 0)) QOk.ctxG ?_
            refine XD.split 79 rfl (fun h81 => ?_) (fun h81 => ?_)
            ·
             replace h81 : (((ns.getD ((a + 1).toNat) 0) - 2) % 3) ≠ 0 := by simpa using h81
             refine Ts [9, 10, 11, 12, 13, 14, 15, 16, 17, 18, 19, 20, 21, 22, 23, 24] 25 33554431 0 16 QOk.ctxG ?_
             refine XD.done (by kernel_rfl) ?_
             refine Rn 14 (.ex .ret) [] ⟨141, [(2, VL none 0 0), (3, I6 5)], []⟩ ?_
             refine X.nilRow 900 65 3 rfl ?_
             refine Dg (.inl rfl) [.slice none 0 0, N6 5] [900] rfl (hG2) ?_
             have hsz_ : szk (ns.getD (a).toNat 0) = 3 := by rw [show (ns.getD (a).toNat 0) = 174 by assumption]; rfl
             have hok_ := okP_lit (k := ys_.getD 0 0) (m := (ys_.getD 1 0).toNat - 2) (z := 3) (lo := 0) (hi := 3) (by rw [hy0]; exact hsz_) (by decide) (show _ = (0 : Int) by rw [hy0, show (ns.getD (a).toNat 0) = 174 by assumption]; rfl) (show _ = (3 : Int) by rw [hy0, show (ns.getD (a).toNat 0) = 174 by assumption]; rfl)
             rw [decide_eq_false (by omega)] at hok_
             have he_ : oneE ys_ = 5 := oneE_form (by omega) (by omega) (by omega) hok_
             have hP_ : optP ns = ([], 5) := (optP_of (by omega)).trans (hpa.symm.trans ((parse_err (by omega) (by omega) (by omega) (by rw [he_]; decide)).trans (by rw [he_])))
             rw [hP_]
             exact ⟨none, 0, [], rfl, rfl, rfl⟩
            ·
             replace h81 : (((ns.getD ((a + 1).toNat) 0) - 2) % 3) = 0 := by simpa using h81
             refine Tk 9 25 1023 B59 1018876 (.own 8 0) QOk.ctxG ?_
             refine Tk 10 25 2047 B59 1018876 (I6 (ns.getD a.toNat 0)) QOk.ctxG ?_
             refine Tk 11 25 4095 B59 1018876 (I6 (ns.getD ((a + 1).toNat) 0)) QOk.ctxG ?_
             refine Tk 12 25 8191 B59 1018876 (I6 (IntKind.i64.wrap ((ns.getD ((a + 1).toNat) 0) - 2))) QOk.ctxG ?_
             refine Dk 83 .i64 ((ns.getD ((a + 1).toNat) 0) - 2) rfl (wi64 (by omega) (by omega)) ?_
             refine Tk 13 25 16383 B59 1018876 (I6 3) QOk.ctxG ?_
             refine Tk 14 25 32767 B59 1018876 (I6 (IntKind.i64.wrap (Int.tdiv ((ns.getD ((a + 1).toNat) 0) - 2) 3))) QOk.ctxG ?_
             refine Dk 85 .i64 (((ns.getD ((a + 1).toNat) 0) - 2) / 3) rfl (wdiv_i64 (by omega) (by omega) (by omega)) ?_
             refine Do 15 25 65535 B59 1018876 ?_
             refine X.inline (f := 121) (l := [I6 (ns.getD a.toNat 0), I6 (((ns.getD ((a + 1).toNat) 0) - 2) / 3)]) (fn := Try.f121) (c := B121) (by kernel_rfl) (by kernel_rfl) Try.func121 (by kernel_rfl) ?_
             intro Q82 M82 hM82 hQ82 fin82
             refine Ra 12 (Qc B121 13) 0 [Qs B121 7] [(4, VB false), (6, VB ((ns.getD a.toNat 0) == 2))] ?_
             refine X.isFalse 6 rfl (by rw [show (ns.getD (a).toNat 0) = 174 by assumption]; decide) ?_
             refine Rn 10 (Qc B121 29) [Qs B121 15] ⟨15, [(1, I6 (((ns.getD ((a + 1).toNat) 0) - 2) / 3)), (4, VB false), (10, VB ((ns.getD a.toNat 0) == 8))], [(1008, ⟨65, [I6 (ns.getD a.toNat 0), VL none 0 0, VT ByteArray.empty]⟩)]⟩ ?_
             refine X.isFalse 10 rfl (by rw [show (ns.getD (a).toNat 0) = 174 by assumption]; decide) ?_
             refine Rc 11 (.ex .ret) 1 [] [(4, VB (decide (((ns.getD ((a + 1).toNat) 0) - 2) / 3 ≤ 3)))] [1, 10] ?_
             refine fin82 _ _ _ _ [.bool (decide (((ns.getD ((a + 1).toNat) 0) - 2) / 3 ≤ 3))] [(8, ⟨65, [I6 (ns.getD a.toNat 0), VL none 0 0, VT ByteArray.empty]⟩)] (.inl rfl) (by kernel_rfl) (by kernel_rfl) ?_
             refine X.back ⟨⟨P1, trivial⟩, Le.refl _, by kernel_rfl, ?_⟩
             refine Tk 16 25 131071 B59 1018876 (VB (!(decide (((ns.getD ((a + 1).toNat) 0) - 2) / 3 ≤ 3)))) QOk.ctxG ?_
             refine Tk 17 25 262143 B59 1018876 (VB (!(decide (((ns.getD ((a + 1).toNat) 0) - 2) / 3 ≤ 3)))) QOk.ctxG ?_
             refine Tk 18 25 524287 B59 1018876 (VB (!(decide (((ns.getD ((a + 1).toNat) 0) - 2) / 3 ≤ 3)))) QOk.ctxG ?_
             refine Tk 19 25 1048575 B59 1018876 (VB (!(decide (((ns.getD ((a + 1).toNat) 0) - 2) / 3 ≤ 3)))) QOk.ctxG ?_
             refine XD.split 90 rfl (fun h83 => ?_) (fun h83 => ?_)
             ·
              replace h83 : (decide (((ns.getD ((a + 1).toNat) 0) - 2) / 3 ≤ 3)) = false := by first | (simpa using h83; done) | (have h_ := congrArg (fun b_ => !b_) h83; simpa only [Bool.not_not, Bool.not_true, Bool.not_false] using h_)
              replace h83 : ¬ (((ns.getD ((a + 1).toNat) 0) - 2) / 3 ≤ 3) := of_decide_eq_false h83
              refine Ts [20, 21, 22, 23, 24] 25 33554431 0 5 QOk.ctxG ?_
              refine XD.done (by kernel_rfl) ?_
              refine Rn 14 (.ex .ret) [] ⟨141, [(2, VL none 0 0), (3, I6 5)], []⟩ ?_
              refine X.nilRow 900 65 3 rfl ?_
              refine Dg (.inl rfl) [.slice none 0 0, N6 5] [900] rfl (hG2) ?_
              have hsz_ : szk (ns.getD (a).toNat 0) = 3 := by rw [show (ns.getD (a).toNat 0) = 174 by assumption]; rfl
              have hok_ := okP_lit (k := ys_.getD 0 0) (m := (ys_.getD 1 0).toNat - 2) (z := 3) (lo := 0) (hi := 3) (by rw [hy0]; exact hsz_) (by decide) (show _ = (0 : Int) by rw [hy0, show (ns.getD (a).toNat 0) = 174 by assumption]; rfl) (show _ = (3 : Int) by rw [hy0, show (ns.getD (a).toNat 0) = 174 by assumption]; rfl)
              rw [decide_eq_false (by omega)] at hok_
              have he_ : oneE ys_ = 5 := oneE_form (by omega) (by omega) (by omega) hok_
              have hP_ : optP ns = ([], 5) := (optP_of (by omega)).trans (hpa.symm.trans ((parse_err (by omega) (by omega) (by omega) (by rw [he_]; decide)).trans (by rw [he_])))
              rw [hP_]
              exact ⟨none, 0, [], rfl, rfl, rfl⟩
             ·
              replace h83 : (decide (((ns.getD ((a + 1).toNat) 0) - 2) / 3 ≤ 3)) = true := by first | (simpa using h83; done) | (have h_ := congrArg (fun b_ => !b_) h83; simpa only [Bool.not_not, Bool.not_true, Bool.not_false] using h_)
              replace h83 : ((ns.getD ((a + 1).toNat) 0) - 2) / 3 ≤ 3 := of_decide_eq_true h83
              refine Ts [20, 21, 22] 25 8388607 2 5 QOk.ctxG ?_
              refine Dn ⟨141, [(0, VL A ns.length c), (4, VL B_ n_ c_), (5, I6 a), (7, I6 (ns.getD ((a + 1).toNat) 0)), (8, .own 8 0), (9, I6 3), (90, VB false), (91, VL B_ n_ c_), (93, I6 (ns.getD a.toNat 0))], [(8, ⟨65, [I6 (ns.getD a.toNat 0), VL none 0 0, VT ByteArray.empty]⟩)]⟩ ⟨P1, trivial⟩ ?_
              refine Do 23 25 16777215 B59 1018876 ?_
              refine X.capLe (i := 30) rfl rfl ?_
              intro hle84 hmx84
              refine X.callV (f := 111) (l := [VL B_ n_ c_, I6 (ns.getD a.toNat 0)]) (Q := fun v_ => v_ = .bool (hadB l_ (ns.getD a.toNat 0))) [.slice B_ n_ c_, N6 (ns.getD a.toNat 0)] (by kernel_rfl) (by kernel_rfl) (by kernel_rfl) (fun G1_ hl_ hr_ => by rw [hn]; exact (rHad_ok B_ c_ l_ (ns.getD a.toNat 0) G1_ (rowLit (hr_ 30 _ rfl) (hcs.mono hl_) (by decide)) (by omega) hmx84).mono (fun _ _ _ _ h_ => h_.1)) ?_
              rintro _ rfl
              refine X.back ⟨⟨P1, trivial⟩, Le.refl _, by kernel_rfl, ?_⟩
              refine Ts [24] 25 33554431 0 1 QOk.ctxG ?_
              refine XD.done (by kernel_rfl) ?_
              refine Rn 1 (Qc B59 1018877) [Qs B59 509439, .blk 1, .loop J2, .blk 0, Qs B59 63] ⟨141, [(0, VL A ns.length c), (4, VL B_ n_ c_), (5, I6 a), (7, I6 (ns.getD ((a + 1).toNat) 0)), (8, .own 8 0), (9, I6 3), (95, VB (hadB l_ (ns.getD a.toNat 0)))], [(8, ⟨65, [I6 (ns.getD a.toNat 0), VL none 0 0, VT ByteArray.empty]⟩)]⟩ ?_
              refine X.split 95 rfl (fun h85 => ?_) (fun h85 => ?_)
              ·
               refine Rn 13 (.ex .ret) [] ⟨141, [(2, VL none 0 0), (3, I6 5)], []⟩ ?_
               refine X.nilRow 900 65 3 rfl ?_
               refine Dg (.inl rfl) [.slice none 0 0, N6 5] [900] rfl (hG2) ?_
               have hsz_ : szk (ns.getD (a).toNat 0) = 3 := by rw [show (ns.getD (a).toNat 0) = 174 by assumption]; rfl
               have hok_ := okP_lit (k := ys_.getD 0 0) (m := (ys_.getD 1 0).toNat - 2) (z := 3) (lo := 0) (hi := 3) (by rw [hy0]; exact hsz_) (by decide) (show _ = (0 : Int) by rw [hy0, show (ns.getD (a).toNat 0) = 174 by assumption]; rfl) (show _ = (3 : Int) by rw [hy0, show (ns.getD (a).toNat 0) = 174 by assumption]; rfl)
               rw [decide_eq_true (by omega)] at hok_
               have he_ : oneE ys_ = 0 := oneE_fine (by omega) (by omega) (by omega) hok_
               have hP_ : optP ns = ([], 5) := (optP_of (by omega)).trans (hpa.symm.trans (parse_had (by omega) (by omega) (by omega) he_ (by rw [hy0]; assumption)))
               rw [hP_]
               exact ⟨none, 0, [], rfl, rfl, rfl⟩
              ·
               refine Ra 18 (Qo B59 4075516 2) 1 [Qs B59 4075517, Qs B59 2037759] [(108, I6 (IntKind.i64.wrap (a + 2)))] ?_
               refine Kn 108 .i64 (a + 2) rfl (wi64 (by omega) (by omega)) ?_
               refine Rn 4 (Qc B59 8151034) [.blk 4, Qs B59 2037759, .blk 1, .loop J2, .blk 0, Qs B59 63] ⟨141, [(0, VL A ns.length c), (4, VL B_ n_ c_), (5, I6 a), (7, I6 (ns.getD ((a + 1).toNat) 0)), (8, .own 8 0), (9, I6 3), (10, I6 (a + 2))], [(8, ⟨65, [I6 (ns.getD a.toNat 0), VL none 0 0, VT ByteArray.empty]⟩)]⟩ ?_
               refine X.nilRow 31 29 1 rfl ?_
               have hin0_ : inB ys_ = (ns.take (a.toNat + (ns.getD (a + 1).toNat 0).toNat)).drop (a.toNat + 2) := by rw [← hys_]; exact inB_of (by rw [hys_]; exact hy1) rfl
               refine X.loopJ (fun m s R' G' => ∃ (D_ : Option Addr) (d_ j_ : Nat) (p_ : List Int) (k : Int), s = ⟨141, [(0, VL A ns.length c), (4, VL B_ n_ c_), (5, I6 a), (7, I6 (ns.getD ((a + 1).toNat) 0)), (8, .own 8 0), (9, I6 3), (10, I6 k)], [(8, ⟨65, [I6 (ns.getD a.toNat 0), VL D_ j_ d_, VT ByteArray.empty]⟩)]⟩ ∧ R' = [(31, RR 29 1 D_ j_ d_ ((p_).map (Value.int .u32))), (30, RR 65 3 B_ n_ c_ qs_)] ∧ Ge G2 w.heap.size G' ∧ (k = a + 2 + j_ * 3 ∧ k ≤ a + ns.getD (a + 1).toNat 0 ∧ p_ = numsOf (inB ys_) 3 j_) ∧ m = (a + ns.getD (a + 1).toNat 0 - k).toNat) _ ⟨none, 0, 0, [], a + 2, rfl, rfl, Ge.refl _ _, ⟨by omega, by omega, rfl⟩, rfl⟩ ?_
               rintro m86 s86 R86 G86 ⟨D_, d_, j_, p_, k, rfl, rfl, hG86, hF86, rfl⟩ J86 hJ86
               replace hr := hr.mono hG86.le
               replace hcs := hcs.mono hG86.le
               obtain ⟨hk, hk1, hp⟩ := hF86
               refine Ra 10 (Qo B59 65208272 7) 0 [Qs B59 65208273, Qs B59 32604137] [(111, VB true), (112, I6 k), (115, I6 (IntKind.i64.wrap (a + (ns.getD ((a + 1).toNat) 0))))] ?_
               refine Kn 115 .i64 (a + (ns.getD ((a + 1).toNat) 0)) rfl (wi64 (by omega) (by omega)) ?_
               refine Ra 4 (Qc B59 65208273) 1 [] [(117, VB (decide (k < a + (ns.getD ((a + 1).toNat) 0))))] ?_
               refine Sd 117 rfl ?_ ?_ <;> intro h87
               ·
                refine Ra 5 (Qc B59 130416548) 1 [.blk 5, Qs B59 65208275] [] ?_
                have hr_d88 := hr
                have hcs_d88 := hcs
                refine Oh 31 B59 130416548 13 [⟨some 8, 8, 65, [I6 (ns.getD a.toNat 0), VL D_ j_ d_, VT ByteArray.empty]⟩] [] [12] ⟨P1, trivial⟩ Mt (fun ρ0 => ?_)
                refine Tk 0 13 1 B59 130416548 (.own 8 1) QOk.ctxG ?_
                refine Tk 1 13 3 B59 130416548 (VL D_ j_ d_) QOk.ctxG ?_
                refine Tk 2 13 7 B59 130416548 (VL A ns.length c) QOk.ctxG ?_
                refine Tk 3 13 15 B59 130416548 (I6 k) QOk.ctxG ?_
                refine Tk 4 13 31 B59 130416548 (I6 k) QOk.ctxG ?_
                refine Tk 5 13 63 B59 130416548 (I6 3) QOk.ctxG ?_
                refine Tk 6 13 127 B59 130416548 (I6 (IntKind.i64.wrap (k + 3))) QOk.ctxG ?_
                refine Dk 127 .i64 (k + 3) rfl (wi64 (by omega) (by omega)) ?_
                have hlo89 : (k).toNat ≤ (k + 3).toNat := by omega
                have hhi89 : (k + 3).toNat ≤ ns.length := by omega
                refine XD.cut (i := 7) (l' := (lb 13 255)) (o := (oA B59 (pa 130416548) 7)) (t := 22) (e := 5) (sz := 1) (n := ns.length) (c := c) (A := A) (x := .tmp 123) (l0 := (some (.tmp 124))) (h := (some (.tmp 127))) (lv := (some (N6 k))) (hv := (some (N6 (k + 3)))) k.toNat ((k + 3).toNat) QOk.ctxG (by kernel_rfl) (by kernel_rfl) (by kernel_rfl) (by kernel_rfl) (by kernel_rfl) (by kernel_rfl) (by kernel_rfl) (by kernel_rfl) (by kernel_rfl) (⟨_, _, rfl, by omega, rfl⟩) (⟨_, _, rfl, by omega, rfl⟩) hlo89 (Nat.le_trans hhi89 hle) (by kernel_rfl) ?_
                obtain ⟨A89, hA89⟩ : ∃ A_, cutA A c ((k).toNat) 1 = A_ := ⟨_, rfl⟩
                obtain ⟨ys89, hys89⟩ : ∃ l_, (ns.take ((k + 3).toNat)).drop ((k).toNat) = l_ := ⟨_, rfl⟩
                have hr89 : rowAt (D.int .u8) G86 (cutA A c ((k).toNat) 1) ((ns.take ((k + 3).toNat)).drop ((k).toNat)) := rowAt_cut hr hlo89 hhi89 hle
                have hl89 : ((k + 3).toNat) - ((k).toNat) = ys89.length := by rw [← hys89, List.length_drop, List.length_take]; omega
                have hc89 : ys89.length ≤ c - ((k).toNat) := by omega
                have hm89 : c - ((k).toNat) ≤ maxLen := Nat.le_trans (Nat.sub_le _ _) hmx
                rw [hys89, show cutA A c ((k).toNat) _ = A89 from hA89] at hr89
                rw [hA89, hl89]
                refine Do 8 13 511 B59 130416548 ?_
                refine Cg 122 [.slice A89 ys89.length (c - k.toNat)] 0 (numO_ok A89 (c - k.toNat) ys89 _ hr89 hc89 hm89) ?_
                rintro v90 G90 rows90 hG90 ⟨rfl, rfl⟩
                replace hr := hr.mono hG90.le
                replace hcs := hcs.mono hG90.le
                replace hr89 := hr89.mono hG90.le
                refine X.back ⟨⟨P1, trivial⟩, hG90.le, rfl, ?_⟩
                refine Do 9 13 1023 B59 130416548 ?_
                refine Lt 130 29 1 1 [N3 (num ys89)] ?_
                intro A91
                refine X.back ⟨⟨P1, trivial⟩, hG90.le, rfl, ?_⟩
                refine Do 10 13 2047 B59 130416548 ?_
                refine Ap 31 _ 63 4 (N3 0) (.tmp 122) (.tmp 130) j_ d_ 1 1 D_ A91 [N3 (num ys89)] (.inl rfl) (by kernel_rfl) (Ar 130 rfl) (Br 130 rfl) (ones (by kernel_rfl)) (by omega) ?_
                intro A92 c92 hc92
                refine Tc [130, 30] (cs' := (p_ ++ [num ys89]).map (Value.int .u32)) (by simp) ?_
                refine X.back ⟨⟨P1, trivial⟩, hG90.le, rfl, ?_⟩
                refine Ts [11] 13 4095 1 2 QOk.ctxG ?_
                refine XD.toE ?_
                refine En ⟨141, [(0, VL A ns.length c), (4, VL B_ n_ c_), (5, I6 a), (7, I6 (ns.getD ((a + 1).toNat) 0)), (8, .own 8 0), (9, I6 3), (10, I6 k), (131, VL A92 (j_ + 1) c92), (132, .own 8 1)], [(8, ⟨65, [I6 (ns.getD a.toNat 0), VL D_ j_ d_, VT ByteArray.empty]⟩)]⟩ ?_
                refine Eo 12 13 8191 B59 130416548 ?_
                refine X.simple (by kernel_rfl) ?_
                refine X.back ?_
                refine XE.done (by kernel_rfl) ?_
                refine Rb 6 (Qo B59 65208275 3) 2 [] [(120, I6 (IntKind.i64.wrap (k + 3)))] [] [(8, ⟨65, [I6 (ns.getD a.toNat 0), VL A92 (j_ + 1) c92, VT ByteArray.empty]⟩)] [] ?_
                refine Kn 120 .i64 (k + 3) rfl (wi64 (by omega) (by omega)) ?_
                refine Tr [31, 30] ?_
                have hps_ : ys89 = ((inB ys_).drop (j_ * 3)).take 3 := by rw [← hys89, hin0_, part_of (by omega)]; congr 1 <;> (try congr 1) <;> omega
                exact Rn 2 (.ex .normal) [.loop J86, .blk 4, Qs B59 2037759, .blk 1, .loop J2, .blk 0, Qs B59 63] _ (X.again (hJ86 _ _ _ _ ⟨A92, c92, j_ + 1, p_ ++ [num ys89], k + 3, rfl, rfl, (hG86.trans hG90), ⟨by omega, by omega, by rw [numsOf_succ, ← hps_, hp]⟩, rfl⟩ (by omega)))
               ·
                refine Tr [31, 30] ?_
                refine X.capLe (i := 31) rfl rfl ?_
                intro hle93 hmx93
                refine X.freezeHd (i := 31) (n := j_) (c := d_) (A := D_) (kd := .u32) (p_) rfl rfl (by intro n_ hn_; rw [hp] at hn_; have := numsOf_range _ _ _ n_ hn_; simp only [IntKind.lo, IntKind.hi]; omega) (by kernel_rfl) (fun _ h => h) ?_
                intro G93 hG93 hr93
                replace hr := hr.mono hG93.le
                replace hcs := hcs.mono hG93.le
                refine Rb 10 (Qo B59 4075518 2) 4 [Qs B59 4075519] [(133, VL B_ n_ c_), (134, .v (.agg #[N6 (ns.getD a.toNat 0), .slice D_ j_ d_, .string ByteArray.empty]))] [9, 10] [] [8] ?_
                refine Lt 135 65 3 1 [N6 (ns.getD a.toNat 0), .slice D_ j_ d_, .string ByteArray.empty] ?_
                intro A94
                refine Ra 0 (Qo B59 4075518 3) 0 [] [(135, VL A94 1 1)] ?_
                refine Ap 30 _ 59 48 (.agg #[N6 0, .slice none 0 0, .string ByteArray.empty]) (.tmp 133) (.tmp 135) n_ c_ 1 1 B_ A94 [N6 (ns.getD a.toNat 0), .slice D_ j_ d_, .string ByteArray.empty] (.inl rfl) (by kernel_rfl) (Ar 135 rfl) (Br 135 rfl) (ones (by kernel_rfl)) (by omega) ?_
                intro A95 c95 hc95
                refine Tr [30, 135] ?_
                refine Rc 7 (Qo B59 4075519 3) 1 [] [(4, VL A95 (n_ + 1) c95), (139, I6 (IntKind.i64.wrap (a + (ns.getD ((a + 1).toNat) 0))))] [7] ?_
                refine Kn 139 .i64 (a + (ns.getD ((a + 1).toNat) 0)) rfl (wi64 (by omega) (by omega)) ?_
                refine Tr [30] ?_
                have hsz_ : szk (ns.getD (a).toNat 0) = 3 := by rw [show (ns.getD (a).toNat 0) = 174 by assumption]; rfl
                have hok_ := okP_lit (k := ys_.getD 0 0) (m := (ys_.getD 1 0).toNat - 2) (z := 3) (lo := 0) (hi := 3) (by rw [hy0]; exact hsz_) (by decide) (show _ = (0 : Int) by rw [hy0, show (ns.getD (a).toNat 0) = 174 by assumption]; rfl) (show _ = (3 : Int) by rw [hy0, show (ns.getD (a).toNat 0) = 174 by assumption]; rfl)
                rw [decide_eq_true (by omega)] at hok_
                have he_ : oneE ys_ = 0 := oneE_fine (by omega) (by omega) (by omega) hok_
                have hN_ : oneN ys_ = ns.getD (a + 1).toNat 0 := by rw [← hy1]; unfold oneN; rw [if_pos he_]
                have e1 : (a + ns.getD (a + 1).toNat 0).toNat = a.toNat + (oneN ys_).toNat := by omega
                have hcn_ : (inB ys_).length / 3 = j_ := by rw [inB_len (by omega)]; omega
                have ho_ : oneO ys_ = ((ns.getD (a).toNat 0), p_, ⟨#[]⟩) := by unfold oneO optS; rw [if_pos he_, hy0, hsz_, if_neg (by decide), hp]; show (_, numsOf _ 3 ((inB ys_).length / 3), _) = _; rw [hcn_]
                have hpl_ : p_.length = j_ := by rw [hp, numsOf_len]
                have hrep_ := opt_rep (G := G93) (k := (ns.getD (a).toNat 0)) (s := ⟨#[]⟩) (ns := p_) (by simp only [IntKind.lo, IntKind.hi]; omega) (by rw [hpl_]; exact hle93) hmx93 hr93 ⟨rfl, Nat.zero_le _⟩
                rw [← ho_, hpl_] at hrep_
                have hpp_ := parse_step (acc := l_) (l := ys_) (by omega) (by omega) (by omega) he_ (by rw [hy0]; assumption)
                exact Rn 3 (.ex .normal) [.loop J2, .blk 0, Qs B59 63] _ (X.again (hJ2 _ _ _ _ ⟨A95, c95, n_ + 1, a + (ns.getD ((a + 1).toNat) 0), l_ ++ [oneO ys_], qs_ ++ [N6 (ns.getD a.toNat 0), .slice D_ j_ d_, .string ByteArray.empty], rfl, rfl, ((hG2.trans hG86).trans hG93), ⟨by omega, by omega, by rw [e1, ← List.drop_drop, hys_, ← hpp_]; exact hpa, repsD_snoc hcs hrep_, by rw [List.length_append, ← hn]; rfl, by omega⟩, rfl⟩ (by omega)))
           ·
            refine Rn 9 (.ex .ret) [] ⟨13, [(2, I6 0)], [(1008, ⟨65, [I6 (ns.getD a.toNat 0), VL none 0 0, VT ByteArray.empty]⟩)]⟩ ?_
            refine fin27 _ _ _ _ [N6 0] [(8, ⟨65, [I6 (ns.getD a.toNat 0), VL none 0 0, VT ByteArray.empty]⟩)] (.inl rfl) (by kernel_rfl) (by kernel_rfl) ?_
            refine Ra 5 (Qc B59 1018876) 1 [Qs B59 1018877, Qs B59 509439] [(9, I6 0)] ?_
            have hr_d96 := hr
            have hcs_d96 := hcs
            refine Oh 24 B59 1018876 25 [⟨some 8, 8, 65, [I6 (ns.getD a.toNat 0), VL none 0 0, VT ByteArray.empty]⟩] [] [] ⟨P1, trivial⟩ Mt (fun ρ0 => ?_)
            refine Td [0, 1, 2, 3, 4, 5, 6, 7, 8, 9, 10, 11, 12, 13, 14, 15, 16, 17, 18, 19, 20, 21, 22] 25 8388607 2 QOk.ctxG [(90, VB false), (91, VL B_ n_ c_), (93, I6 (ns.getD a.toNat 0))] ⟨P1, trivial⟩ ?_
            refine Do 23 25 16777215 B59 1018876 ?_
            refine X.capLe (i := 30) rfl rfl ?_
            intro hle97 hmx97
            refine X.callV (f := 111) (l := [VL B_ n_ c_, I6 (ns.getD a.toNat 0)]) (Q := fun v_ => v_ = .bool (hadB l_ (ns.getD a.toNat 0))) [.slice B_ n_ c_, N6 (ns.getD a.toNat 0)] (by kernel_rfl) (by kernel_rfl) (by kernel_rfl) (fun G1_ hl_ hr_ => by rw [hn]; exact (rHad_ok B_ c_ l_ (ns.getD a.toNat 0) G1_ (rowLit (hr_ 30 _ rfl) (hcs.mono hl_) (by decide)) (by omega) hmx97).mono (fun _ _ _ _ h_ => h_.1)) ?_
            rintro _ rfl
            refine X.back ⟨⟨P1, trivial⟩, Le.refl _, by kernel_rfl, ?_⟩
            refine Ts [24] 25 33554431 0 1 QOk.ctxG ?_
            refine XD.done (by kernel_rfl) ?_
            refine Rn 1 (Qc B59 1018877) [Qs B59 509439, .blk 1, .loop J2, .blk 0, Qs B59 63] ⟨141, [(0, VL A ns.length c), (4, VL B_ n_ c_), (5, I6 a), (7, I6 (ns.getD ((a + 1).toNat) 0)), (8, .own 8 0), (9, I6 0), (95, VB (hadB l_ (ns.getD a.toNat 0)))], [(8, ⟨65, [I6 (ns.getD a.toNat 0), VL none 0 0, VT ByteArray.empty]⟩)]⟩ ?_
            refine X.split 95 rfl (fun h98 => ?_) (fun h98 => ?_)
            ·
             refine Rn 13 (.ex .ret) [] ⟨141, [(2, VL none 0 0), (3, I6 5)], []⟩ ?_
             refine X.nilRow 900 65 3 rfl ?_
             refine Dg (.inl rfl) [.slice none 0 0, N6 5] [900] rfl (hG2) ?_
             have hsz_ : szk (ns.getD (a).toNat 0) = 0 := by unfold szk; rw [if_neg (by omega), if_neg (by omega), if_neg (by omega)]
             have he_ : oneE ys_ = 0 := oneE_fine (by omega) (by omega) (by omega) (okP_free (by rw [hy0]; exact hsz_))
             have hP_ : optP ns = ([], 5) := (optP_of (by omega)).trans (hpa.symm.trans (parse_had (by omega) (by omega) (by omega) he_ (by rw [hy0]; assumption)))
             rw [hP_]
             exact ⟨none, 0, [], rfl, rfl, rfl⟩
            ·
             refine Ra 15 (Qo B59 4075514 3) 1 [Qs B59 1018879] [(98, VL A ns.length c), (100, I6 (IntKind.i64.wrap (a + 2)))] ?_
             refine Kn 100 .i64 (a + 2) rfl (wi64 (by omega) (by omega)) ?_
             refine Ra 3 (Qo B59 4075514 6) 0 [] [(100, I6 (a + 2)), (103, I6 (IntKind.i64.wrap (a + (ns.getD ((a + 1).toNat) 0))))] ?_
             refine Kn 103 .i64 (a + (ns.getD ((a + 1).toNat) 0)) rfl (wi64 (by omega) (by omega)) ?_
             have hlo99 : (a + 2).toNat ≤ (a + (ns.getD ((a + 1).toNat) 0)).toNat := by omega
             have hhi99 : (a + (ns.getD ((a + 1).toNat) 0)).toNat ≤ ns.length := by omega
             refine X.cut (t := 22) (e := 5) (sz := 1) (n := ns.length) (c := c) (A := A) (x := .tmp 98) (l := (some (.tmp 100))) (h := (some (.tmp 103))) (lv := (some (N6 (a + 2)))) (hv := (some (N6 (a + (ns.getD ((a + 1).toNat) 0))))) ((a + 2).toNat) ((a + (ns.getD ((a + 1).toNat) 0)).toNat) (by kernel_rfl) (by kernel_rfl) (by kernel_rfl) (by kernel_rfl) (by kernel_rfl) (by kernel_rfl) (by kernel_rfl) (⟨_, _, rfl, by omega, rfl⟩) (⟨_, _, rfl, by omega, rfl⟩) hlo99 (Nat.le_trans hhi99 hle) ?_
             obtain ⟨A99, hA99⟩ : ∃ A_, cutA A c ((a + 2).toNat) 1 = A_ := ⟨_, rfl⟩
             obtain ⟨ys99, hys99⟩ : ∃ l_, (ns.take ((a + (ns.getD ((a + 1).toNat) 0)).toNat)).drop ((a + 2).toNat) = l_ := ⟨_, rfl⟩
             have hr99 : rowAt (D.int .u8) G2 (cutA A c ((a + 2).toNat) 1) ((ns.take ((a + (ns.getD ((a + 1).toNat) 0)).toNat)).drop ((a + 2).toNat)) := rowAt_cut hr hlo99 hhi99 hle
             have hl99 : ((a + (ns.getD ((a + 1).toNat) 0)).toNat) - ((a + 2).toNat) = ys99.length := by rw [← hys99, List.length_drop, List.length_take]; omega
             have hc99 : ys99.length ≤ c - ((a + 2).toNat) := by omega
             have hm99 : c - ((a + 2).toNat) ≤ maxLen := Nat.le_trans (Nat.sub_le _ _) hmx
             rw [hys99, show cutA A c ((a + 2).toNat) _ = A99 from hA99] at hr99
             rw [hA99, hl99]
             refine Ra 0 (Qo B59 4075514 7) 0 [] [(104, VL A99 ys99.length (c - ((a + 2).toNat)))] ?_
             refine X.toStrW (src := 22) (dst := 9) (e := 5) (n := ys99.length) (c := c - ((a + 2).toNat)) (A := A99) (x := .tmp 104) ys99 (by kernel_rfl) (by kernel_rfl) (by kernel_rfl) (by kernel_rfl) (by kernel_rfl) rfl (at_ints [(30, RR 65 3 B_ n_ c_ qs_)] hr99) (fun w hw e => rowAt.none hr99 e) (by kernel_rfl) ?_
             refine Rb 9 (Qo B59 4075516 2) 1 [Qs B59 4075517, Qs B59 2037759] [(108, I6 (IntKind.i64.wrap (a + 2)))] [] [(8, ⟨65, [I6 (ns.getD a.toNat 0), VL none 0 0, VT (strOf ys99)]⟩)] [] ?_
             refine Kn 108 .i64 (a + 2) rfl (wi64 (by omega) (by omega)) ?_
             refine Ra 4 (Qc B59 8151034) 1 [.blk 4] [(10, I6 (a + 2))] ?_
             refine X.rounds 2 ?_
             refine RX.succ fun J100 hJ100 => ?_
             refine Rn 24 (Qo B59 4075518 2) [Qs B59 4075519, .blk 1, .loop J2, .blk 0, Qs B59 63] ⟨141, [(0, VL A ns.length c), (4, VL B_ n_ c_), (5, I6 a), (7, I6 (ns.getD ((a + 1).toNat) 0)), (133, VL B_ n_ c_), (134, .v (.agg #[N6 (ns.getD a.toNat 0), .slice none 0 0, .string (strOf ys99)]))], []⟩ ?_
             refine Lt 135 65 3 1 [N6 (ns.getD a.toNat 0), .slice none 0 0, .string (strOf ys99)] ?_
             intro A101
             refine Ra 0 (Qo B59 4075518 3) 0 [] [(135, VL A101 1 1)] ?_
             refine Ap 30 _ 59 48 (.agg #[N6 0, .slice none 0 0, .string ByteArray.empty]) (.tmp 133) (.tmp 135) n_ c_ 1 1 B_ A101 [N6 (ns.getD a.toNat 0), .slice none 0 0, .string (strOf ys99)] (.inl rfl) (by kernel_rfl) (Ar 135 rfl) (Br 135 rfl) (ones (by kernel_rfl)) (by omega) ?_
             intro A102 c102 hc102
             refine Tr [30, 135] ?_
             refine Rc 7 (Qo B59 4075519 3) 1 [] [(4, VL A102 (n_ + 1) c102), (139, I6 (IntKind.i64.wrap (a + (ns.getD ((a + 1).toNat) 0))))] [7] ?_
             refine Kn 139 .i64 (a + (ns.getD ((a + 1).toNat) 0)) rfl (wi64 (by omega) (by omega)) ?_
             refine Tr [30] ?_
             have hsz_ : szk (ns.getD (a).toNat 0) = 0 := by unfold szk; rw [if_neg (by omega), if_neg (by omega), if_neg (by omega)]
             have he_ : oneE ys_ = 0 := oneE_fine (by omega) (by omega) (by omega) (okP_free (by rw [hy0]; exact hsz_))
             have hN_ : oneN ys_ = ns.getD (a + 1).toNat 0 := by rw [← hy1]; unfold oneN; rw [if_pos he_]
             have e1 : (a + ns.getD (a + 1).toNat 0).toNat = a.toNat + (oneN ys_).toNat := by omega
             have hin_ : inB ys_ = ys99 := by rw [← hys_, inB_of (n := (ns.getD (a + 1).toNat 0).toNat) (by rw [hys_]; exact hy1) rfl, ← hys99]; congr 1 <;> (try congr 1) <;> omega
             have ho_ : oneO ys_ = ((ns.getD (a).toNat 0), [], strOf ys99) := by unfold oneO optS; rw [if_pos he_, hy0, if_pos hsz_, hin_]
             have hrep_ := opt_rep (G := G2) (k := (ns.getD (a).toNat 0)) (s := strOf ys99) (by simp only [IntKind.lo, IntKind.hi]; omega) (Nat.le_refl 0) (Nat.zero_le _) (rowAt.nil (D.int .u32) G2 none) ⟨rfl, strOf_small (by omega)⟩
             rw [← ho_] at hrep_
             have hpp_ := parse_step (acc := l_) (l := ys_) (by omega) (by omega) (by omega) he_ (by rw [hy0]; assumption)
             exact Rn 3 (.ex .normal) [.loop J2, .blk 0, Qs B59 63] _ (X.again (hJ2 _ _ _ _ ⟨A102, c102, n_ + 1, a + (ns.getD ((a + 1).toNat) 0), l_ ++ [oneO ys_], qs_ ++ [N6 (ns.getD a.toNat 0), .slice none 0 0, .string (strOf ys99)], rfl, rfl, hG2, ⟨by omega, by omega, by rw [e1, ← List.drop_drop, hys_, ← hpp_]; exact hpa, repsD_snoc hcs hrep_, by rw [List.length_append, ← hn]; rfl, by omega⟩, rfl⟩ (by omega)))
  ·
   refine Rn 14 (.ex .ret) [] ⟨141, [(2, VL B_ n_ c_), (3, I6 0)], []⟩ ?_
   refine Dg (.inl rfl) [.slice B_ n_ c_, N6 0] [30] rfl (hG2) ?_
   have hP_ : optP ns = (l_, 0) := (optP_of (by omega)).trans (hpa.symm.trans (parse_nil (by omega)))
   rw [hP_, hn]
   exact ⟨B_, c_, qs_, rfl, rfl, hcs⟩
end Go.Proofs.YtjgpdbkkpomhjaaX
