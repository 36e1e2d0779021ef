/- A part of a law's proof. Conditions: none. -/
import Derived.Test.YtjgpdbkkpomhjaaProg
import Derived.KernelRfl
import Derived.Test.YtjgpdbkkpomhjaaQYS
import Derived.Test.YtjgpdbkkpomhjaaQYT
namespace Go.Proofs.YtjgpdbkkpomhjaaX
open Go.RowKit
open Go.Proofs.YtjgpdbkkpomhjaaW.PrintLast
set_option linter.unusedVariables false
set_option linter.unusedSimpArgs false
set_option maxRecDepth 100000
def wsum : Bool → List Int → Int
 | _, [] => 0
 | false, c :: l => c * 256 + wsum true l
 | true, c :: l => c + wsum false l
def fold16 (n : Int) : Int := if n = 0 then 0 else (n - 1) % 65535 + 1
def cks (l : List Int) : Int := 65535 - fold16 (wsum false l)
def isBytes (l : List Int) : Prop := ∀ x ∈ l, 0 ≤ x ∧ x ≤ 255
theorem wsum_bounds : ∀ (l : List Int) (o : Bool), isBytes l → 0 ≤ wsum o l ∧ wsum o l ≤ 65280 * (l.length : Int)
 | [], o, _ => by cases o <;> simp [wsum]
 | c :: l, o, h => by
  have hc := h c List.mem_cons_self
  have hl : isBytes l := fun x hx => h x (List.mem_cons_of_mem _ hx)
  cases o <;> simp only [wsum, List.length_cons, Int.natCast_add, Int.natCast_one] <;> have := wsum_bounds l true hl <;> have := wsum_bounds l false hl <;> omega
theorem fold16_small {n : Int} (h0 : 0 ≤ n) (h : n ≤ 65535) : fold16 n = n := by unfold fold16; split <;> omega
theorem fold16_step {n : Int} (h : 65536 ≤ n) : fold16 (n % 65536 + n / 65536) = fold16 n := by
 unfold fold16
 rw [if_neg (by omega), if_neg (by omega)]
 omega
theorem fold16_bounds {n : Int} (_h : 0 ≤ n) : 0 ≤ fold16 n ∧ fold16 n ≤ 65535 := by unfold fold16; split <;> omega
theorem cks_bounds {l : List Int} (h : isBytes l) : 0 ≤ cks l ∧ cks l ≤ 65535 := by
 have := fold16_bounds (wsum_bounds l false h).1
 unfold cks; omega
theorem band_low16 {s : Int} (h0 : 0 ≤ s) (h1 : s < 18446744073709551616) : band .u64 s 65535 = s % 65536 := by
 have := band_low (k := .u64) (m := 16) rfl h0 (by simpa [IntKind.bits] using h1) (by decide)
 simpa using this
theorem bxor_16 {s : Int} (h0 : 0 ≤ s) (h1 : s ≤ 65535) : bxor .u16 65535 s = 65535 - s := by
 obtain ⟨n, rfl⟩ := Int.eq_ofNat_of_zero_le h0
 have hn : n ≤ 65535 := by omega
 have := bxor_nat (k := .u16) (a := 65535) (b := n) rfl (by decide) (by simp only [IntKind.bits]; omega)
 rw [show ((65535 : Nat) : Int) = 65535 from rfl] at this
 rw [this]
 have e : 65535 ^^^ n = 65535 - n := by
  have h2 : (BitVec.allOnes 16 ^^^ BitVec.ofNat 16 n).toNat = 65535 - n := by
   rw [BitVec.allOnes_xor, BitVec.toNat_not, BitVec.toNat_ofNat]
   omega
  rw [BitVec.toNat_xor, BitVec.toNat_ofNat, BitVec.toNat_allOnes, Nat.mod_eq_of_lt (by omega)] at h2
  exact h2
 rw [e]
 omega
theorem wsum_drop {l : List Int} {j : Nat} (h : j < l.length) (o : Bool) (rest : List Int) : wsum o (l.drop j ++ rest) = (if o then l.getD j 0 else l.getD j 0 * 256) + wsum (!o) (l.drop (j + 1) ++ rest) := by
 rw [List.drop_eq_getElem_cons h]
 have e : l.getD j 0 = l[j] := by simp [List.getD, h]
 rw [e]
 cases o <;> rfl
theorem flat_drop {ps : List (List Int)} {i : Nat} (h : i < ps.length) : (ps.drop i).flatten = ps.getD i [] ++ (ps.drop (i + 1)).flatten := by
 rw [List.drop_eq_getElem_cons h]
 have e : ps.getD i [] = ps[i] := by simp [List.getD, h]
 rw [e]
 rfl
theorem bytes_flat {ps : List (List Int)} (h : ∀ p ∈ ps, isBytes p) : isBytes ps.flatten := fun x hx => by
 obtain ⟨p, hp, hx⟩ := List.mem_flatten.mp hx
 exact h p hp x hx
theorem bytes_rest {ps : List (List Int)} (h : ∀ p ∈ ps, isBytes p) (i j : Nat) (hi : i < ps.length) : isBytes ((ps.getD i []).drop j ++ (ps.drop (i + 1)).flatten) := fun x hx => by
 rcases List.mem_append.1 hx with hx | hx
 ·
  have e : ps.getD i [] = ps[i] := by simp [List.getD, hi]
  rw [e] at hx
  exact h _ (List.getElem_mem hi) x (List.mem_of_mem_drop hx)
 ·
  obtain ⟨p, hp, hx⟩ := List.mem_flatten.mp hx
  exact h p (List.mem_of_mem_drop hp) x hx
theorem rows_bytes {ps : List (List Int)} {G : Mem} {A : Option Addr} (h : rowAt (D.slice (D.int .u8)) G A ps) : ∀ p ∈ ps, isBytes p := fun p hp => by
 obtain ⟨i, hi, rfl⟩ := List.getElem_of_mem hp
 obtain ⟨ad, cs, _, ⟨B, c, _, _, _, h4⟩, _⟩ := h i hi
 exact fun x hx => int_range h4 x hx
theorem wsum_at {l : List Int} {j : Nat} (h : j < l.length) (o : Bool) : wsum o (l.drop j) = (if o then l.getD j 0 else l.getD j 0 * 256) + wsum (!o) (l.drop (j + 1)) := by
 have := wsum_drop h o []
 simpa using this
theorem wsum_end {l : List Int} {j : Nat} (h : l.length ≤ j) (o : Bool) : wsum o (l.drop j) = 0 := by
 rw [List.drop_eq_nil_of_le h]
 cases o <;> rfl
theorem fold16_sub {n : Int} (h : 65536 ≤ n) : fold16 (n - 65536 + 1) = fold16 n := by
 unfold fold16
 rw [if_neg (by omega), if_neg (by omega)]
 omega
theorem bytes_drop {l : List Int} (h : isBytes l) (j : Nat) : isBytes (l.drop j) := fun x hx => h x (List.mem_of_mem_drop hx)
theorem row_bytes {l : List Int} {G : Mem} {A : Option Addr} (h : rowAt (D.int .u8) G A l) : isBytes l := fun x hx => int_range h x hx
theorem wsum_le {l : List Int} (h : isBytes l) (n : Nat) (hn : l.length ≤ n) : wsum false l ≤ 65280 * (n : Int) := by
 have := (wsum_bounds l false h).2
 omega
noncomputable def B28 : Code := bodyOf Try.f28
set_option maxHeartbeats 1000000 in
theorem Sum_ok (A : Option Addr) (c : Nat) (ps : List (List Int)) (G : Mem) (hps : rowAt (D.slice (D.int .u8)) G A ps) (hn : ps.length ≤ 1000000) (hT : wsum false ps.flatten ≤ 1152921504606846976) : CallsG Try.prog 28 [.slice A ps.length c] G (fun _ v rows => v = .int .u16 (cks ps.flatten) ∧ rows = []) := by
 have hby := rows_bytes hps
 refine CallsG.enter Try.func28 rfl rfl ?_
 intro w
 refine Rn 20 (Qc B28 58) [.blk 0, Qs B28 15] _ (X.loopJ (fun m s R' G' => ∃ (a : Int) (od : Bool) (i : Int), s = ⟨46, [(2, I1 0), (3, I7 a), (4, VB od), (9, VL A ps.length c), (10, I6 (ps.length : Int)), (11, I6 i)], []⟩ ∧ R' = [] ∧ G = G' ∧ (0 ≤ i ∧ i ≤ (ps.length : Int) ∧ 0 ≤ a ∧ a + wsum od (ps.drop i.toNat).flatten = wsum false ps.flatten) ∧ m = ((ps.length : Int) - i).toNat) _ ⟨0, false, 0, rfl, rfl, rfl, ⟨by omega, by omega, by omega, by simp⟩, rfl⟩ ?_)
 rintro m1 s1 R1 G1 ⟨a, od, i, rfl, rfl, rfl, hF1, rfl⟩ J1 hJ1
 obtain ⟨hi0, hi1, hi2, hi3⟩ := hF1
 refine Ra 6 (Qc B28 466) 0 [Qs B28 467] [(12, VB (decide (i < (ps.length : Int))))] ?_
 refine Sd 12 rfl ?_ ?_ <;> intro h2
 ·
  refine Ra 7 (Qo B28 3736 0) 1 [Qs B28 3737, .blk 1, Qs B28 935] [] ?_
  refine Ix 121 22 1 A ps.length c .i64 i (.tmp 9) (.tmp 11) (by omega) (by omega) (fun _ _ => rowAt.so hps (by omega)) ?_
  obtain ⟨A5, c5, at5, le5, mx5, hr5⟩ := At.slice [] hps ((i).toNat) (by omega)
  simp only [maxLen] at mx5
  refine Ld 22 A ((i).toNat * 1) (.tmp 13) (.slice A5 ((ps.getD i.toNat []).length) c5) [.slice A5 ((ps.getD i.toNat []).length) c5] at5 ?_
  refine Rn 11 (Qc B28 14950) [.blk 2, .blk 1, Qs B28 935, .loop J1, .blk 0, Qs B28 15] _ (X.loopJ (fun m s R' G' => ∃ (a2 : Int) (od2 : Bool) (j : Int), s = ⟨46, [(2, I1 0), (3, I7 a2), (4, VB od2), (9, VL A ps.length c), (10, I6 (ps.length : Int)), (11, I6 i), (15, VL A5 ((ps.getD i.toNat []).length) c5), (16, I6 (((ps.getD i.toNat []).length : Nat) : Int)), (17, I6 j)], []⟩ ∧ R' = [] ∧ G = G' ∧ (0 ≤ j ∧ j ≤ ((ps.getD i.toNat []).length : Int) ∧ 0 ≤ a2 ∧ a2 + wsum od2 ((ps.getD i.toNat []).drop (j).toNat ++ (ps.drop (i.toNat + 1)).flatten) = wsum false ps.flatten) ∧ m = (((ps.getD i.toNat []).length : Int) - j).toNat) _ ⟨a, od, 0, rfl, rfl, rfl, ⟨by omega, by omega, by omega, by rw [Int.toNat_zero, List.drop_zero, ← flat_drop (by omega)]; exact hi3⟩, rfl⟩ ?_)
  rintro m6 s6 R6 G6 ⟨a2, od2, j, rfl, rfl, rfl, hF6, rfl⟩ J6 hJ6
  obtain ⟨hj0, hj1, hj2, hj3⟩ := hF6
  have hbw := wsum_bounds _ od2 (bytes_rest hby i.toNat j.toNat (by omega))
  refine Ra 6 (Qc B28 119602) 0 [Qs B28 119603] [(18, VB (decide (j < (((ps.getD i.toNat []).length : Nat) : Int))))] ?_
  refine Sd 18 rfl ?_ ?_ <;> intro h7
  ·
   refine Ra 7 (Qo B28 956824 0) 1 [Qs B28 956825, .blk 3, Qs B28 239207] [] ?_
   refine Ix 22 5 1 A5 ((ps.getD i.toNat []).length) c5 .i64 j (.tmp 15) (.tmp 17) (by omega) (by omega) (fun _ _ => rowAt.so hr5 (by omega)) ?_
   obtain ⟨at10, lo10, hi10⟩ := At.int [] hr5 ((j).toNat) (by omega)
   simp only [IntKind.lo, IntKind.hi] at lo10 hi10
   refine Ld 5 A5 ((j).toNat * 1) (.tmp 19) (N8 ((ps.getD i.toNat []).getD j.toNat 0)) [N8 ((ps.getD i.toNat []).getD j.toNat 0)] at10 ?_
   refine Ra 9 (Qc B28 3827301) 1 [Qs B28 1913651] [(8, I8 ((ps.getD i.toNat []).getD j.toNat 0)), (21, VB od2)] ?_
   refine X.split 21 rfl (fun h11 => ?_) (fun h11 => ?_)
   ·
    have hx := wsum_drop (l := (ps.getD ((i).toNat) [])) (j := (j).toNat) (by omega) od2 (ps.drop (i.toNat + 1)).flatten
    have hb2 := wsum_bounds _ (!od2) (bytes_rest hby i.toNat (j.toNat + 1) (by omega))
    have e1 : IntKind.i64.wrap (j + 1) = j + 1 := wi64 (by omega) (by omega)
    have e0 : (j + 1).toNat = j.toNat + 1 := by omega
    subst h11
    simp only [Bool.false_eq_true, if_true, if_false, Bool.not_true, Bool.not_false] at hx hj3 hbw hb2 ⊢
    have e2 : IntKind.u64.wrap (a2 + (IntKind.u64.wrap ((ps.getD ((i).toNat) []).getD ((j).toNat) 0))) = a2 + ((ps.getD ((i).toNat) []).getD ((j).toNat) 0) := by
     have e3 : IntKind.u64.wrap ((ps.getD ((i).toNat) []).getD ((j).toNat) 0) = ((ps.getD ((i).toNat) []).getD ((j).toNat) 0) := wu64 (by omega) (by omega)
     rw [e3, wu64 (by omega) (by omega)]
    exact Rn 20 (.ex .normal) [.loop J6, .blk 2, .blk 1, Qs B28 935, .loop J1, .blk 0, Qs B28 15] _ (X.again (hJ6 _ _ _ _ ⟨IntKind.u64.wrap (a2 + (IntKind.u64.wrap ((ps.getD i.toNat []).getD j.toNat 0))), false, IntKind.i64.wrap (j + 1), rfl, rfl, rfl, ⟨by omega, by omega, by omega, by rw [e1, e0, e2]; omega⟩, rfl⟩ (by rw [e1]; omega)))
   ·
    have hx := wsum_drop (l := (ps.getD ((i).toNat) [])) (j := (j).toNat) (by omega) od2 (ps.drop (i.toNat + 1)).flatten
    have hb2 := wsum_bounds _ (!od2) (bytes_rest hby i.toNat (j.toNat + 1) (by omega))
    have e1 : IntKind.i64.wrap (j + 1) = j + 1 := wi64 (by omega) (by omega)
    have e0 : (j + 1).toNat = j.toNat + 1 := by omega
    subst h11
    simp only [Bool.false_eq_true, if_true, if_false, Bool.not_true, Bool.not_false] at hx hj3 hbw hb2 ⊢
    have e2 : IntKind.u64.wrap (a2 + (bshl .u64 (IntKind.u64.wrap ((ps.getD ((i).toNat) []).getD ((j).toNat) 0)) 8)) = a2 + ((ps.getD ((i).toNat) []).getD ((j).toNat) 0) * 256 := by
     have e3 : IntKind.u64.wrap ((ps.getD ((i).toNat) []).getD ((j).toNat) 0) = ((ps.getD ((i).toNat) []).getD ((j).toNat) 0) := wu64 (by omega) (by omega)
     have e4 : bshl .u64 ((ps.getD ((i).toNat) []).getD ((j).toNat) 0) 8 = ((ps.getD ((i).toNat) []).getD ((j).toNat) 0) * 256 := by unfold bshl; exact wu64 (by show 0 ≤ ((ps.getD ((i).toNat) []).getD ((j).toNat) 0) * 256; omega) (by show ((ps.getD ((i).toNat) []).getD ((j).toNat) 0) * 256 ≤ _; omega)
     rw [e3, e4, wu64 (by omega) (by omega)]
    exact Rn 21 (.ex .normal) [.loop J6, .blk 2, .blk 1, Qs B28 935, .loop J1, .blk 0, Qs B28 15] _ (X.again (hJ6 _ _ _ _ ⟨IntKind.u64.wrap (a2 + (bshl .u64 (IntKind.u64.wrap ((ps.getD i.toNat []).getD j.toNat 0)) 8)), true, IntKind.i64.wrap (j + 1), rfl, rfl, rfl, ⟨by omega, by omega, by omega, by rw [e1, e0, e2]; omega⟩, rfl⟩ (by rw [e1]; omega)))
  ·
   have e1 : IntKind.i64.wrap (i + 1) = i + 1 := wi64 (by omega) (by omega)
   have e0 : (i + 1).toNat = i.toNat + 1 := by omega
   rw [List.drop_eq_nil_of_le (by omega), List.nil_append] at hj3
   exact Rn 11 (.ex .normal) [.loop J1, .blk 0, Qs B28 15] _ (X.again (hJ1 _ _ _ _ ⟨a2, od2, IntKind.i64.wrap (i + 1), rfl, rfl, rfl, ⟨by omega, by omega, by omega, by rw [e1, e0]; exact hj3⟩, rfl⟩ (by rw [e1]; omega)))
 ·
  refine Rn 8 (Qc B28 60) [.blk 4, Qs B28 31] _ (X.loopJ (fun m s R' G' => ∃ (q : Int), s = ⟨46, [(2, I1 0), (3, I7 q)], []⟩ ∧ R' = [] ∧ G = G' ∧ (0 ≤ q ∧ q ≤ 1152921504606846976 ∧ fold16 q = fold16 (wsum false ps.flatten)) ∧ m = (q).toNat) _ ⟨a, rfl, rfl, rfl, ⟨by omega, by rw [List.drop_eq_nil_of_le (by omega)] at hi3; cases od <;> simp [wsum] at hi3 <;> omega, by rw [List.drop_eq_nil_of_le (by omega)] at hi3; cases od <;> simp [wsum] at hi3 <;> rw [hi3]⟩, rfl⟩ ?_)
  rintro m12 s12 R12 G12 ⟨q, rfl, rfl, rfl, hF12, rfl⟩ J12 hJ12
  obtain ⟨hs0, hs1, hs2⟩ := hF12
  have er : bshr .u64 q 16 = q / 65536 := by rw [shr_nn hs0]; rfl
  have eb := band_low16 hs0 (by omega)
  refine Ra 8 (Qc B28 481) 0 [Qs B28 241] [(37, VB (decide (bshr .u64 q 16 > 0)))] ?_
  refine Sd 37 rfl ?_ ?_ <;> intro h13
  ·
   have e2 : IntKind.u64.wrap ((band .u64 q 65535) + (bshr .u64 q 16)) = q % 65536 + q / 65536 := by
    rw [er, eb, wu64 (by omega) (by omega)]
   exact Rn 13 (.ex .normal) [.loop J12, .blk 4, Qs B28 31] _ (X.again (hJ12 _ _ _ _ ⟨IntKind.u64.wrap ((band .u64 q 65535) + (bshr .u64 q 16)), rfl, rfl, rfl, ⟨by omega, by omega, by rw [e2, fold16_step (by omega)]; exact hs2⟩, rfl⟩ (by rw [e2]; omega)))
  ·
   refine Rn 15 (.ex .ret) [] ⟨46, [(2, I1 (bxor .u16 65535 (IntKind.u16.wrap q)))], []⟩ ?_
   refine Dg (.inl rfl) [N1 (bxor .u16 65535 (IntKind.u16.wrap q))] [] rfl (Ge.refl _ _) ?_
   have hb3 := cks_bounds (bytes_flat hby)
   refine ⟨?_, rfl⟩
   rw [wu16 (by omega) (by omega), bxor_16 (by omega) (by omega), ← fold16_small hs0 (by omega), hs2]
   rfl
noncomputable def B29 : Code := bodyOf Try.f29
set_option maxHeartbeats 1000000 in
theorem SumRef_ok (A : Option Addr) (c : Nat) (b : List Int) (G : Mem) (hb : rowAt (D.int .u8) G A b) (hle : b.length ≤ c) (hmx : c ≤ maxLen) (hsz : b.length ≤ 1000000000) : CallsG Try.prog 29 [.slice A b.length c] G (fun _ v rows => v = .int .u16 (cks b) ∧ rows = []) := by
 simp only [maxLen] at hmx
 have hby := row_bytes hb
 refine CallsG.enter Try.func29 rfl rfl ?_
 intro w
 refine Rn 17 (Qc B29 58) [.blk 0, Qs B29 15] _ (X.loopJ (fun m s R' G' => ∃ (q i : Int), s = ⟨42, [(0, VL A b.length c), (2, I1 0), (3, I6 q), (4, I6 i)], []⟩ ∧ R' = [] ∧ G = G' ∧ (0 ≤ i ∧ i ≤ (b.length : Int) + 1 ∧ 0 ≤ q ∧ q ≤ 65535 ∧ fold16 (q + wsum false (b.drop i.toNat)) = fold16 (wsum false b)) ∧ m = ((b.length : Int) + 1 - i).toNat) _ ⟨0, 0, rfl, rfl, rfl, ⟨by omega, by omega, by omega, by omega, by simp⟩, rfl⟩ ?_)
 rintro m1 s1 R1 G1 ⟨q, i, rfl, rfl, rfl, hF1, rfl⟩ J1 hJ1
 obtain ⟨hi0, hi1, hi2, hi3, hi4⟩ := hF1
 refine Ra 9 (Qc B29 465) 0 [Qs B29 233] [(9, VB (decide (i < (b.length : Int))))] ?_
 refine Sd 9 rfl ?_ ?_ <;> intro h2
 ·
  refine Ra 9 (Qo B29 1864 2) 1 [Qs B29 1865, .blk 1, Qs B29 467] [(12, VL A b.length c), (13, I6 i)] ?_
  refine Ix 22 5 1 A b.length c .i64 i (.tmp 12) (.tmp 13) (by omega) (by omega) (fun _ _ => rowAt.so hb (by omega)) ?_
  obtain ⟨at5, lo5, hi5⟩ := At.int [] hb ((i).toNat) (by omega)
  simp only [IntKind.lo, IntKind.hi] at lo5 hi5
  refine Ra 0 (Qo B29 1864 3) 0 [] [(14, .v (elt A ((i).toNat * 1)))] ?_
  refine Ld 5 A ((i).toNat * 1) (.tmp 14) (N8 (b.getD i.toNat 0)) [N8 (b.getD i.toNat 0)] at5 ?_
  refine Ra 1 (Qo B29 1864 5) 0 [] [(16, I6 (IntKind.i64.wrap (b.getD i.toNat 0)))] ?_
  refine Kn 16 .i64 (b.getD i.toNat 0) rfl (wi64 (by omega) (by omega)) ?_
  refine Ra 1 (Qo B29 1864 6) 0 [] [(17, I6 (IntKind.i64.wrap ((b.getD i.toNat 0) * 256)))] ?_
  refine Kn 17 .i64 ((b.getD i.toNat 0) * 256) rfl (wi64 (by omega) (by omega)) ?_
  refine Ra 8 (Qo B29 7460 2) 1 [Qs B29 7461, Qs B29 3731] [(5, I6 ((b.getD i.toNat 0) * 256)), (19, I6 (IntKind.i64.wrap (i + 1)))] ?_
  refine Kn 19 .i64 (i + 1) rfl (wi64 (by omega) (by omega)) ?_
  refine Ra 5 (Qc B29 7461) 1 [] [(22, VB (decide (i + 1 < (b.length : Int))))] ?_
  refine Sd 22 rfl ?_ ?_ <;> intro h6
  ·
   refine Ra 6 (Qo B29 14922 4) 0 [] [(23, I6 ((b.getD i.toNat 0) * 256)), (24, VL A b.length c), (26, I6 (IntKind.i64.wrap (i + 1)))] ?_
   refine Kn 26 .i64 (i + 1) rfl (wi64 (by omega) (by omega)) ?_
   refine Ix 22 5 1 A b.length c .i64 (i + 1) (.tmp 24) (.tmp 26) (by omega) (by omega) (fun _ _ => rowAt.so hb (by omega)) ?_
   obtain ⟨at9, lo9, hi9⟩ := At.int [] hb ((i + 1).toNat) (by omega)
   simp only [IntKind.lo, IntKind.hi] at lo9 hi9
   refine Ra 0 (Qo B29 14922 5) 0 [] [(27, .v (elt A ((i + 1).toNat * 1)))] ?_
   refine Ld 5 A ((i + 1).toNat * 1) (.tmp 27) (N8 (b.getD ((i + 1).toNat) 0)) [N8 (b.getD ((i + 1).toNat) 0)] at9 ?_
   refine Ra 1 (Qo B29 14922 7) 0 [] [(29, I6 (IntKind.i64.wrap (b.getD ((i + 1).toNat) 0)))] ?_
   refine Kn 29 .i64 (b.getD ((i + 1).toNat) 0) rfl (wi64 (by omega) (by omega)) ?_
   refine Ra 1 (Qo B29 14922 8) 0 [] [(30, I6 (IntKind.i64.wrap (((b.getD i.toNat 0) * 256) + (b.getD ((i + 1).toNat) 0))))] ?_
   refine Kn 30 .i64 (((b.getD i.toNat 0) * 256) + (b.getD ((i + 1).toNat) 0)) rfl (wi64 (by omega) (by omega)) ?_
   refine Rc 8 (Qo B29 7462 3) 1 [Qs B29 7463] [(33, I6 (IntKind.i64.wrap (q + (((b.getD i.toNat 0) * 256) + (b.getD ((i + 1).toNat) 0)))))] [5] ?_
   refine Kn 33 .i64 (q + (((b.getD i.toNat 0) * 256) + (b.getD ((i + 1).toNat) 0))) rfl (wi64 (by omega) (by omega)) ?_
   refine Rn 9 (Qc B29 14927) [.blk 1, Qs B29 467, .loop J1, .blk 0, Qs B29 15] ⟨42, [(0, VL A b.length c), (2, I1 0), (3, I6 (q + (((b.getD i.toNat 0) * 256) + (b.getD ((i + 1).toNat) 0)))), (4, I6 i), (35, VB (decide (q + (((b.getD i.toNat 0) * 256) + (b.getD ((i + 1).toNat) 0)) > 65535)))], []⟩ ?_
   refine Sd 35 rfl ?_ ?_ <;> intro h10
   ·
    refine Ra 4 (Qo B29 29854 2) 0 [] [(37, I6 (IntKind.i64.wrap ((q + (((b.getD i.toNat 0) * 256) + (b.getD ((i + 1).toNat) 0))) - 65536)))] ?_
    refine Kn 37 .i64 ((q + (((b.getD i.toNat 0) * 256) + (b.getD ((i + 1).toNat) 0))) - 65536) rfl (wi64 (by omega) (by omega)) ?_
    refine Ra 1 (Qo B29 29854 3) 0 [] [(38, I6 (IntKind.i64.wrap (((q + (((b.getD i.toNat 0) * 256) + (b.getD ((i + 1).toNat) 0))) - 65536) + 1)))] ?_
    refine Kn 38 .i64 (((q + (((b.getD i.toNat 0) * 256) + (b.getD ((i + 1).toNat) 0))) - 65536) + 1) rfl (wi64 (by omega) (by omega)) ?_
    refine Ra 7 (Qo B29 467 2) 2 [] [(3, I6 (((q + (((b.getD i.toNat 0) * 256) + (b.getD ((i + 1).toNat) 0))) - 65536) + 1)), (11, I6 (IntKind.i64.wrap (i + 2)))] ?_
    refine Kn 11 .i64 (i + 2) rfl (wi64 (by omega) (by omega)) ?_
    have e1 : (i + 1).toNat = i.toNat + 1 := by omega
    have e2 : (i + 2).toNat = i.toNat + 2 := by omega
    have w1 := wsum_at (l := b) (j := i.toNat) (by omega) false
    have w2 := wsum_at (l := b) (j := i.toNat + 1) (by omega) true
    rw [show i.toNat + 1 + 1 = i.toNat + 2 from rfl] at w2
    simp only [Bool.false_eq_true, if_true, if_false, Bool.not_true, Bool.not_false] at w1 w2
    have hb2 := (wsum_bounds _ false (bytes_drop hby (i.toNat + 2))).1
    have e3 : (((q + (((b.getD ((i).toNat) 0) * 256) + (b.getD ((i + 1).toNat) 0))) - 65536) + 1) + wsum false (b.drop (i.toNat + 2)) = q + wsum false (b.drop i.toNat) - 65536 + 1 := by rw [w1, w2, e1]; omega
    exact Rn 2 (.ex .normal) [.loop J1, .blk 0, Qs B29 15] _ (X.again (hJ1 _ _ _ _ ⟨((q + (((b.getD i.toNat 0) * 256) + (b.getD ((i + 1).toNat) 0))) - 65536) + 1, i + 2, rfl, rfl, rfl, ⟨by omega, by omega, by omega, by omega, by rw [e2, e3, fold16_sub (by omega)]; exact hi4⟩, rfl⟩ (by omega)))
   ·
    refine Ra 7 (Qo B29 467 2) 2 [] [(11, I6 (IntKind.i64.wrap (i + 2)))] ?_
    refine Kn 11 .i64 (i + 2) rfl (wi64 (by omega) (by omega)) ?_
    have e1 : (i + 1).toNat = i.toNat + 1 := by omega
    have e2 : (i + 2).toNat = i.toNat + 2 := by omega
    have w1 := wsum_at (l := b) (j := i.toNat) (by omega) false
    have w2 := wsum_at (l := b) (j := i.toNat + 1) (by omega) true
    rw [show i.toNat + 1 + 1 = i.toNat + 2 from rfl] at w2
    simp only [Bool.false_eq_true, if_true, if_false, Bool.not_true, Bool.not_false] at w1 w2
    have hb2 := (wsum_bounds _ false (bytes_drop hby (i.toNat + 2))).1
    have e3 : (q + (((b.getD ((i).toNat) 0) * 256) + (b.getD ((i + 1).toNat) 0))) + wsum false (b.drop (i.toNat + 2)) = q + wsum false (b.drop i.toNat) := by rw [w1, w2, e1]; omega
    exact Rn 2 (.ex .normal) [.loop J1, .blk 0, Qs B29 15] _ (X.again (hJ1 _ _ _ _ ⟨q + (((b.getD i.toNat 0) * 256) + (b.getD ((i + 1).toNat) 0)), i + 2, rfl, rfl, rfl, ⟨by omega, by omega, by omega, by omega, by rw [e2, e3]; exact hi4⟩, rfl⟩ (by omega)))
  ·
   refine Rc 8 (Qo B29 7462 3) 1 [Qs B29 7463] [(33, I6 (IntKind.i64.wrap (q + ((b.getD i.toNat 0) * 256))))] [5] ?_
   refine Kn 33 .i64 (q + ((b.getD i.toNat 0) * 256)) rfl (wi64 (by omega) (by omega)) ?_
   refine Ra 9 (Qc B29 14927) 1 [] [(3, I6 (q + ((b.getD i.toNat 0) * 256))), (35, VB (decide (q + ((b.getD i.toNat 0) * 256) > 65535)))] ?_
   refine Sd 35 rfl ?_ ?_ <;> intro h11
   ·
    refine Ra 4 (Qo B29 29854 2) 0 [] [(37, I6 (IntKind.i64.wrap ((q + ((b.getD i.toNat 0) * 256)) - 65536)))] ?_
    refine Kn 37 .i64 ((q + ((b.getD i.toNat 0) * 256)) - 65536) rfl (wi64 (by omega) (by omega)) ?_
    refine Ra 1 (Qo B29 29854 3) 0 [] [(38, I6 (IntKind.i64.wrap (((q + ((b.getD i.toNat 0) * 256)) - 65536) + 1)))] ?_
    refine Kn 38 .i64 (((q + ((b.getD i.toNat 0) * 256)) - 65536) + 1) rfl (wi64 (by omega) (by omega)) ?_
    refine Ra 7 (Qo B29 467 2) 2 [] [(3, I6 (((q + ((b.getD i.toNat 0) * 256)) - 65536) + 1)), (11, I6 (IntKind.i64.wrap (i + 2)))] ?_
    refine Kn 11 .i64 (i + 2) rfl (wi64 (by omega) (by omega)) ?_
    have e1 : (i + 1).toNat = i.toNat + 1 := by omega
    have e2 : (i + 2).toNat = i.toNat + 2 := by omega
    have w1 := wsum_at (l := b) (j := i.toNat) (by omega) false
    have w2 := wsum_end (l := b) (j := i.toNat + 1) (by omega) true
    have w3 := wsum_end (l := b) (j := i.toNat + 2) (by omega) false
    simp only [Bool.false_eq_true, if_true, if_false, Bool.not_true, Bool.not_false] at w1 w2
    have hb2 := (wsum_bounds _ false (bytes_drop hby (i.toNat + 2))).1
    have e3 : (((q + ((b.getD ((i).toNat) 0) * 256)) - 65536) + 1) + wsum false (b.drop (i.toNat + 2)) = q + wsum false (b.drop i.toNat) - 65536 + 1 := by rw [w1, w2, w3]; omega
    exact Rn 2 (.ex .normal) [.loop J1, .blk 0, Qs B29 15] _ (X.again (hJ1 _ _ _ _ ⟨((q + ((b.getD i.toNat 0) * 256)) - 65536) + 1, i + 2, rfl, rfl, rfl, ⟨by omega, by omega, by omega, by omega, by rw [e2, e3, fold16_sub (by omega)]; exact hi4⟩, rfl⟩ (by omega)))
   ·
    refine Ra 7 (Qo B29 467 2) 2 [] [(11, I6 (IntKind.i64.wrap (i + 2)))] ?_
    refine Kn 11 .i64 (i + 2) rfl (wi64 (by omega) (by omega)) ?_
    have e1 : (i + 1).toNat = i.toNat + 1 := by omega
    have e2 : (i + 2).toNat = i.toNat + 2 := by omega
    have w1 := wsum_at (l := b) (j := i.toNat) (by omega) false
    have w2 := wsum_end (l := b) (j := i.toNat + 1) (by omega) true
    have w3 := wsum_end (l := b) (j := i.toNat + 2) (by omega) false
    simp only [Bool.false_eq_true, if_true, if_false, Bool.not_true, Bool.not_false] at w1 w2
    have hb2 := (wsum_bounds _ false (bytes_drop hby (i.toNat + 2))).1
    have e3 : (q + ((b.getD ((i).toNat) 0) * 256)) + wsum false (b.drop (i.toNat + 2)) = q + wsum false (b.drop i.toNat) := by rw [w1, w2, w3]; omega
    exact Rn 2 (.ex .normal) [.loop J1, .blk 0, Qs B29 15] _ (X.again (hJ1 _ _ _ _ ⟨q + ((b.getD i.toNat 0) * 256), i + 2, rfl, rfl, rfl, ⟨by omega, by omega, by omega, by omega, by rw [e2, e3]; exact hi4⟩, rfl⟩ (by omega)))
 ·
  refine Rc 10 (Qo B29 30 2) 4 [Qs B29 31] [(40, I6 (IntKind.i64.wrap (65535 - q)))] [3, 4] ?_
  refine Kn 40 .i64 (65535 - q) rfl (wi64 (by omega) (by omega)) ?_
  refine Ra 2 (.ops (aA B29 (pa 30)) ([])) 0 [] [(2, I1 (IntKind.u16.wrap (65535 - q)))] ?_
  refine Kn 2 .u16 (65535 - q) rfl (wu16 (by omega) (by omega)) ?_
  refine Rn 3 (.ex .ret) [] ⟨42, [(2, I1 (65535 - q))], []⟩ ?_
  refine Dg (.inl rfl) [N1 (65535 - q)] [] rfl (Ge.refl _ _) ?_
  refine ⟨?_, rfl⟩
  rw [wsum_end (by omega), Int.add_zero, fold16_small hi2 hi3] at hi4
  unfold cks
  rw [← hi4]
  rfl
noncomputable def B30 : Code := bodyOf Try.f30
set_option maxHeartbeats 1000000 in
theorem Verify_ok (A : Option Addr) (c : Nat) (ps : List (List Int)) (G : Mem) (hps : rowAt (D.slice (D.int .u8)) G A ps) (hn : ps.length ≤ 1000000) (hT : wsum false ps.flatten ≤ 1152921504606846976) : CallsG Try.prog 30 [.slice A ps.length c] G (fun _ v rows => v = .bool (cks ps.flatten == 0) ∧ rows = []) := by
 refine CallsG.enter Try.func30 rfl rfl ?_
 intro w
 refine Rn 8 (Qo B30 6 1) [Qs B30 7] ⟨6, [(2, VB false), (3, VL A ps.length c)], []⟩ ?_
 refine Cg 28 [.slice A ps.length c] 0 (Sum_ok _ _ _ _ hps hn hT) ?_
 rintro v1 G1 rows1 hG1 ⟨rfl, rfl⟩
 replace hps := hps.mono hG1.le
 refine Rn 5 (.ex .ret) [] ⟨6, [(2, VB ((cks ps.flatten) == 0))], []⟩ ?_
 refine Dg (.inl rfl) [.bool ((cks ps.flatten) == 0)] [] rfl (hG1) ?_
 exact ⟨rfl, rfl⟩
set_option maxHeartbeats 1000000 in
theorem Has_ok (s0 s1 s2 s3 s4 s5 s6 s7 s8 s9 f : Int) (G : Mem) : CallsG Try.prog 37 [.agg #[.int .u16 s0, .int .u16 s1, .int .u32 s2, .int .u32 s3, .int .u8 s4, .int .u8 s5, .int .u8 s6, .int .u16 s7, .int .u16 s8, .int .u16 s9], .int .u8 f] G (fun _ v rows => v = .bool (band .u8 s6 f == f) ∧ rows = []) := by
 refine CallsG.enter Try.func37 rfl rfl ?_
 intro w
 refine Rn 18 (.ex .ret) [] ⟨11, [(4, VB ((band .u8 s6 f) == f))], []⟩ ?_
 refine Dg (.inl rfl) [.bool ((band .u8 s6 f) == f)] [] rfl (Ge.refl _ _) ?_
 exact ⟨rfl, rfl⟩
noncomputable def B97 : Code := bodyOf Try.f97
def enc11 (s0 s1 s2 s3 s4 s5 s6 s7 s8 s9 : Int) : List Int := [IntKind.u8.wrap (bshr .u32 (IntKind.u32.wrap s0) 8), IntKind.u8.wrap (bshr .u32 (IntKind.u32.wrap s0) 0), IntKind.u8.wrap (bshr .u32 (IntKind.u32.wrap s1) 8), IntKind.u8.wrap (bshr .u32 (IntKind.u32.wrap s1) 0), IntKind.u8.wrap (bshr .u32 s2 24), IntKind.u8.wrap (bshr .u32 s2 16), IntKind.u8.wrap (bshr .u32 s2 8), IntKind.u8.wrap (bshr .u32 s2 0), IntKind.u8.wrap (bshr .u32 s3 24), IntKind.u8.wrap (bshr .u32 s3 16), IntKind.u8.wrap (bshr .u32 s3 8), IntKind.u8.wrap (bshr .u32 s3 0), bor .u8 (bshl .u8 s4 4) (bshr .u8 s5 2), bor .u8 (bshl .u8 s5 6) s6, IntKind.u8.wrap (bshr .u32 (IntKind.u32.wrap s7) 8), IntKind.u8.wrap (bshr .u32 (IntKind.u32.wrap s7) 0), IntKind.u8.wrap (bshr .u32 (IntKind.u32.wrap s8) 8), IntKind.u8.wrap (bshr .u32 (IntKind.u32.wrap s8) 0), IntKind.u8.wrap (bshr .u32 (IntKind.u32.wrap s9) 8), IntKind.u8.wrap (bshr .u32 (IntKind.u32.wrap s9) 0)]
noncomputable def B32 : Code := bodyOf Try.f32
set_option maxHeartbeats 4000000 in
theorem Enc11_ok (s0 s1 s2 s3 s4 s5 s6 s7 s8 s9 : Int) (G : Mem) : CallsG Try.prog 32 [.agg #[.int .u16 s0, .int .u16 s1, .int .u32 s2, .int .u32 s3, .int .u8 s4, .int .u8 s5, .int .u8 s6, .int .u16 s7, .int .u16 s8, .int .u16 s9]] G (fun _ v rows => ((5 ≤ s4 ∧ s4 ≤ 15 ∧ s5 ≤ 7 ∧ s6 ≤ 63) → ∃ A c, v = .tuple #[.slice A 20 c, .int .i64 0] ∧ 20 ≤ c ∧ rows = [⟨5, 1, .slice A 20 c, 20, (enc11 s0 s1 s2 s3 s4 s5 s6 s7 s8 s9).map (Value.int .u8)⟩]) ∧ (¬ (5 ≤ s4 ∧ s4 ≤ 15 ∧ s5 ≤ 7 ∧ s6 ≤ 63) → v = .tuple #[.slice none 0 0, .int .i64 2] ∧ rows = [])) := by
 refine CallsG.enter Try.func32 rfl rfl ?_
 intro w
 refine Rn 14 (Qo B32 12 4) [Qs B32 13, Qs B32 7] ⟨75, [(1, .own 1 0), (2, VL none 0 0), (3, I6 0), (9, VB (decide (s4 < 5)))], [(1, ⟨31, [I1 s0, I1 s1, I3 s2, I3 s3, I8 s4, I8 s5, I8 s6, I1 s7, I1 s8, I1 s9]⟩)]⟩ ?_
 refine Sd 9 rfl ?_ ?_ <;> intro h1
 ·
  refine Rn 25 (.ex .ret) [] ⟨75, [(2, VL none 0 0), (3, I6 2)], []⟩ ?_
  refine Dg (.inl rfl) [.slice none 0 0, N6 2] [] rfl (Ge.refl _ _) ?_
  first | exact ⟨fun h => absurd h (by omega), fun _ => ⟨rfl, rfl⟩⟩
 ·
  refine Ra 5 (Qo B32 12 9) 0 [] [(14, VB (decide (s4 > 15)))] ?_
  refine Sd 14 rfl ?_ ?_ <;> intro h2
  ·
   refine Rn 20 (.ex .ret) [] ⟨75, [(2, VL none 0 0), (3, I6 2)], []⟩ ?_
   refine Dg (.inl rfl) [.slice none 0 0, N6 2] [] rfl (Ge.refl _ _) ?_
   first | exact ⟨fun h => absurd h (by omega), fun _ => ⟨rfl, rfl⟩⟩
  ·
   refine Ra 5 (Qo B32 12 14) 0 [] [(19, VB (decide (s5 > 7)))] ?_
   refine Sd 19 rfl ?_ ?_ <;> intro h3
   ·
    refine Rn 15 (.ex .ret) [] ⟨75, [(2, VL none 0 0), (3, I6 2)], []⟩ ?_
    refine Dg (.inl rfl) [.slice none 0 0, N6 2] [] rfl (Ge.refl _ _) ?_
    first | exact ⟨fun h => absurd h (by omega), fun _ => ⟨rfl, rfl⟩⟩
   ·
    refine Ra 6 (Qc B32 13) 1 [] [(23, VB (decide (s6 > 63)))] ?_
    refine Sd 23 rfl ?_ ?_ <;> intro h4
    ·
     refine Rn 9 (.ex .ret) [] ⟨75, [(2, VL none 0 0), (3, I6 2)], []⟩ ?_
     refine Dg (.inl rfl) [.slice none 0 0, N6 2] [] rfl (Ge.refl _ _) ?_
     first | exact ⟨fun h => absurd h (by omega), fun _ => ⟨rfl, rfl⟩⟩
    ·
     refine Rb 20 (Qo B32 62 4) 1 [Qs B32 63] [(4, .own 4 0), (5, .fn 97 [(4, 0)]), (25, .fn 97 [(4, 0)]), (28, I3 (IntKind.u32.wrap s0))] [] [(4, ⟨22, [VL none 0 0]⟩)] [] ?_
     refine X.inline (f := 97) (l := [I3 (IntKind.u32.wrap s0), I6 2, .own 4 0]) (fn := Try.f97) (c := B97) (by kernel_rfl) (by kernel_rfl) Try.func97 (by kernel_rfl) ?_
     intro Q5 M5 hM5 hQ5 fin5
     refine Ra 8 (Qc B97 6) 0 [.blk 0] [(5, I6 1)] ?_
     refine X.rounds 3 ?_
     refine RX.succ fun J6 hJ6 => ?_
     refine Rn 12 (Qc B97 100) [.blk 1, Qs B97 51, .loop J6, .blk 0] ⟨20, [(0, I3 (IntKind.u32.wrap s0)), (2, .own 1004 0), (5, I6 1), (8, I6 1), (9, VB true)], [(1001, ⟨31, [I1 s0, I1 s1, I3 s2, I3 s3, I8 s4, I8 s5, I8 s6, I1 s7, I1 s8, I1 s9]⟩), (1004, ⟨22, [VL none 0 0]⟩)]⟩ ?_
     refine Oh 3 B97 100 9 [⟨some 2, 1004, 22, [VL none 0 0]⟩] [] [8] ⟨P1, trivial⟩ Mt (fun ρ0 => ?_)
     refine Td [0, 1, 2, 3, 4, 5] 9 63 3 hQ5 [(12, VL none 0 0), (13, I3 (IntKind.u32.wrap s0)), (14, I6 1), (15, I6 8), (16, I3 (bshr .u32 (IntKind.u32.wrap s0) 8)), (17, I8 (IntKind.u8.wrap (bshr .u32 (IntKind.u32.wrap s0) 8)))] ⟨P1, trivial⟩ ?_
     refine Do 6 9 127 B97 100 ?_
     refine Lt 18 5 1 1 [N8 (IntKind.u8.wrap (bshr .u32 (IntKind.u32.wrap s0) 8))] ?_
     intro A8
     refine X.back ⟨⟨P1, trivial⟩, Le.refl _, by kernel_rfl, ?_⟩
     refine Dn ⟨20, [(0, I3 (IntKind.u32.wrap s0)), (2, .own 1004 0), (5, I6 1), (8, I6 1), (9, VB true), (12, VL none 0 0), (13, I3 (IntKind.u32.wrap s0)), (14, I6 1), (15, I6 8), (16, I3 (bshr .u32 (IntKind.u32.wrap s0) 8)), (17, I8 (IntKind.u8.wrap (bshr .u32 (IntKind.u32.wrap s0) 8))), (18, VL A8 1 1)], [(1001, ⟨31, [I1 s0, I1 s1, I3 s2, I3 s3, I8 s4, I8 s5, I8 s6, I1 s7, I1 s8, I1 s9]⟩), (1004, ⟨22, [VL none 0 0]⟩)]⟩ ⟨P1, trivial⟩ ?_
     refine Do 7 9 255 B97 100 ?_
     refine Ap 19 (RR 5 1 none 0 0 []) 22 1 (N8 0) (.tmp 12) (.tmp 18) 0 0 1 1 none A8 [N8 (IntKind.u8.wrap (bshr .u32 (IntKind.u32.wrap s0) 8))] (.inr ⟨rfl, rfl, rfl, rfl⟩) (by kernel_rfl) (Ar 18 rfl) (Br 18 rfl) (ones (by kernel_rfl)) (by decide) ?_
     intro A9 c9 hc9
     refine Tr [19, 18] ?_
     refine X.back ⟨⟨P1, trivial⟩, Le.refl _, by kernel_rfl, ?_⟩
     refine XD.toE ?_
     refine En ⟨20, [(0, I3 (IntKind.u32.wrap s0)), (2, .own 1004 0), (5, I6 1), (8, I6 1), (9, VB true), (12, VL none 0 0), (13, I3 (IntKind.u32.wrap s0)), (14, I6 1), (15, I6 8), (16, I3 (bshr .u32 (IntKind.u32.wrap s0) 8)), (17, I8 (IntKind.u8.wrap (bshr .u32 (IntKind.u32.wrap s0) 8))), (18, VL A8 1 1), (19, VL A9 1 c9)], [(1001, ⟨31, [I1 s0, I1 s1, I3 s2, I3 s3, I8 s4, I8 s5, I8 s6, I1 s7, I1 s8, I1 s9]⟩), (1004, ⟨22, [VL none 0 0]⟩)]⟩ ?_
     refine Eo 8 9 511 B97 100 ?_
     refine X.simple (by kernel_rfl) ?_
     refine X.back ?_
     refine XE.done (by kernel_rfl) ?_
     refine Rn 7 (.ex .normal) [.loop J6, .blk 0] ⟨20, [(0, I3 (IntKind.u32.wrap s0)), (2, .own 1004 0), (5, I6 0), (8, I6 1), (9, VB true), (10, I6 1), (11, I6 0), (12, VL none 0 0), (13, I3 (IntKind.u32.wrap s0)), (14, I6 1), (15, I6 8), (16, I3 (bshr .u32 (IntKind.u32.wrap s0) 8)), (17, I8 (IntKind.u8.wrap (bshr .u32 (IntKind.u32.wrap s0) 8))), (18, VL A8 1 1), (19, VL A9 1 c9)], [(1001, ⟨31, [I1 s0, I1 s1, I3 s2, I3 s3, I8 s4, I8 s5, I8 s6, I1 s7, I1 s8, I1 s9]⟩), (1004, ⟨22, [VL A9 1 c9]⟩)]⟩ ?_
     refine X.again (hJ6 _ _ _ ?_)
     refine RX.succ fun J10 hJ10 => ?_
     refine Rn 12 (Qc B97 100) [.blk 1, Qs B97 51, .loop J10, .blk 0] ⟨20, [(0, I3 (IntKind.u32.wrap s0)), (2, .own 1004 0), (5, I6 0), (8, I6 0), (9, VB true), (10, I6 1), (11, I6 0), (12, VL none 0 0), (13, I3 (IntKind.u32.wrap s0)), (14, I6 1), (15, I6 8), (16, I3 (bshr .u32 (IntKind.u32.wrap s0) 8)), (17, I8 (IntKind.u8.wrap (bshr .u32 (IntKind.u32.wrap s0) 8))), (18, VL A8 1 1), (19, VL A9 1 c9)], [(1001, ⟨31, [I1 s0, I1 s1, I3 s2, I3 s3, I8 s4, I8 s5, I8 s6, I1 s7, I1 s8, I1 s9]⟩), (1004, ⟨22, [VL A9 1 c9]⟩)]⟩ ?_
     refine Oh 3 B97 100 9 [⟨some 2, 1004, 22, [VL A9 1 c9]⟩] [] [8] ⟨P1, trivial⟩ Mt (fun ρ0 => ?_)
     refine Td [0, 1, 2, 3, 4, 5] 9 63 3 hQ5 [(12, VL A9 1 c9), (14, I6 0), (15, I6 0), (16, I3 (bshr .u32 (IntKind.u32.wrap s0) 0)), (17, I8 (IntKind.u8.wrap (bshr .u32 (IntKind.u32.wrap s0) 0)))] ⟨P1, trivial⟩ ?_
     refine Do 6 9 127 B97 100 ?_
     refine Lt 18 5 1 1 [N8 (IntKind.u8.wrap (bshr .u32 (IntKind.u32.wrap s0) 0))] ?_
     intro A12
     refine X.back ⟨⟨P1, trivial⟩, Le.refl _, by kernel_rfl, ?_⟩
     refine Dn ⟨20, [(0, I3 (IntKind.u32.wrap s0)), (2, .own 1004 0), (5, I6 0), (8, I6 0), (9, VB true), (10, I6 1), (11, I6 0), (12, VL A9 1 c9), (13, I3 (IntKind.u32.wrap s0)), (14, I6 0), (15, I6 0), (16, I3 (bshr .u32 (IntKind.u32.wrap s0) 0)), (17, I8 (IntKind.u8.wrap (bshr .u32 (IntKind.u32.wrap s0) 0))), (18, VL A12 1 1), (19, VL A9 1 c9)], [(1001, ⟨31, [I1 s0, I1 s1, I3 s2, I3 s3, I8 s4, I8 s5, I8 s6, I1 s7, I1 s8, I1 s9]⟩), (1004, ⟨22, [VL A9 1 c9]⟩)]⟩ ⟨P1, trivial⟩ ?_
     refine Do 7 9 255 B97 100 ?_
     refine Ap 19 _ 22 1 (N8 0) (.tmp 12) (.tmp 18) 1 c9 1 1 A9 A12 [N8 (IntKind.u8.wrap (bshr .u32 (IntKind.u32.wrap s0) 0))] (.inl rfl) (by kernel_rfl) (Ar 18 rfl) (Br 18 rfl) (ones (by kernel_rfl)) (by decide) ?_
     intro A13 c13 hc13
     refine Tr [19, 18] ?_
     refine X.back ⟨⟨P1, trivial⟩, Le.refl _, by kernel_rfl, ?_⟩
     refine XD.toE ?_
     refine En ⟨20, [(0, I3 (IntKind.u32.wrap s0)), (2, .own 1004 0), (5, I6 0), (8, I6 0), (9, VB true), (10, I6 1), (11, I6 0), (12, VL A9 1 c9), (13, I3 (IntKind.u32.wrap s0)), (14, I6 0), (15, I6 0), (16, I3 (bshr .u32 (IntKind.u32.wrap s0) 0)), (17, I8 (IntKind.u8.wrap (bshr .u32 (IntKind.u32.wrap s0) 0))), (18, VL A12 1 1), (19, VL A13 2 c13)], [(1001, ⟨31, [I1 s0, I1 s1, I3 s2, I3 s3, I8 s4, I8 s5, I8 s6, I1 s7, I1 s8, I1 s9]⟩), (1004, ⟨22, [VL A9 1 c9]⟩)]⟩ ?_
     refine Eo 8 9 511 B97 100 ?_
     refine X.simple (by kernel_rfl) ?_
     refine X.back ?_
     refine XE.done (by kernel_rfl) ?_
     refine Rn 7 (.ex .normal) [.loop J10, .blk 0] ⟨20, [(0, I3 (IntKind.u32.wrap s0)), (2, .own 1004 0), (5, I6 (-1)), (8, I6 0), (9, VB true), (10, I6 0), (11, I6 (-1)), (12, VL A9 1 c9), (13, I3 (IntKind.u32.wrap s0)), (14, I6 0), (15, I6 0), (16, I3 (bshr .u32 (IntKind.u32.wrap s0) 0)), (17, I8 (IntKind.u8.wrap (bshr .u32 (IntKind.u32.wrap s0) 0))), (18, VL A12 1 1), (19, VL A13 2 c13)], [(1001, ⟨31, [I1 s0, I1 s1, I3 s2, I3 s3, I8 s4, I8 s5, I8 s6, I1 s7, I1 s8, I1 s9]⟩), (1004, ⟨22, [VL A13 2 c13]⟩)]⟩ ?_
     refine X.again (hJ10 _ _ _ ?_)
     refine RX.succ fun J14 hJ14 => ?_
     refine Rn 12 (.ex .normal) [] ⟨20, [], [(1001, ⟨31, [I1 s0, I1 s1, I3 s2, I3 s3, I8 s4, I8 s5, I8 s6, I1 s7, I1 s8, I1 s9]⟩), (1004, ⟨22, [VL A13 2 c13]⟩)]⟩ ?_
     refine fin5 _ _ _ _ [] [(1, ⟨31, [I1 s0, I1 s1, I3 s2, I3 s3, I8 s4, I8 s5, I8 s6, I1 s7, I1 s8, I1 s9]⟩), (4, ⟨22, [VL A13 2 c13]⟩)] (.inr rfl) (by kernel_rfl) (by kernel_rfl) ?_
     refine Ra 8 (Qo B32 126 4) 1 [Qs B32 127] [(30, .fn 97 [(4, 0)]), (33, I3 (IntKind.u32.wrap s1))] ?_
     refine X.inline (f := 97) (l := [I3 (IntKind.u32.wrap s1), I6 2, .own 4 0]) (fn := Try.f97) (c := B97) (by kernel_rfl) (by kernel_rfl) Try.func97 (by kernel_rfl) ?_
     intro Q15 M15 hM15 hQ15 fin15
     refine Ra 8 (Qc B97 6) 0 [.blk 0] [(5, I6 1)] ?_
     refine X.rounds 3 ?_
     refine RX.succ fun J16 hJ16 => ?_
     refine Rn 12 (Qc B97 100) [.blk 1, Qs B97 51, .loop J16, .blk 0] ⟨20, [(0, I3 (IntKind.u32.wrap s1)), (2, .own 1004 0), (5, I6 1), (8, I6 1), (9, VB true)], [(1001, ⟨31, [I1 s0, I1 s1, I3 s2, I3 s3, I8 s4, I8 s5, I8 s6, I1 s7, I1 s8, I1 s9]⟩), (1004, ⟨22, [VL A13 2 c13]⟩)]⟩ ?_
     refine Oh 3 B97 100 9 [⟨some 2, 1004, 22, [VL A13 2 c13]⟩] [] [8] ⟨P1, trivial⟩ Mt (fun ρ0 => ?_)
     refine Td [0, 1, 2, 3, 4, 5] 9 63 3 hQ15 [(12, VL A13 2 c13), (13, I3 (IntKind.u32.wrap s1)), (14, I6 1), (15, I6 8), (16, I3 (bshr .u32 (IntKind.u32.wrap s1) 8)), (17, I8 (IntKind.u8.wrap (bshr .u32 (IntKind.u32.wrap s1) 8)))] ⟨P1, trivial⟩ ?_
     refine Do 6 9 127 B97 100 ?_
     refine Lt 18 5 1 1 [N8 (IntKind.u8.wrap (bshr .u32 (IntKind.u32.wrap s1) 8))] ?_
     intro A18
     refine X.back ⟨⟨P1, trivial⟩, Le.refl _, by kernel_rfl, ?_⟩
     refine Dn ⟨20, [(0, I3 (IntKind.u32.wrap s1)), (2, .own 1004 0), (5, I6 1), (8, I6 1), (9, VB true), (12, VL A13 2 c13), (13, I3 (IntKind.u32.wrap s1)), (14, I6 1), (15, I6 8), (16, I3 (bshr .u32 (IntKind.u32.wrap s1) 8)), (17, I8 (IntKind.u8.wrap (bshr .u32 (IntKind.u32.wrap s1) 8))), (18, VL A18 1 1)], [(1001, ⟨31, [I1 s0, I1 s1, I3 s2, I3 s3, I8 s4, I8 s5, I8 s6, I1 s7, I1 s8, I1 s9]⟩), (1004, ⟨22, [VL A13 2 c13]⟩)]⟩ ⟨P1, trivial⟩ ?_
     refine Do 7 9 255 B97 100 ?_
     refine Ap 19 _ 22 1 (N8 0) (.tmp 12) (.tmp 18) 2 c13 1 1 A13 A18 [N8 (IntKind.u8.wrap (bshr .u32 (IntKind.u32.wrap s1) 8))] (.inl rfl) (by kernel_rfl) (Ar 18 rfl) (Br 18 rfl) (ones (by kernel_rfl)) (by decide) ?_
     intro A19 c19 hc19
     refine Tr [19, 18] ?_
     refine X.back ⟨⟨P1, trivial⟩, Le.refl _, by kernel_rfl, ?_⟩
     refine XD.toE ?_
     refine En ⟨20, [(0, I3 (IntKind.u32.wrap s1)), (2, .own 1004 0), (5, I6 1), (8, I6 1), (9, VB true), (12, VL A13 2 c13), (13, I3 (IntKind.u32.wrap s1)), (14, I6 1), (15, I6 8), (16, I3 (bshr .u32 (IntKind.u32.wrap s1) 8)), (17, I8 (IntKind.u8.wrap (bshr .u32 (IntKind.u32.wrap s1) 8))), (18, VL A18 1 1), (19, VL A19 3 c19)], [(1001, ⟨31, [I1 s0, I1 s1, I3 s2, I3 s3, I8 s4, I8 s5, I8 s6, I1 s7, I1 s8, I1 s9]⟩), (1004, ⟨22, [VL A13 2 c13]⟩)]⟩ ?_
     refine Eo 8 9 511 B97 100 ?_
     refine X.simple (by kernel_rfl) ?_
     refine X.back ?_
     refine XE.done (by kernel_rfl) ?_
     refine Rn 7 (.ex .normal) [.loop J16, .blk 0] ⟨20, [(0, I3 (IntKind.u32.wrap s1)), (2, .own 1004 0), (5, I6 0), (8, I6 1), (9, VB true), (10, I6 1), (11, I6 0), (12, VL A13 2 c13), (13, I3 (IntKind.u32.wrap s1)), (14, I6 1), (15, I6 8), (16, I3 (bshr .u32 (IntKind.u32.wrap s1) 8)), (17, I8 (IntKind.u8.wrap (bshr .u32 (IntKind.u32.wrap s1) 8))), (18, VL A18 1 1), (19, VL A19 3 c19)], [(1001, ⟨31, [I1 s0, I1 s1, I3 s2, I3 s3, I8 s4, I8 s5, I8 s6, I1 s7, I1 s8, I1 s9]⟩), (1004, ⟨22, [VL A19 3 c19]⟩)]⟩ ?_
     refine X.again (hJ16 _ _ _ ?_)
     refine RX.succ fun J20 hJ20 => ?_
     refine Rn 12 (Qc B97 100) [.blk 1, Qs B97 51, .loop J20, .blk 0] ⟨20, [(0, I3 (IntKind.u32.wrap s1)), (2, .own 1004 0), (5, I6 0), (8, I6 0), (9, VB true), (10, I6 1), (11, I6 0), (12, VL A13 2 c13), (13, I3 (IntKind.u32.wrap s1)), (14, I6 1), (15, I6 8), (16, I3 (bshr .u32 (IntKind.u32.wrap s1) 8)), (17, I8 (IntKind.u8.wrap (bshr .u32 (IntKind.u32.wrap s1) 8))), (18, VL A18 1 1), (19, VL A19 3 c19)], [(1001, ⟨31, [I1 s0, I1 s1, I3 s2, I3 s3, I8 s4, I8 s5, I8 s6, I1 s7, I1 s8, I1 s9]⟩), (1004, ⟨22, [VL A19 3 c19]⟩)]⟩ ?_
     refine Oh 3 B97 100 9 [⟨some 2, 1004, 22, [VL A19 3 c19]⟩] [] [8] ⟨P1, trivial⟩ Mt (fun ρ0 => ?_)
     refine Td [0, 1, 2, 3, 4, 5] 9 63 3 hQ15 [(12, VL A19 3 c19), (14, I6 0), (15, I6 0), (16, I3 (bshr .u32 (IntKind.u32.wrap s1) 0)), (17, I8 (IntKind.u8.wrap (bshr .u32 (IntKind.u32.wrap s1) 0)))] ⟨P1, trivial⟩ ?_
     refine Do 6 9 127 B97 100 ?_
     refine Lt 18 5 1 1 [N8 (IntKind.u8.wrap (bshr .u32 (IntKind.u32.wrap s1) 0))] ?_
     intro A22
     refine X.back ⟨⟨P1, trivial⟩, Le.refl _, by kernel_rfl, ?_⟩
     refine Dn ⟨20, [(0, I3 (IntKind.u32.wrap s1)), (2, .own 1004 0), (5, I6 0), (8, I6 0), (9, VB true), (10, I6 1), (11, I6 0), (12, VL A19 3 c19), (13, I3 (IntKind.u32.wrap s1)), (14, I6 0), (15, I6 0), (16, I3 (bshr .u32 (IntKind.u32.wrap s1) 0)), (17, I8 (IntKind.u8.wrap (bshr .u32 (IntKind.u32.wrap s1) 0))), (18, VL A22 1 1), (19, VL A19 3 c19)], [(1001, ⟨31, [I1 s0, I1 s1, I3 s2, I3 s3, I8 s4, I8 s5, I8 s6, I1 s7, I1 s8, I1 s9]⟩), (1004, ⟨22, [VL A19 3 c19]⟩)]⟩ ⟨P1, trivial⟩ ?_
     refine Do 7 9 255 B97 100 ?_
     refine Ap 19 _ 22 1 (N8 0) (.tmp 12) (.tmp 18) 3 c19 1 1 A19 A22 [N8 (IntKind.u8.wrap (bshr .u32 (IntKind.u32.wrap s1) 0))] (.inl rfl) (by kernel_rfl) (Ar 18 rfl) (Br 18 rfl) (ones (by kernel_rfl)) (by decide) ?_
     intro A23 c23 hc23
     refine Tr [19, 18] ?_
     refine X.back ⟨⟨P1, trivial⟩, Le.refl _, by kernel_rfl, ?_⟩
     refine XD.toE ?_
     refine En ⟨20, [(0, I3 (IntKind.u32.wrap s1)), (2, .own 1004 0), (5, I6 0), (8, I6 0), (9, VB true), (10, I6 1), (11, I6 0), (12, VL A19 3 c19), (13, I3 (IntKind.u32.wrap s1)), (14, I6 0), (15, I6 0), (16, I3 (bshr .u32 (IntKind.u32.wrap s1) 0)), (17, I8 (IntKind.u8.wrap (bshr .u32 (IntKind.u32.wrap s1) 0))), (18, VL A22 1 1), (19, VL A23 4 c23)], [(1001, ⟨31, [I1 s0, I1 s1, I3 s2, I3 s3, I8 s4, I8 s5, I8 s6, I1 s7, I1 s8, I1 s9]⟩), (1004, ⟨22, [VL A19 3 c19]⟩)]⟩ ?_
     refine Eo 8 9 511 B97 100 ?_
     refine X.simple (by kernel_rfl) ?_
     refine X.back ?_
     refine XE.done (by kernel_rfl) ?_
     refine Rn 7 (.ex .normal) [.loop J20, .blk 0] ⟨20, [(0, I3 (IntKind.u32.wrap s1)), (2, .own 1004 0), (5, I6 (-1)), (8, I6 0), (9, VB true), (10, I6 0), (11, I6 (-1)), (12, VL A19 3 c19), (13, I3 (IntKind.u32.wrap s1)), (14, I6 0), (15, I6 0), (16, I3 (bshr .u32 (IntKind.u32.wrap s1) 0)), (17, I8 (IntKind.u8.wrap (bshr .u32 (IntKind.u32.wrap s1) 0))), (18, VL A22 1 1), (19, VL A23 4 c23)], [(1001, ⟨31, [I1 s0, I1 s1, I3 s2, I3 s3, I8 s4, I8 s5, I8 s6, I1 s7, I1 s8, I1 s9]⟩), (1004, ⟨22, [VL A23 4 c23]⟩)]⟩ ?_
     refine X.again (hJ20 _ _ _ ?_)
     refine RX.succ fun J24 hJ24 => ?_
     refine Rn 12 (.ex .normal) [] ⟨20, [], [(1001, ⟨31, [I1 s0, I1 s1, I3 s2, I3 s3, I8 s4, I8 s5, I8 s6, I1 s7, I1 s8, I1 s9]⟩), (1004, ⟨22, [VL A23 4 c23]⟩)]⟩ ?_
     refine fin15 _ _ _ _ [] [(1, ⟨31, [I1 s0, I1 s1, I3 s2, I3 s3, I8 s4, I8 s5, I8 s6, I1 s7, I1 s8, I1 s9]⟩), (4, ⟨22, [VL A23 4 c23]⟩)] (.inr rfl) (by kernel_rfl) (by kernel_rfl) ?_
     refine Ra 7 (Qo B32 254 3) 1 [Qs B32 255] [(35, .fn 97 [(4, 0)]), (37, I3 s2)] ?_
     refine X.inline (f := 97) (l := [I3 s2, I6 4, .own 4 0]) (fn := Try.f97) (c := B97) (by kernel_rfl) (by kernel_rfl) Try.func97 (by kernel_rfl) ?_
     intro Q25 M25 hM25 hQ25 fin25
     refine Ra 8 (Qc B97 6) 0 [.blk 0] [(5, I6 3)] ?_
     refine X.rounds 5 ?_
     refine RX.succ fun J26 hJ26 => ?_
     refine Rn 12 (Qc B97 100) [.blk 1, Qs B97 51, .loop J26, .blk 0] ⟨20, [(0, I3 s2), (2, .own 1004 0), (5, I6 3), (8, I6 3), (9, VB true)], [(1001, ⟨31, [I1 s0, I1 s1, I3 s2, I3 s3, I8 s4, I8 s5, I8 s6, I1 s7, I1 s8, I1 s9]⟩), (1004, ⟨22, [VL A23 4 c23]⟩)]⟩ ?_
     refine Oh 3 B97 100 9 [⟨some 2, 1004, 22, [VL A23 4 c23]⟩] [] [8] ⟨P1, trivial⟩ Mt (fun ρ0 => ?_)
     refine Td [0, 1, 2, 3, 4, 5] 9 63 3 hQ25 [(12, VL A23 4 c23), (13, I3 s2), (14, I6 3), (15, I6 24), (16, I3 (bshr .u32 s2 24)), (17, I8 (IntKind.u8.wrap (bshr .u32 s2 24)))] ⟨P1, trivial⟩ ?_
     refine Do 6 9 127 B97 100 ?_
     refine Lt 18 5 1 1 [N8 (IntKind.u8.wrap (bshr .u32 s2 24))] ?_
     intro A28
     refine X.back ⟨⟨P1, trivial⟩, Le.refl _, by kernel_rfl, ?_⟩
     refine Dn ⟨20, [(0, I3 s2), (2, .own 1004 0), (5, I6 3), (8, I6 3), (9, VB true), (12, VL A23 4 c23), (13, I3 s2), (14, I6 3), (15, I6 24), (16, I3 (bshr .u32 s2 24)), (17, I8 (IntKind.u8.wrap (bshr .u32 s2 24))), (18, VL A28 1 1)], [(1001, ⟨31, [I1 s0, I1 s1, I3 s2, I3 s3, I8 s4, I8 s5, I8 s6, I1 s7, I1 s8, I1 s9]⟩), (1004, ⟨22, [VL A23 4 c23]⟩)]⟩ ⟨P1, trivial⟩ ?_
     refine Do 7 9 255 B97 100 ?_
     refine Ap 19 _ 22 1 (N8 0) (.tmp 12) (.tmp 18) 4 c23 1 1 A23 A28 [N8 (IntKind.u8.wrap (bshr .u32 s2 24))] (.inl rfl) (by kernel_rfl) (Ar 18 rfl) (Br 18 rfl) (ones (by kernel_rfl)) (by decide) ?_
     intro A29 c29 hc29
     refine Tr [19, 18] ?_
     refine X.back ⟨⟨P1, trivial⟩, Le.refl _, by kernel_rfl, ?_⟩
     refine XD.toE ?_
     refine En ⟨20, [(0, I3 s2), (2, .own 1004 0), (5, I6 3), (8, I6 3), (9, VB true), (12, VL A23 4 c23), (13, I3 s2), (14, I6 3), (15, I6 24), (16, I3 (bshr .u32 s2 24)), (17, I8 (IntKind.u8.wrap (bshr .u32 s2 24))), (18, VL A28 1 1), (19, VL A29 5 c29)], [(1001, ⟨31, [I1 s0, I1 s1, I3 s2, I3 s3, I8 s4, I8 s5, I8 s6, I1 s7, I1 s8, I1 s9]⟩), (1004, ⟨22, [VL A23 4 c23]⟩)]⟩ ?_
     refine Eo 8 9 511 B97 100 ?_
     refine X.simple (by kernel_rfl) ?_
     refine X.back ?_
     refine XE.done (by kernel_rfl) ?_
     refine Rn 7 (.ex .normal) [.loop J26, .blk 0] ⟨20, [(0, I3 s2), (2, .own 1004 0), (5, I6 2), (8, I6 3), (9, VB true), (10, I6 3), (11, I6 2), (12, VL A23 4 c23), (13, I3 s2), (14, I6 3), (15, I6 24), (16, I3 (bshr .u32 s2 24)), (17, I8 (IntKind.u8.wrap (bshr .u32 s2 24))), (18, VL A28 1 1), (19, VL A29 5 c29)], [(1001, ⟨31, [I1 s0, I1 s1, I3 s2, I3 s3, I8 s4, I8 s5, I8 s6, I1 s7, I1 s8, I1 s9]⟩), (1004, ⟨22, [VL A29 5 c29]⟩)]⟩ ?_
     refine X.again (hJ26 _ _ _ ?_)
     refine RX.succ fun J30 hJ30 => ?_
     refine Rn 12 (Qc B97 100) [.blk 1, Qs B97 51, .loop J30, .blk 0] ⟨20, [(0, I3 s2), (2, .own 1004 0), (5, I6 2), (8, I6 2), (9, VB true), (10, I6 3), (11, I6 2), (12, VL A23 4 c23), (13, I3 s2), (14, I6 3), (15, I6 24), (16, I3 (bshr .u32 s2 24)), (17, I8 (IntKind.u8.wrap (bshr .u32 s2 24))), (18, VL A28 1 1), (19, VL A29 5 c29)], [(1001, ⟨31, [I1 s0, I1 s1, I3 s2, I3 s3, I8 s4, I8 s5, I8 s6, I1 s7, I1 s8, I1 s9]⟩), (1004, ⟨22, [VL A29 5 c29]⟩)]⟩ ?_
     refine Oh 3 B97 100 9 [⟨some 2, 1004, 22, [VL A29 5 c29]⟩] [] [8] ⟨P1, trivial⟩ Mt (fun ρ0 => ?_)
     refine Td [0, 1, 2, 3, 4, 5] 9 63 3 hQ25 [(12, VL A29 5 c29), (14, I6 2), (15, I6 16), (16, I3 (bshr .u32 s2 16)), (17, I8 (IntKind.u8.wrap (bshr .u32 s2 16)))] ⟨P1, trivial⟩ ?_
     refine Do 6 9 127 B97 100 ?_
     refine Lt 18 5 1 1 [N8 (IntKind.u8.wrap (bshr .u32 s2 16))] ?_
     intro A32
     refine X.back ⟨⟨P1, trivial⟩, Le.refl _, by kernel_rfl, ?_⟩
     refine Dn ⟨20, [(0, I3 s2), (2, .own 1004 0), (5, I6 2), (8, I6 2), (9, VB true), (10, I6 3), (11, I6 2), (12, VL A29 5 c29), (13, I3 s2), (14, I6 2), (15, I6 16), (16, I3 (bshr .u32 s2 16)), (17, I8 (IntKind.u8.wrap (bshr .u32 s2 16))), (18, VL A32 1 1), (19, VL A29 5 c29)], [(1001, ⟨31, [I1 s0, I1 s1, I3 s2, I3 s3, I8 s4, I8 s5, I8 s6, I1 s7, I1 s8, I1 s9]⟩), (1004, ⟨22, [VL A29 5 c29]⟩)]⟩ ⟨P1, trivial⟩ ?_
     refine Do 7 9 255 B97 100 ?_
     refine Ap 19 _ 22 1 (N8 0) (.tmp 12) (.tmp 18) 5 c29 1 1 A29 A32 [N8 (IntKind.u8.wrap (bshr .u32 s2 16))] (.inl rfl) (by kernel_rfl) (Ar 18 rfl) (Br 18 rfl) (ones (by kernel_rfl)) (by decide) ?_
     intro A33 c33 hc33
     refine Tr [19, 18] ?_
     refine X.back ⟨⟨P1, trivial⟩, Le.refl _, by kernel_rfl, ?_⟩
     refine XD.toE ?_
     refine En ⟨20, [(0, I3 s2), (2, .own 1004 0), (5, I6 2), (8, I6 2), (9, VB true), (10, I6 3), (11, I6 2), (12, VL A29 5 c29), (13, I3 s2), (14, I6 2), (15, I6 16), (16, I3 (bshr .u32 s2 16)), (17, I8 (IntKind.u8.wrap (bshr .u32 s2 16))), (18, VL A32 1 1), (19, VL A33 6 c33)], [(1001, ⟨31, [I1 s0, I1 s1, I3 s2, I3 s3, I8 s4, I8 s5, I8 s6, I1 s7, I1 s8, I1 s9]⟩), (1004, ⟨22, [VL A29 5 c29]⟩)]⟩ ?_
     refine Eo 8 9 511 B97 100 ?_
     refine X.simple (by kernel_rfl) ?_
     refine X.back ?_
     refine XE.done (by kernel_rfl) ?_
     refine Rn 7 (.ex .normal) [.loop J30, .blk 0] ⟨20, [(0, I3 s2), (2, .own 1004 0), (5, I6 1), (8, I6 2), (9, VB true), (10, I6 2), (11, I6 1), (12, VL A29 5 c29), (13, I3 s2), (14, I6 2), (15, I6 16), (16, I3 (bshr .u32 s2 16)), (17, I8 (IntKind.u8.wrap (bshr .u32 s2 16))), (18, VL A32 1 1), (19, VL A33 6 c33)], [(1001, ⟨31, [I1 s0, I1 s1, I3 s2, I3 s3, I8 s4, I8 s5, I8 s6, I1 s7, I1 s8, I1 s9]⟩), (1004, ⟨22, [VL A33 6 c33]⟩)]⟩ ?_
     refine X.again (hJ30 _ _ _ ?_)
     refine RX.succ fun J34 hJ34 => ?_
     refine Rn 12 (Qc B97 100) [.blk 1, Qs B97 51, .loop J34, .blk 0] ⟨20, [(0, I3 s2), (2, .own 1004 0), (5, I6 1), (8, I6 1), (9, VB true), (10, I6 2), (11, I6 1), (12, VL A29 5 c29), (13, I3 s2), (14, I6 2), (15, I6 16), (16, I3 (bshr .u32 s2 16)), (17, I8 (IntKind.u8.wrap (bshr .u32 s2 16))), (18, VL A32 1 1), (19, VL A33 6 c33)], [(1001, ⟨31, [I1 s0, I1 s1, I3 s2, I3 s3, I8 s4, I8 s5, I8 s6, I1 s7, I1 s8, I1 s9]⟩), (1004, ⟨22, [VL A33 6 c33]⟩)]⟩ ?_
     refine Oh 3 B97 100 9 [⟨some 2, 1004, 22, [VL A33 6 c33]⟩] [] [8] ⟨P1, trivial⟩ Mt (fun ρ0 => ?_)
     refine Td [0, 1, 2, 3, 4, 5] 9 63 3 hQ25 [(12, VL A33 6 c33), (14, I6 1), (15, I6 8), (16, I3 (bshr .u32 s2 8)), (17, I8 (IntKind.u8.wrap (bshr .u32 s2 8)))] ⟨P1, trivial⟩ ?_
     refine Do 6 9 127 B97 100 ?_
     refine Lt 18 5 1 1 [N8 (IntKind.u8.wrap (bshr .u32 s2 8))] ?_
     intro A36
     refine X.back ⟨⟨P1, trivial⟩, Le.refl _, by kernel_rfl, ?_⟩
     refine Dn ⟨20, [(0, I3 s2), (2, .own 1004 0), (5, I6 1), (8, I6 1), (9, VB true), (10, I6 2), (11, I6 1), (12, VL A33 6 c33), (13, I3 s2), (14, I6 1), (15, I6 8), (16, I3 (bshr .u32 s2 8)), (17, I8 (IntKind.u8.wrap (bshr .u32 s2 8))), (18, VL A36 1 1), (19, VL A33 6 c33)], [(1001, ⟨31, [I1 s0, I1 s1, I3 s2, I3 s3, I8 s4, I8 s5, I8 s6, I1 s7, I1 s8, I1 s9]⟩), (1004, ⟨22, [VL A33 6 c33]⟩)]⟩ ⟨P1, trivial⟩ ?_
     refine Do 7 9 255 B97 100 ?_
     refine Ap 19 _ 22 1 (N8 0) (.tmp 12) (.tmp 18) 6 c33 1 1 A33 A36 [N8 (IntKind.u8.wrap (bshr .u32 s2 8))] (.inl rfl) (by kernel_rfl) (Ar 18 rfl) (Br 18 rfl) (ones (by kernel_rfl)) (by decide) ?_
     intro A37 c37 hc37
     refine Tr [19, 18] ?_
     refine X.back ⟨⟨P1, trivial⟩, Le.refl _, by kernel_rfl, ?_⟩
     refine XD.toE ?_
     refine En ⟨20, [(0, I3 s2), (2, .own 1004 0), (5, I6 1), (8, I6 1), (9, VB true), (10, I6 2), (11, I6 1), (12, VL A33 6 c33), (13, I3 s2), (14, I6 1), (15, I6 8), (16, I3 (bshr .u32 s2 8)), (17, I8 (IntKind.u8.wrap (bshr .u32 s2 8))), (18, VL A36 1 1), (19, VL A37 7 c37)], [(1001, ⟨31, [I1 s0, I1 s1, I3 s2, I3 s3, I8 s4, I8 s5, I8 s6, I1 s7, I1 s8, I1 s9]⟩), (1004, ⟨22, [VL A33 6 c33]⟩)]⟩ ?_
     refine Eo 8 9 511 B97 100 ?_
     refine X.simple (by kernel_rfl) ?_
     refine X.back ?_
     refine XE.done (by kernel_rfl) ?_
     refine Rn 7 (.ex .normal) [.loop J34, .blk 0] ⟨20, [(0, I3 s2), (2, .own 1004 0), (5, I6 0), (8, I6 1), (9, VB true), (10, I6 1), (11, I6 0), (12, VL A33 6 c33), (13, I3 s2), (14, I6 1), (15, I6 8), (16, I3 (bshr .u32 s2 8)), (17, I8 (IntKind.u8.wrap (bshr .u32 s2 8))), (18, VL A36 1 1), (19, VL A37 7 c37)], [(1001, ⟨31, [I1 s0, I1 s1, I3 s2, I3 s3, I8 s4, I8 s5, I8 s6, I1 s7, I1 s8, I1 s9]⟩), (1004, ⟨22, [VL A37 7 c37]⟩)]⟩ ?_
     refine X.again (hJ34 _ _ _ ?_)
     refine RX.succ fun J38 hJ38 => ?_
     refine Rn 12 (Qc B97 100) [.blk 1, Qs B97 51, .loop J38, .blk 0] ⟨20, [(0, I3 s2), (2, .own 1004 0), (5, I6 0), (8, I6 0), (9, VB true), (10, I6 1), (11, I6 0), (12, VL A33 6 c33), (13, I3 s2), (14, I6 1), (15, I6 8), (16, I3 (bshr .u32 s2 8)), (17, I8 (IntKind.u8.wrap (bshr .u32 s2 8))), (18, VL A36 1 1), (19, VL A37 7 c37)], [(1001, ⟨31, [I1 s0, I1 s1, I3 s2, I3 s3, I8 s4, I8 s5, I8 s6, I1 s7, I1 s8, I1 s9]⟩), (1004, ⟨22, [VL A37 7 c37]⟩)]⟩ ?_
     refine Oh 3 B97 100 9 [⟨some 2, 1004, 22, [VL A37 7 c37]⟩] [] [8] ⟨P1, trivial⟩ Mt (fun ρ0 => ?_)
     refine Td [0, 1, 2, 3, 4, 5] 9 63 3 hQ25 [(12, VL A37 7 c37), (14, I6 0), (15, I6 0), (16, I3 (bshr .u32 s2 0)), (17, I8 (IntKind.u8.wrap (bshr .u32 s2 0)))] ⟨P1, trivial⟩ ?_
     refine Do 6 9 127 B97 100 ?_
     refine Lt 18 5 1 1 [N8 (IntKind.u8.wrap (bshr .u32 s2 0))] ?_
     intro A40
     refine X.back ⟨⟨P1, trivial⟩, Le.refl _, by kernel_rfl, ?_⟩
     refine Dn ⟨20, [(0, I3 s2), (2, .own 1004 0), (5, I6 0), (8, I6 0), (9, VB true), (10, I6 1), (11, I6 0), (12, VL A37 7 c37), (13, I3 s2), (14, I6 0), (15, I6 0), (16, I3 (bshr .u32 s2 0)), (17, I8 (IntKind.u8.wrap (bshr .u32 s2 0))), (18, VL A40 1 1), (19, VL A37 7 c37)], [(1001, ⟨31, [I1 s0, I1 s1, I3 s2, I3 s3, I8 s4, I8 s5, I8 s6, I1 s7, I1 s8, I1 s9]⟩), (1004, ⟨22, [VL A37 7 c37]⟩)]⟩ ⟨P1, trivial⟩ ?_
     refine Do 7 9 255 B97 100 ?_
     refine Ap 19 _ 22 1 (N8 0) (.tmp 12) (.tmp 18) 7 c37 1 1 A37 A40 [N8 (IntKind.u8.wrap (bshr .u32 s2 0))] (.inl rfl) (by kernel_rfl) (Ar 18 rfl) (Br 18 rfl) (ones (by kernel_rfl)) (by decide) ?_
     intro A41 c41 hc41
     refine Tr [19, 18] ?_
     refine X.back ⟨⟨P1, trivial⟩, Le.refl _, by kernel_rfl, ?_⟩
     refine XD.toE ?_
     refine En ⟨20, [(0, I3 s2), (2, .own 1004 0), (5, I6 0), (8, I6 0), (9, VB true), (10, I6 1), (11, I6 0), (12, VL A37 7 c37), (13, I3 s2), (14, I6 0), (15, I6 0), (16, I3 (bshr .u32 s2 0)), (17, I8 (IntKind.u8.wrap (bshr .u32 s2 0))), (18, VL A40 1 1), (19, VL A41 8 c41)], [(1001, ⟨31, [I1 s0, I1 s1, I3 s2, I3 s3, I8 s4, I8 s5, I8 s6, I1 s7, I1 s8, I1 s9]⟩), (1004, ⟨22, [VL A37 7 c37]⟩)]⟩ ?_
     refine Eo 8 9 511 B97 100 ?_
     refine X.simple (by kernel_rfl) ?_
     refine X.back ?_
     refine XE.done (by kernel_rfl) ?_
     refine Rn 7 (.ex .normal) [.loop J38, .blk 0] ⟨20, [(0, I3 s2), (2, .own 1004 0), (5, I6 (-1)), (8, I6 0), (9, VB true), (10, I6 0), (11, I6 (-1)), (12, VL A37 7 c37), (13, I3 s2), (14, I6 0), (15, I6 0), (16, I3 (bshr .u32 s2 0)), (17, I8 (IntKind.u8.wrap (bshr .u32 s2 0))), (18, VL A40 1 1), (19, VL A41 8 c41)], [(1001, ⟨31, [I1 s0, I1 s1, I3 s2, I3 s3, I8 s4, I8 s5, I8 s6, I1 s7, I1 s8, I1 s9]⟩), (1004, ⟨22, [VL A41 8 c41]⟩)]⟩ ?_
     refine X.again (hJ38 _ _ _ ?_)
     refine RX.succ fun J42 hJ42 => ?_
     refine Rn 12 (.ex .normal) [] ⟨20, [], [(1001, ⟨31, [I1 s0, I1 s1, I3 s2, I3 s3, I8 s4, I8 s5, I8 s6, I1 s7, I1 s8, I1 s9]⟩), (1004, ⟨22, [VL A41 8 c41]⟩)]⟩ ?_
     refine fin25 _ _ _ _ [] [(1, ⟨31, [I1 s0, I1 s1, I3 s2, I3 s3, I8 s4, I8 s5, I8 s6, I1 s7, I1 s8, I1 s9]⟩), (4, ⟨22, [VL A41 8 c41]⟩)] (.inr rfl) (by kernel_rfl) (by kernel_rfl) ?_
     refine Rn 7 (Qo B32 510 3) [Qs B32 511] ⟨75, [(1, .own 1 0), (2, VL none 0 0), (3, I6 0), (4, .own 4 0), (5, .fn 97 [(4, 0)]), (39, .fn 97 [(4, 0)]), (41, I3 s3)], [(1, ⟨31, [I1 s0, I1 s1, I3 s2, I3 s3, I8 s4, I8 s5, I8 s6, I1 s7, I1 s8, I1 s9]⟩), (4, ⟨22, [VL A41 8 c41]⟩)]⟩ ?_
     refine X.inline (f := 97) (l := [I3 s3, I6 4, .own 4 0]) (fn := Try.f97) (c := B97) (by kernel_rfl) (by kernel_rfl) Try.func97 (by kernel_rfl) ?_
     intro Q43 M43 hM43 hQ43 fin43
     refine Ra 8 (Qc B97 6) 0 [.blk 0] [(5, I6 3)] ?_
     refine X.rounds 5 ?_
     refine RX.succ fun J44 hJ44 => ?_
     refine Rn 12 (Qc B97 100) [.blk 1, Qs B97 51, .loop J44, .blk 0] ⟨20, [(0, I3 s3), (2, .own 1004 0), (5, I6 3), (8, I6 3), (9, VB true)], [(1001, ⟨31, [I1 s0, I1 s1, I3 s2, I3 s3, I8 s4, I8 s5, I8 s6, I1 s7, I1 s8, I1 s9]⟩), (1004, ⟨22, [VL A41 8 c41]⟩)]⟩ ?_
     refine Oh 3 B97 100 9 [⟨some 2, 1004, 22, [VL A41 8 c41]⟩] [] [8] ⟨P1, trivial⟩ Mt (fun ρ0 => ?_)
     refine Td [0, 1, 2, 3, 4, 5] 9 63 3 hQ43 [(12, VL A41 8 c41), (13, I3 s3), (14, I6 3), (15, I6 24), (16, I3 (bshr .u32 s3 24)), (17, I8 (IntKind.u8.wrap (bshr .u32 s3 24)))] ⟨P1, trivial⟩ ?_
     refine Do 6 9 127 B97 100 ?_
     refine Lt 18 5 1 1 [N8 (IntKind.u8.wrap (bshr .u32 s3 24))] ?_
     intro A46
     refine X.back ⟨⟨P1, trivial⟩, Le.refl _, by kernel_rfl, ?_⟩
     refine Dn ⟨20, [(0, I3 s3), (2, .own 1004 0), (5, I6 3), (8, I6 3), (9, VB true), (12, VL A41 8 c41), (13, I3 s3), (14, I6 3), (15, I6 24), (16, I3 (bshr .u32 s3 24)), (17, I8 (IntKind.u8.wrap (bshr .u32 s3 24))), (18, VL A46 1 1)], [(1001, ⟨31, [I1 s0, I1 s1, I3 s2, I3 s3, I8 s4, I8 s5, I8 s6, I1 s7, I1 s8, I1 s9]⟩), (1004, ⟨22, [VL A41 8 c41]⟩)]⟩ ⟨P1, trivial⟩ ?_
     refine Do 7 9 255 B97 100 ?_
     refine Ap 19 _ 22 1 (N8 0) (.tmp 12) (.tmp 18) 8 c41 1 1 A41 A46 [N8 (IntKind.u8.wrap (bshr .u32 s3 24))] (.inl rfl) (by kernel_rfl) (Ar 18 rfl) (Br 18 rfl) (ones (by kernel_rfl)) (by decide) ?_
     intro A47 c47 hc47
     refine Tr [19, 18] ?_
     refine X.back ⟨⟨P1, trivial⟩, Le.refl _, by kernel_rfl, ?_⟩
     refine XD.toE ?_
     refine En ⟨20, [(0, I3 s3), (2, .own 1004 0), (5, I6 3), (8, I6 3), (9, VB true), (12, VL A41 8 c41), (13, I3 s3), (14, I6 3), (15, I6 24), (16, I3 (bshr .u32 s3 24)), (17, I8 (IntKind.u8.wrap (bshr .u32 s3 24))), (18, VL A46 1 1), (19, VL A47 9 c47)], [(1001, ⟨31, [I1 s0, I1 s1, I3 s2, I3 s3, I8 s4, I8 s5, I8 s6, I1 s7, I1 s8, I1 s9]⟩), (1004, ⟨22, [VL A41 8 c41]⟩)]⟩ ?_
     refine Eo 8 9 511 B97 100 ?_
     refine X.simple (by kernel_rfl) ?_
     refine X.back ?_
     refine XE.done (by kernel_rfl) ?_
     refine Rn 7 (.ex .normal) [.loop J44, .blk 0] ⟨20, [(0, I3 s3), (2, .own 1004 0), (5, I6 2), (8, I6 3), (9, VB true), (10, I6 3), (11, I6 2), (12, VL A41 8 c41), (13, I3 s3), (14, I6 3), (15, I6 24), (16, I3 (bshr .u32 s3 24)), (17, I8 (IntKind.u8.wrap (bshr .u32 s3 24))), (18, VL A46 1 1), (19, VL A47 9 c47)], [(1001, ⟨31, [I1 s0, I1 s1, I3 s2, I3 s3, I8 s4, I8 s5, I8 s6, I1 s7, I1 s8, I1 s9]⟩), (1004, ⟨22, [VL A47 9 c47]⟩)]⟩ ?_
     refine X.again (hJ44 _ _ _ ?_)
     refine RX.succ fun J48 hJ48 => ?_
     refine Rn 12 (Qc B97 100) [.blk 1, Qs B97 51, .loop J48, .blk 0] ⟨20, [(0, I3 s3), (2, .own 1004 0), (5, I6 2), (8, I6 2), (9, VB true), (10, I6 3), (11, I6 2), (12, VL A41 8 c41), (13, I3 s3), (14, I6 3), (15, I6 24), (16, I3 (bshr .u32 s3 24)), (17, I8 (IntKind.u8.wrap (bshr .u32 s3 24))), (18, VL A46 1 1), (19, VL A47 9 c47)], [(1001, ⟨31, [I1 s0, I1 s1, I3 s2, I3 s3, I8 s4, I8 s5, I8 s6, I1 s7, I1 s8, I1 s9]⟩), (1004, ⟨22, [VL A47 9 c47]⟩)]⟩ ?_
     refine Oh 3 B97 100 9 [⟨some 2, 1004, 22, [VL A47 9 c47]⟩] [] [8] ⟨P1, trivial⟩ Mt (fun ρ0 => ?_)
     refine Td [0, 1, 2, 3, 4, 5] 9 63 3 hQ43 [(12, VL A47 9 c47), (14, I6 2), (15, I6 16), (16, I3 (bshr .u32 s3 16)), (17, I8 (IntKind.u8.wrap (bshr .u32 s3 16)))] ⟨P1, trivial⟩ ?_
     refine Do 6 9 127 B97 100 ?_
     refine Lt 18 5 1 1 [N8 (IntKind.u8.wrap (bshr .u32 s3 16))] ?_
     intro A50
     refine X.back ⟨⟨P1, trivial⟩, Le.refl _, by kernel_rfl, ?_⟩
     refine Dn ⟨20, [(0, I3 s3), (2, .own 1004 0), (5, I6 2), (8, I6 2), (9, VB true), (10, I6 3), (11, I6 2), (12, VL A47 9 c47), (13, I3 s3), (14, I6 2), (15, I6 16), (16, I3 (bshr .u32 s3 16)), (17, I8 (IntKind.u8.wrap (bshr .u32 s3 16))), (18, VL A50 1 1), (19, VL A47 9 c47)], [(1001, ⟨31, [I1 s0, I1 s1, I3 s2, I3 s3, I8 s4, I8 s5, I8 s6, I1 s7, I1 s8, I1 s9]⟩), (1004, ⟨22, [VL A47 9 c47]⟩)]⟩ ⟨P1, trivial⟩ ?_
     refine Do 7 9 255 B97 100 ?_
     refine Ap 19 _ 22 1 (N8 0) (.tmp 12) (.tmp 18) 9 c47 1 1 A47 A50 [N8 (IntKind.u8.wrap (bshr .u32 s3 16))] (.inl rfl) (by kernel_rfl) (Ar 18 rfl) (Br 18 rfl) (ones (by kernel_rfl)) (by decide) ?_
     intro A51 c51 hc51
     refine Tr [19, 18] ?_
     refine X.back ⟨⟨P1, trivial⟩, Le.refl _, by kernel_rfl, ?_⟩
     refine XD.toE ?_
     refine En ⟨20, [(0, I3 s3), (2, .own 1004 0), (5, I6 2), (8, I6 2), (9, VB true), (10, I6 3), (11, I6 2), (12, VL A47 9 c47), (13, I3 s3), (14, I6 2), (15, I6 16), (16, I3 (bshr .u32 s3 16)), (17, I8 (IntKind.u8.wrap (bshr .u32 s3 16))), (18, VL A50 1 1), (19, VL A51 10 c51)], [(1001, ⟨31, [I1 s0, I1 s1, I3 s2, I3 s3, I8 s4, I8 s5, I8 s6, I1 s7, I1 s8, I1 s9]⟩), (1004, ⟨22, [VL A47 9 c47]⟩)]⟩ ?_
     refine Eo 8 9 511 B97 100 ?_
     refine X.simple (by kernel_rfl) ?_
     refine X.back ?_
     refine XE.done (by kernel_rfl) ?_
     refine Rn 7 (.ex .normal) [.loop J48, .blk 0] ⟨20, [(0, I3 s3), (2, .own 1004 0), (5, I6 1), (8, I6 2), (9, VB true), (10, I6 2), (11, I6 1), (12, VL A47 9 c47), (13, I3 s3), (14, I6 2), (15, I6 16), (16, I3 (bshr .u32 s3 16)), (17, I8 (IntKind.u8.wrap (bshr .u32 s3 16))), (18, VL A50 1 1), (19, VL A51 10 c51)], [(1001, ⟨31, [I1 s0, I1 s1, I3 s2, I3 s3, I8 s4, I8 s5, I8 s6, I1 s7, I1 s8, I1 s9]⟩), (1004, ⟨22, [VL A51 10 c51]⟩)]⟩ ?_
     refine X.again (hJ48 _ _ _ ?_)
     refine RX.succ fun J52 hJ52 => ?_
     refine Rn 12 (Qc B97 100) [.blk 1, Qs B97 51, .loop J52, .blk 0] ⟨20, [(0, I3 s3), (2, .own 1004 0), (5, I6 1), (8, I6 1), (9, VB true), (10, I6 2), (11, I6 1), (12, VL A47 9 c47), (13, I3 s3), (14, I6 2), (15, I6 16), (16, I3 (bshr .u32 s3 16)), (17, I8 (IntKind.u8.wrap (bshr .u32 s3 16))), (18, VL A50 1 1), (19, VL A51 10 c51)], [(1001, ⟨31, [I1 s0, I1 s1, I3 s2, I3 s3, I8 s4, I8 s5, I8 s6, I1 s7, I1 s8, I1 s9]⟩), (1004, ⟨22, [VL A51 10 c51]⟩)]⟩ ?_
     refine Oh 3 B97 100 9 [⟨some 2, 1004, 22, [VL A51 10 c51]⟩] [] [8] ⟨P1, trivial⟩ Mt (fun ρ0 => ?_)
     refine Td [0, 1, 2, 3, 4, 5] 9 63 3 hQ43 [(12, VL A51 10 c51), (14, I6 1), (15, I6 8), (16, I3 (bshr .u32 s3 8)), (17, I8 (IntKind.u8.wrap (bshr .u32 s3 8)))] ⟨P1, trivial⟩ ?_
     refine Do 6 9 127 B97 100 ?_
     refine Lt 18 5 1 1 [N8 (IntKind.u8.wrap (bshr .u32 s3 8))] ?_
     intro A54
     refine X.back ⟨⟨P1, trivial⟩, Le.refl _, by kernel_rfl, ?_⟩
     refine Dn ⟨20, [(0, I3 s3), (2, .own 1004 0), (5, I6 1), (8, I6 1), (9, VB true), (10, I6 2), (11, I6 1), (12, VL A51 10 c51), (13, I3 s3), (14, I6 1), (15, I6 8), (16, I3 (bshr .u32 s3 8)), (17, I8 (IntKind.u8.wrap (bshr .u32 s3 8))), (18, VL A54 1 1), (19, VL A51 10 c51)], [(1001, ⟨31, [I1 s0, I1 s1, I3 s2, I3 s3, I8 s4, I8 s5, I8 s6, I1 s7, I1 s8, I1 s9]⟩), (1004, ⟨22, [VL A51 10 c51]⟩)]⟩ ⟨P1, trivial⟩ ?_
     refine Do 7 9 255 B97 100 ?_
     refine Ap 19 _ 22 1 (N8 0) (.tmp 12) (.tmp 18) 10 c51 1 1 A51 A54 [N8 (IntKind.u8.wrap (bshr .u32 s3 8))] (.inl rfl) (by kernel_rfl) (Ar 18 rfl) (Br 18 rfl) (ones (by kernel_rfl)) (by decide) ?_
     intro A55 c55 hc55
     refine Tr [19, 18] ?_
     refine X.back ⟨⟨P1, trivial⟩, Le.refl _, by kernel_rfl, ?_⟩
     refine XD.toE ?_
     refine En ⟨20, [(0, I3 s3), (2, .own 1004 0), (5, I6 1), (8, I6 1), (9, VB true), (10, I6 2), (11, I6 1), (12, VL A51 10 c51), (13, I3 s3), (14, I6 1), (15, I6 8), (16, I3 (bshr .u32 s3 8)), (17, I8 (IntKind.u8.wrap (bshr .u32 s3 8))), (18, VL A54 1 1), (19, VL A55 11 c55)], [(1001, ⟨31, [I1 s0, I1 s1, I3 s2, I3 s3, I8 s4, I8 s5, I8 s6, I1 s7, I1 s8, I1 s9]⟩), (1004, ⟨22, [VL A51 10 c51]⟩)]⟩ ?_
     refine Eo 8 9 511 B97 100 ?_
     refine X.simple (by kernel_rfl) ?_
     refine X.back ?_
     refine XE.done (by kernel_rfl) ?_
     refine Rn 7 (.ex .normal) [.loop J52, .blk 0] ⟨20, [(0, I3 s3), (2, .own 1004 0), (5, I6 0), (8, I6 1), (9, VB true), (10, I6 1), (11, I6 0), (12, VL A51 10 c51), (13, I3 s3), (14, I6 1), (15, I6 8), (16, I3 (bshr .u32 s3 8)), (17, I8 (IntKind.u8.wrap (bshr .u32 s3 8))), (18, VL A54 1 1), (19, VL A55 11 c55)], [(1001, ⟨31, [I1 s0, I1 s1, I3 s2, I3 s3, I8 s4, I8 s5, I8 s6, I1 s7, I1 s8, I1 s9]⟩), (1004, ⟨22, [VL A55 11 c55]⟩)]⟩ ?_
     refine X.again (hJ52 _ _ _ ?_)
     refine RX.succ fun J56 hJ56 => ?_
     refine Rn 12 (Qc B97 100) [.blk 1, Qs B97 51, .loop J56, .blk 0] ⟨20, [(0, I3 s3), (2, .own 1004 0), (5, I6 0), (8, I6 0), (9, VB true), (10, I6 1), (11, I6 0), (12, VL A51 10 c51), (13, I3 s3), (14, I6 1), (15, I6 8), (16, I3 (bshr .u32 s3 8)), (17, I8 (IntKind.u8.wrap (bshr .u32 s3 8))), (18, VL A54 1 1), (19, VL A55 11 c55)], [(1001, ⟨31, [I1 s0, I1 s1, I3 s2, I3 s3, I8 s4, I8 s5, I8 s6, I1 s7, I1 s8, I1 s9]⟩), (1004, ⟨22, [VL A55 11 c55]⟩)]⟩ ?_
     refine Oh 3 B97 100 9 [⟨some 2, 1004, 22, [VL A55 11 c55]⟩] [] [8] ⟨P1, trivial⟩ Mt (fun ρ0 => ?_)
     refine Td [0, 1, 2, 3, 4, 5] 9 63 3 hQ43 [(12, VL A55 11 c55), (14, I6 0), (15, I6 0), (16, I3 (bshr .u32 s3 0)), (17, I8 (IntKind.u8.wrap (bshr .u32 s3 0)))] ⟨P1, trivial⟩ ?_
     refine Do 6 9 127 B97 100 ?_
     refine Lt 18 5 1 1 [N8 (IntKind.u8.wrap (bshr .u32 s3 0))] ?_
     intro A58
     refine X.back ⟨⟨P1, trivial⟩, Le.refl _, by kernel_rfl, ?_⟩
     refine Dn ⟨20, [(0, I3 s3), (2, .own 1004 0), (5, I6 0), (8, I6 0), (9, VB true), (10, I6 1), (11, I6 0), (12, VL A55 11 c55), (13, I3 s3), (14, I6 0), (15, I6 0), (16, I3 (bshr .u32 s3 0)), (17, I8 (IntKind.u8.wrap (bshr .u32 s3 0))), (18, VL A58 1 1), (19, VL A55 11 c55)], [(1001, ⟨31, [I1 s0, I1 s1, I3 s2, I3 s3, I8 s4, I8 s5, I8 s6, I1 s7, I1 s8, I1 s9]⟩), (1004, ⟨22, [VL A55 11 c55]⟩)]⟩ ⟨P1, trivial⟩ ?_
     refine Do 7 9 255 B97 100 ?_
     refine Ap 19 _ 22 1 (N8 0) (.tmp 12) (.tmp 18) 11 c55 1 1 A55 A58 [N8 (IntKind.u8.wrap (bshr .u32 s3 0))] (.inl rfl) (by kernel_rfl) (Ar 18 rfl) (Br 18 rfl) (ones (by kernel_rfl)) (by decide) ?_
     intro A59 c59 hc59
     refine Tr [19, 18] ?_
     refine X.back ⟨⟨P1, trivial⟩, Le.refl _, by kernel_rfl, ?_⟩
     refine XD.toE ?_
     refine En ⟨20, [(0, I3 s3), (2, .own 1004 0), (5, I6 0), (8, I6 0), (9, VB true), (10, I6 1), (11, I6 0), (12, VL A55 11 c55), (13, I3 s3), (14, I6 0), (15, I6 0), (16, I3 (bshr .u32 s3 0)), (17, I8 (IntKind.u8.wrap (bshr .u32 s3 0))), (18, VL A58 1 1), (19, VL A59 12 c59)], [(1001, ⟨31, [I1 s0, I1 s1, I3 s2, I3 s3, I8 s4, I8 s5, I8 s6, I1 s7, I1 s8, I1 s9]⟩), (1004, ⟨22, [VL A55 11 c55]⟩)]⟩ ?_
     refine Eo 8 9 511 B97 100 ?_
     refine X.simple (by kernel_rfl) ?_
     refine X.back ?_
     refine XE.done (by kernel_rfl) ?_
     refine Rn 7 (.ex .normal) [.loop J56, .blk 0] ⟨20, [(0, I3 s3), (2, .own 1004 0), (5, I6 (-1)), (8, I6 0), (9, VB true), (10, I6 0), (11, I6 (-1)), (12, VL A55 11 c55), (13, I3 s3), (14, I6 0), (15, I6 0), (16, I3 (bshr .u32 s3 0)), (17, I8 (IntKind.u8.wrap (bshr .u32 s3 0))), (18, VL A58 1 1), (19, VL A59 12 c59)], [(1001, ⟨31, [I1 s0, I1 s1, I3 s2, I3 s3, I8 s4, I8 s5, I8 s6, I1 s7, I1 s8, I1 s9]⟩), (1004, ⟨22, [VL A59 12 c59]⟩)]⟩ ?_
     refine X.again (hJ56 _ _ _ ?_)
     refine RX.succ fun J60 hJ60 => ?_
     refine Rn 12 (.ex .normal) [] ⟨20, [], [(1001, ⟨31, [I1 s0, I1 s1, I3 s2, I3 s3, I8 s4, I8 s5, I8 s6, I1 s7, I1 s8, I1 s9]⟩), (1004, ⟨22, [VL A59 12 c59]⟩)]⟩ ?_
     refine fin43 _ _ _ _ [] [(1, ⟨31, [I1 s0, I1 s1, I3 s2, I3 s3, I8 s4, I8 s5, I8 s6, I1 s7, I1 s8, I1 s9]⟩), (4, ⟨22, [VL A59 12 c59]⟩)] (.inr rfl) (by kernel_rfl) (by kernel_rfl) ?_
     refine Ra 18 (Qo B32 1022 14) 1 [Qs B32 1023] [(43, VL A59 12 c59), (50, I8 (bor .u8 (bshl .u8 s4 4) (bshr .u8 s5 2))), (56, I8 (bor .u8 (bshl .u8 s5 6) s6))] ?_
     refine Lt 57 5 1 2 [N8 (bor .u8 (bshl .u8 s4 4) (bshr .u8 s5 2)), N8 (bor .u8 (bshl .u8 s5 6) s6)] ?_
     intro A61
     refine Ra 0 (Qo B32 1022 15) 0 [] [(57, VL A61 2 2)] ?_
     refine Ap 19 _ 22 1 (N8 0) (.tmp 43) (.tmp 57) 12 c59 2 2 A59 A61 [N8 (bor .u8 (bshl .u8 s4 4) (bshr .u8 s5 2)), N8 (bor .u8 (bshl .u8 s5 6) s6)] (.inl rfl) (by kernel_rfl) (Ar 57 rfl) (Br 57 rfl) (ones (by kernel_rfl)) (by decide) ?_
     intro A62 c62 hc62
     refine Tr [19, 57] ?_
     refine Rb 9 (Qo B32 2046 4) 1 [Qs B32 2047] [(59, .fn 97 [(4, 0)]), (62, I3 (IntKind.u32.wrap s7))] [] [(4, ⟨22, [VL A62 14 c62]⟩)] [] ?_
     refine X.inline (f := 97) (l := [I3 (IntKind.u32.wrap s7), I6 2, .own 4 0]) (fn := Try.f97) (c := B97) (by kernel_rfl) (by kernel_rfl) Try.func97 (by kernel_rfl) ?_
     intro Q63 M63 hM63 hQ63 fin63
     refine Ra 8 (Qc B97 6) 0 [.blk 0] [(5, I6 1)] ?_
     refine X.rounds 3 ?_
     refine RX.succ fun J64 hJ64 => ?_
     refine Rn 12 (Qc B97 100) [.blk 1, Qs B97 51, .loop J64, .blk 0] ⟨20, [(0, I3 (IntKind.u32.wrap s7)), (2, .own 1004 0), (5, I6 1), (8, I6 1), (9, VB true)], [(1001, ⟨31, [I1 s0, I1 s1, I3 s2, I3 s3, I8 s4, I8 s5, I8 s6, I1 s7, I1 s8, I1 s9]⟩), (1004, ⟨22, [VL A62 14 c62]⟩)]⟩ ?_
     refine Oh 3 B97 100 9 [⟨some 2, 1004, 22, [VL A62 14 c62]⟩] [] [8] ⟨P1, trivial⟩ Mt (fun ρ0 => ?_)
     refine Td [0, 1, 2, 3, 4, 5] 9 63 3 hQ63 [(12, VL A62 14 c62), (13, I3 (IntKind.u32.wrap s7)), (14, I6 1), (15, I6 8), (16, I3 (bshr .u32 (IntKind.u32.wrap s7) 8)), (17, I8 (IntKind.u8.wrap (bshr .u32 (IntKind.u32.wrap s7) 8)))] ⟨P1, trivial⟩ ?_
     refine Do 6 9 127 B97 100 ?_
     refine Lt 18 5 1 1 [N8 (IntKind.u8.wrap (bshr .u32 (IntKind.u32.wrap s7) 8))] ?_
     intro A66
     refine X.back ⟨⟨P1, trivial⟩, Le.refl _, by kernel_rfl, ?_⟩
     refine Dn ⟨20, [(0, I3 (IntKind.u32.wrap s7)), (2, .own 1004 0), (5, I6 1), (8, I6 1), (9, VB true), (12, VL A62 14 c62), (13, I3 (IntKind.u32.wrap s7)), (14, I6 1), (15, I6 8), (16, I3 (bshr .u32 (IntKind.u32.wrap s7) 8)), (17, I8 (IntKind.u8.wrap (bshr .u32 (IntKind.u32.wrap s7) 8))), (18, VL A66 1 1)], [(1001, ⟨31, [I1 s0, I1 s1, I3 s2, I3 s3, I8 s4, I8 s5, I8 s6, I1 s7, I1 s8, I1 s9]⟩), (1004, ⟨22, [VL A62 14 c62]⟩)]⟩ ⟨P1, trivial⟩ ?_
     refine Do 7 9 255 B97 100 ?_
     refine Ap 19 _ 22 1 (N8 0) (.tmp 12) (.tmp 18) 14 c62 1 1 A62 A66 [N8 (IntKind.u8.wrap (bshr .u32 (IntKind.u32.wrap s7) 8))] (.inl rfl) (by kernel_rfl) (Ar 18 rfl) (Br 18 rfl) (ones (by kernel_rfl)) (by decide) ?_
     intro A67 c67 hc67
     refine Tr [19, 18] ?_
     refine X.back ⟨⟨P1, trivial⟩, Le.refl _, by kernel_rfl, ?_⟩
     refine XD.toE ?_
     refine En ⟨20, [(0, I3 (IntKind.u32.wrap s7)), (2, .own 1004 0), (5, I6 1), (8, I6 1), (9, VB true), (12, VL A62 14 c62), (13, I3 (IntKind.u32.wrap s7)), (14, I6 1), (15, I6 8), (16, I3 (bshr .u32 (IntKind.u32.wrap s7) 8)), (17, I8 (IntKind.u8.wrap (bshr .u32 (IntKind.u32.wrap s7) 8))), (18, VL A66 1 1), (19, VL A67 15 c67)], [(1001, ⟨31, [I1 s0, I1 s1, I3 s2, I3 s3, I8 s4, I8 s5, I8 s6, I1 s7, I1 s8, I1 s9]⟩), (1004, ⟨22, [VL A62 14 c62]⟩)]⟩ ?_
     refine Eo 8 9 511 B97 100 ?_
     refine X.simple (by kernel_rfl) ?_
     refine X.back ?_
     refine XE.done (by kernel_rfl) ?_
     refine Rn 7 (.ex .normal) [.loop J64, .blk 0] ⟨20, [(0, I3 (IntKind.u32.wrap s7)), (2, .own 1004 0), (5, I6 0), (8, I6 1), (9, VB true), (10, I6 1), (11, I6 0), (12, VL A62 14 c62), (13, I3 (IntKind.u32.wrap s7)), (14, I6 1), (15, I6 8), (16, I3 (bshr .u32 (IntKind.u32.wrap s7) 8)), (17, I8 (IntKind.u8.wrap (bshr .u32 (IntKind.u32.wrap s7) 8))), (18, VL A66 1 1), (19, VL A67 15 c67)], [(1001, ⟨31, [I1 s0, I1 s1, I3 s2, I3 s3, I8 s4, I8 s5, I8 s6, I1 s7, I1 s8, I1 s9]⟩), (1004, ⟨22, [VL A67 15 c67]⟩)]⟩ ?_
     refine X.again (hJ64 _ _ _ ?_)
     refine RX.succ fun J68 hJ68 => ?_
     refine Rn 12 (Qc B97 100) [.blk 1, Qs B97 51, .loop J68, .blk 0] ⟨20, [(0, I3 (IntKind.u32.wrap s7)), (2, .own 1004 0), (5, I6 0), (8, I6 0), (9, VB true), (10, I6 1), (11, I6 0), (12, VL A62 14 c62), (13, I3 (IntKind.u32.wrap s7)), (14, I6 1), (15, I6 8), (16, I3 (bshr .u32 (IntKind.u32.wrap s7) 8)), (17, I8 (IntKind.u8.wrap (bshr .u32 (IntKind.u32.wrap s7) 8))), (18, VL A66 1 1), (19, VL A67 15 c67)], [(1001, ⟨31, [I1 s0, I1 s1, I3 s2, I3 s3, I8 s4, I8 s5, I8 s6, I1 s7, I1 s8, I1 s9]⟩), (1004, ⟨22, [VL A67 15 c67]⟩)]⟩ ?_
     refine Oh 3 B97 100 9 [⟨some 2, 1004, 22, [VL A67 15 c67]⟩] [] [8] ⟨P1, trivial⟩ Mt (fun ρ0 => ?_)
     refine Td [0, 1, 2, 3, 4, 5] 9 63 3 hQ63 [(12, VL A67 15 c67), (14, I6 0), (15, I6 0), (16, I3 (bshr .u32 (IntKind.u32.wrap s7) 0)), (17, I8 (IntKind.u8.wrap (bshr .u32 (IntKind.u32.wrap s7) 0)))] ⟨P1, trivial⟩ ?_
     refine Do 6 9 127 B97 100 ?_
     refine Lt 18 5 1 1 [N8 (IntKind.u8.wrap (bshr .u32 (IntKind.u32.wrap s7) 0))] ?_
     intro A70
     refine X.back ⟨⟨P1, trivial⟩, Le.refl _, by kernel_rfl, ?_⟩
     refine Dn ⟨20, [(0, I3 (IntKind.u32.wrap s7)), (2, .own 1004 0), (5, I6 0), (8, I6 0), (9, VB true), (10, I6 1), (11, I6 0), (12, VL A67 15 c67), (13, I3 (IntKind.u32.wrap s7)), (14, I6 0), (15, I6 0), (16, I3 (bshr .u32 (IntKind.u32.wrap s7) 0)), (17, I8 (IntKind.u8.wrap (bshr .u32 (IntKind.u32.wrap s7) 0))), (18, VL A70 1 1), (19, VL A67 15 c67)], [(1001, ⟨31, [I1 s0, I1 s1, I3 s2, I3 s3, I8 s4, I8 s5, I8 s6, I1 s7, I1 s8, I1 s9]⟩), (1004, ⟨22, [VL A67 15 c67]⟩)]⟩ ⟨P1, trivial⟩ ?_
     refine Do 7 9 255 B97 100 ?_
     refine Ap 19 _ 22 1 (N8 0) (.tmp 12) (.tmp 18) 15 c67 1 1 A67 A70 [N8 (IntKind.u8.wrap (bshr .u32 (IntKind.u32.wrap s7) 0))] (.inl rfl) (by kernel_rfl) (Ar 18 rfl) (Br 18 rfl) (ones (by kernel_rfl)) (by decide) ?_
     intro A71 c71 hc71
     refine Tr [19, 18] ?_
     refine X.back ⟨⟨P1, trivial⟩, Le.refl _, by kernel_rfl, ?_⟩
     refine XD.toE ?_
     refine En ⟨20, [(0, I3 (IntKind.u32.wrap s7)), (2, .own 1004 0), (5, I6 0), (8, I6 0), (9, VB true), (10, I6 1), (11, I6 0), (12, VL A67 15 c67), (13, I3 (IntKind.u32.wrap s7)), (14, I6 0), (15, I6 0), (16, I3 (bshr .u32 (IntKind.u32.wrap s7) 0)), (17, I8 (IntKind.u8.wrap (bshr .u32 (IntKind.u32.wrap s7) 0))), (18, VL A70 1 1), (19, VL A71 16 c71)], [(1001, ⟨31, [I1 s0, I1 s1, I3 s2, I3 s3, I8 s4, I8 s5, I8 s6, I1 s7, I1 s8, I1 s9]⟩), (1004, ⟨22, [VL A67 15 c67]⟩)]⟩ ?_
     refine Eo 8 9 511 B97 100 ?_
     refine X.simple (by kernel_rfl) ?_
     refine X.back ?_
     refine XE.done (by kernel_rfl) ?_
     refine Rn 7 (.ex .normal) [.loop J68, .blk 0] ⟨20, [(0, I3 (IntKind.u32.wrap s7)), (2, .own 1004 0), (5, I6 (-1)), (8, I6 0), (9, VB true), (10, I6 0), (11, I6 (-1)), (12, VL A67 15 c67), (13, I3 (IntKind.u32.wrap s7)), (14, I6 0), (15, I6 0), (16, I3 (bshr .u32 (IntKind.u32.wrap s7) 0)), (17, I8 (IntKind.u8.wrap (bshr .u32 (IntKind.u32.wrap s7) 0))), (18, VL A70 1 1), (19, VL A71 16 c71)], [(1001, ⟨31, [I1 s0, I1 s1, I3 s2, I3 s3, I8 s4, I8 s5, I8 s6, I1 s7, I1 s8, I1 s9]⟩), (1004, ⟨22, [VL A71 16 c71]⟩)]⟩ ?_
     refine X.again (hJ68 _ _ _ ?_)
     refine RX.succ fun J72 hJ72 => ?_
     refine Rn 12 (.ex .normal) [] ⟨20, [], [(1001, ⟨31, [I1 s0, I1 s1, I3 s2, I3 s3, I8 s4, I8 s5, I8 s6, I1 s7, I1 s8, I1 s9]⟩), (1004, ⟨22, [VL A71 16 c71]⟩)]⟩ ?_
     refine fin63 _ _ _ _ [] [(1, ⟨31, [I1 s0, I1 s1, I3 s2, I3 s3, I8 s4, I8 s5, I8 s6, I1 s7, I1 s8, I1 s9]⟩), (4, ⟨22, [VL A71 16 c71]⟩)] (.inr rfl) (by kernel_rfl) (by kernel_rfl) ?_
     refine Ra 8 (Qo B32 4094 4) 1 [Qs B32 4095] [(64, .fn 97 [(4, 0)]), (67, I3 (IntKind.u32.wrap s8))] ?_
     refine X.inline (f := 97) (l := [I3 (IntKind.u32.wrap s8), I6 2, .own 4 0]) (fn := Try.f97) (c := B97) (by kernel_rfl) (by kernel_rfl) Try.func97 (by kernel_rfl) ?_
     intro Q73 M73 hM73 hQ73 fin73
     refine Ra 8 (Qc B97 6) 0 [.blk 0] [(5, I6 1)] ?_
     refine X.rounds 3 ?_
     refine RX.succ fun J74 hJ74 => ?_
     refine Rn 12 (Qc B97 100) [.blk 1, Qs B97 51, .loop J74, .blk 0] ⟨20, [(0, I3 (IntKind.u32.wrap s8)), (2, .own 1004 0), (5, I6 1), (8, I6 1), (9, VB true)], [(1001, ⟨31, [I1 s0, I1 s1, I3 s2, I3 s3, I8 s4, I8 s5, I8 s6, I1 s7, I1 s8, I1 s9]⟩), (1004, ⟨22, [VL A71 16 c71]⟩)]⟩ ?_
     refine Oh 3 B97 100 9 [⟨some 2, 1004, 22, [VL A71 16 c71]⟩] [] [8] ⟨P1, trivial⟩ Mt (fun ρ0 => ?_)
     refine Td [0, 1, 2, 3, 4, 5] 9 63 3 hQ73 [(12, VL A71 16 c71), (13, I3 (IntKind.u32.wrap s8)), (14, I6 1), (15, I6 8), (16, I3 (bshr .u32 (IntKind.u32.wrap s8) 8)), (17, I8 (IntKind.u8.wrap (bshr .u32 (IntKind.u32.wrap s8) 8)))] ⟨P1, trivial⟩ ?_
     refine Do 6 9 127 B97 100 ?_
     refine Lt 18 5 1 1 [N8 (IntKind.u8.wrap (bshr .u32 (IntKind.u32.wrap s8) 8))] ?_
     intro A76
     refine X.back ⟨⟨P1, trivial⟩, Le.refl _, by kernel_rfl, ?_⟩
     refine Dn ⟨20, [(0, I3 (IntKind.u32.wrap s8)), (2, .own 1004 0), (5, I6 1), (8, I6 1), (9, VB true), (12, VL A71 16 c71), (13, I3 (IntKind.u32.wrap s8)), (14, I6 1), (15, I6 8), (16, I3 (bshr .u32 (IntKind.u32.wrap s8) 8)), (17, I8 (IntKind.u8.wrap (bshr .u32 (IntKind.u32.wrap s8) 8))), (18, VL A76 1 1)], [(1001, ⟨31, [I1 s0, I1 s1, I3 s2, I3 s3, I8 s4, I8 s5, I8 s6, I1 s7, I1 s8, I1 s9]⟩), (1004, ⟨22, [VL A71 16 c71]⟩)]⟩ ⟨P1, trivial⟩ ?_
     refine Do 7 9 255 B97 100 ?_
     refine Ap 19 _ 22 1 (N8 0) (.tmp 12) (.tmp 18) 16 c71 1 1 A71 A76 [N8 (IntKind.u8.wrap (bshr .u32 (IntKind.u32.wrap s8) 8))] (.inl rfl) (by kernel_rfl) (Ar 18 rfl) (Br 18 rfl) (ones (by kernel_rfl)) (by decide) ?_
     intro A77 c77 hc77
     refine Tr [19, 18] ?_
     refine X.back ⟨⟨P1, trivial⟩, Le.refl _, by kernel_rfl, ?_⟩
     refine XD.toE ?_
     refine En ⟨20, [(0, I3 (IntKind.u32.wrap s8)), (2, .own 1004 0), (5, I6 1), (8, I6 1), (9, VB true), (12, VL A71 16 c71), (13, I3 (IntKind.u32.wrap s8)), (14, I6 1), (15, I6 8), (16, I3 (bshr .u32 (IntKind.u32.wrap s8) 8)), (17, I8 (IntKind.u8.wrap (bshr .u32 (IntKind.u32.wrap s8) 8))), (18, VL A76 1 1), (19, VL A77 17 c77)], [(1001, ⟨31, [I1 s0, I1 s1, I3 s2, I3 s3, I8 s4, I8 s5, I8 s6, I1 s7, I1 s8, I1 s9]⟩), (1004, ⟨22, [VL A71 16 c71]⟩)]⟩ ?_
     refine Eo 8 9 511 B97 100 ?_
     refine X.simple (by kernel_rfl) ?_
     refine X.back ?_
     refine XE.done (by kernel_rfl) ?_
     refine Rn 7 (.ex .normal) [.loop J74, .blk 0] ⟨20, [(0, I3 (IntKind.u32.wrap s8)), (2, .own 1004 0), (5, I6 0), (8, I6 1), (9, VB true), (10, I6 1), (11, I6 0), (12, VL A71 16 c71), (13, I3 (IntKind.u32.wrap s8)), (14, I6 1), (15, I6 8), (16, I3 (bshr .u32 (IntKind.u32.wrap s8) 8)), (17, I8 (IntKind.u8.wrap (bshr .u32 (IntKind.u32.wrap s8) 8))), (18, VL A76 1 1), (19, VL A77 17 c77)], [(1001, ⟨31, [I1 s0, I1 s1, I3 s2, I3 s3, I8 s4, I8 s5, I8 s6, I1 s7, I1 s8, I1 s9]⟩), (1004, ⟨22, [VL A77 17 c77]⟩)]⟩ ?_
     refine X.again (hJ74 _ _ _ ?_)
     refine RX.succ fun J78 hJ78 => ?_
     refine Rn 12 (Qc B97 100) [.blk 1, Qs B97 51, .loop J78, .blk 0] ⟨20, [(0, I3 (IntKind.u32.wrap s8)), (2, .own 1004 0), (5, I6 0), (8, I6 0), (9, VB true), (10, I6 1), (11, I6 0), (12, VL A71 16 c71), (13, I3 (IntKind.u32.wrap s8)), (14, I6 1), (15, I6 8), (16, I3 (bshr .u32 (IntKind.u32.wrap s8) 8)), (17, I8 (IntKind.u8.wrap (bshr .u32 (IntKind.u32.wrap s8) 8))), (18, VL A76 1 1), (19, VL A77 17 c77)], [(1001, ⟨31, [I1 s0, I1 s1, I3 s2, I3 s3, I8 s4, I8 s5, I8 s6, I1 s7, I1 s8, I1 s9]⟩), (1004, ⟨22, [VL A77 17 c77]⟩)]⟩ ?_
     refine Oh 3 B97 100 9 [⟨some 2, 1004, 22, [VL A77 17 c77]⟩] [] [8] ⟨P1, trivial⟩ Mt (fun ρ0 => ?_)
     refine Td [0, 1, 2, 3, 4, 5] 9 63 3 hQ73 [(12, VL A77 17 c77), (14, I6 0), (15, I6 0), (16, I3 (bshr .u32 (IntKind.u32.wrap s8) 0)), (17, I8 (IntKind.u8.wrap (bshr .u32 (IntKind.u32.wrap s8) 0)))] ⟨P1, trivial⟩ ?_
     refine Do 6 9 127 B97 100 ?_
     refine Lt 18 5 1 1 [N8 (IntKind.u8.wrap (bshr .u32 (IntKind.u32.wrap s8) 0))] ?_
     intro A80
     refine X.back ⟨⟨P1, trivial⟩, Le.refl _, by kernel_rfl, ?_⟩
     refine Dn ⟨20, [(0, I3 (IntKind.u32.wrap s8)), (2, .own 1004 0), (5, I6 0), (8, I6 0), (9, VB true), (10, I6 1), (11, I6 0), (12, VL A77 17 c77), (13, I3 (IntKind.u32.wrap s8)), (14, I6 0), (15, I6 0), (16, I3 (bshr .u32 (IntKind.u32.wrap s8) 0)), (17, I8 (IntKind.u8.wrap (bshr .u32 (IntKind.u32.wrap s8) 0))), (18, VL A80 1 1), (19, VL A77 17 c77)], [(1001, ⟨31, [I1 s0, I1 s1, I3 s2, I3 s3, I8 s4, I8 s5, I8 s6, I1 s7, I1 s8, I1 s9]⟩), (1004, ⟨22, [VL A77 17 c77]⟩)]⟩ ⟨P1, trivial⟩ ?_
     refine Do 7 9 255 B97 100 ?_
     refine Ap 19 _ 22 1 (N8 0) (.tmp 12) (.tmp 18) 17 c77 1 1 A77 A80 [N8 (IntKind.u8.wrap (bshr .u32 (IntKind.u32.wrap s8) 0))] (.inl rfl) (by kernel_rfl) (Ar 18 rfl) (Br 18 rfl) (ones (by kernel_rfl)) (by decide) ?_
     intro A81 c81 hc81
     refine Tr [19, 18] ?_
     refine X.back ⟨⟨P1, trivial⟩, Le.refl _, by kernel_rfl, ?_⟩
     refine XD.toE ?_
     refine En ⟨20, [(0, I3 (IntKind.u32.wrap s8)), (2, .own 1004 0), (5, I6 0), (8, I6 0), (9, VB true), (10, I6 1), (11, I6 0), (12, VL A77 17 c77), (13, I3 (IntKind.u32.wrap s8)), (14, I6 0), (15, I6 0), (16, I3 (bshr .u32 (IntKind.u32.wrap s8) 0)), (17, I8 (IntKind.u8.wrap (bshr .u32 (IntKind.u32.wrap s8) 0))), (18, VL A80 1 1), (19, VL A81 18 c81)], [(1001, ⟨31, [I1 s0, I1 s1, I3 s2, I3 s3, I8 s4, I8 s5, I8 s6, I1 s7, I1 s8, I1 s9]⟩), (1004, ⟨22, [VL A77 17 c77]⟩)]⟩ ?_
     refine Eo 8 9 511 B97 100 ?_
     refine X.simple (by kernel_rfl) ?_
     refine X.back ?_
     refine XE.done (by kernel_rfl) ?_
     refine Rn 7 (.ex .normal) [.loop J78, .blk 0] ⟨20, [(0, I3 (IntKind.u32.wrap s8)), (2, .own 1004 0), (5, I6 (-1)), (8, I6 0), (9, VB true), (10, I6 0), (11, I6 (-1)), (12, VL A77 17 c77), (13, I3 (IntKind.u32.wrap s8)), (14, I6 0), (15, I6 0), (16, I3 (bshr .u32 (IntKind.u32.wrap s8) 0)), (17, I8 (IntKind.u8.wrap (bshr .u32 (IntKind.u32.wrap s8) 0))), (18, VL A80 1 1), (19, VL A81 18 c81)], [(1001, ⟨31, [I1 s0, I1 s1, I3 s2, I3 s3, I8 s4, I8 s5, I8 s6, I1 s7, I1 s8, I1 s9]⟩), (1004, ⟨22, [VL A81 18 c81]⟩)]⟩ ?_
     refine X.again (hJ78 _ _ _ ?_)
     refine RX.succ fun J82 hJ82 => ?_
     refine Rn 12 (.ex .normal) [] ⟨20, [], [(1001, ⟨31, [I1 s0, I1 s1, I3 s2, I3 s3, I8 s4, I8 s5, I8 s6, I1 s7, I1 s8, I1 s9]⟩), (1004, ⟨22, [VL A81 18 c81]⟩)]⟩ ?_
     refine fin73 _ _ _ _ [] [(1, ⟨31, [I1 s0, I1 s1, I3 s2, I3 s3, I8 s4, I8 s5, I8 s6, I1 s7, I1 s8, I1 s9]⟩), (4, ⟨22, [VL A81 18 c81]⟩)] (.inr rfl) (by kernel_rfl) (by kernel_rfl) ?_
     refine Rb 8 (Qo B32 8190 4) 1 [Qs B32 8191] [(69, .fn 97 [(4, 0)]), (72, I3 (IntKind.u32.wrap s9))] [5] [] [1] ?_
     refine X.inline (f := 97) (l := [I3 (IntKind.u32.wrap s9), I6 2, .own 4 0]) (fn := Try.f97) (c := B97) (by kernel_rfl) (by kernel_rfl) Try.func97 (by kernel_rfl) ?_
     intro Q83 M83 hM83 hQ83 fin83
     refine Rn 8 (Qc B97 6) [.blk 0] ⟨20, [(0, I3 (IntKind.u32.wrap s9)), (2, .own 1004 0), (5, I6 1)], [(1004, ⟨22, [VL A81 18 c81]⟩)]⟩ ?_
     refine X.rounds 3 ?_
     refine RX.succ fun J84 hJ84 => ?_
     refine Rn 12 (Qc B97 100) [.blk 1, Qs B97 51, .loop J84, .blk 0] ⟨20, [(0, I3 (IntKind.u32.wrap s9)), (2, .own 1004 0), (5, I6 1), (8, I6 1), (9, VB true)], [(1004, ⟨22, [VL A81 18 c81]⟩)]⟩ ?_
     refine Oh 3 B97 100 9 [⟨some 2, 1004, 22, [VL A81 18 c81]⟩] [] [8] ⟨P1, trivial⟩ Mt (fun ρ0 => ?_)
     refine Td [0, 1, 2, 3, 4, 5] 9 63 3 hQ83 [(12, VL A81 18 c81), (13, I3 (IntKind.u32.wrap s9)), (14, I6 1), (15, I6 8), (16, I3 (bshr .u32 (IntKind.u32.wrap s9) 8)), (17, I8 (IntKind.u8.wrap (bshr .u32 (IntKind.u32.wrap s9) 8)))] ⟨P1, trivial⟩ ?_
     refine Do 6 9 127 B97 100 ?_
     refine Lt 18 5 1 1 [N8 (IntKind.u8.wrap (bshr .u32 (IntKind.u32.wrap s9) 8))] ?_
     intro A86
     refine X.back ⟨⟨P1, trivial⟩, Le.refl _, by kernel_rfl, ?_⟩
     refine Dn ⟨20, [(0, I3 (IntKind.u32.wrap s9)), (2, .own 1004 0), (5, I6 1), (8, I6 1), (9, VB true), (12, VL A81 18 c81), (13, I3 (IntKind.u32.wrap s9)), (14, I6 1), (15, I6 8), (16, I3 (bshr .u32 (IntKind.u32.wrap s9) 8)), (17, I8 (IntKind.u8.wrap (bshr .u32 (IntKind.u32.wrap s9) 8))), (18, VL A86 1 1)], [(1004, ⟨22, [VL A81 18 c81]⟩)]⟩ ⟨P1, trivial⟩ ?_
     refine Do 7 9 255 B97 100 ?_
     refine Ap 19 _ 22 1 (N8 0) (.tmp 12) (.tmp 18) 18 c81 1 1 A81 A86 [N8 (IntKind.u8.wrap (bshr .u32 (IntKind.u32.wrap s9) 8))] (.inl rfl) (by kernel_rfl) (Ar 18 rfl) (Br 18 rfl) (ones (by kernel_rfl)) (by decide) ?_
     intro A87 c87 hc87
     refine Tr [19, 18] ?_
     refine X.back ⟨⟨P1, trivial⟩, Le.refl _, by kernel_rfl, ?_⟩
     refine XD.toE ?_
     refine En ⟨20, [(0, I3 (IntKind.u32.wrap s9)), (2, .own 1004 0), (5, I6 1), (8, I6 1), (9, VB true), (12, VL A81 18 c81), (13, I3 (IntKind.u32.wrap s9)), (14, I6 1), (15, I6 8), (16, I3 (bshr .u32 (IntKind.u32.wrap s9) 8)), (17, I8 (IntKind.u8.wrap (bshr .u32 (IntKind.u32.wrap s9) 8))), (18, VL A86 1 1), (19, VL A87 19 c87)], [(1004, ⟨22, [VL A81 18 c81]⟩)]⟩ ?_
     refine Eo 8 9 511 B97 100 ?_
     refine X.simple (by kernel_rfl) ?_
     refine X.back ?_
     refine XE.done (by kernel_rfl) ?_
     refine Rn 7 (.ex .normal) [.loop J84, .blk 0] ⟨20, [(0, I3 (IntKind.u32.wrap s9)), (2, .own 1004 0), (5, I6 0), (8, I6 1), (9, VB true), (10, I6 1), (11, I6 0), (12, VL A81 18 c81), (13, I3 (IntKind.u32.wrap s9)), (14, I6 1), (15, I6 8), (16, I3 (bshr .u32 (IntKind.u32.wrap s9) 8)), (17, I8 (IntKind.u8.wrap (bshr .u32 (IntKind.u32.wrap s9) 8))), (18, VL A86 1 1), (19, VL A87 19 c87)], [(1004, ⟨22, [VL A87 19 c87]⟩)]⟩ ?_
     refine X.again (hJ84 _ _ _ ?_)
     refine RX.succ fun J88 hJ88 => ?_
     refine Rn 12 (Qc B97 100) [.blk 1, Qs B97 51, .loop J88, .blk 0] ⟨20, [(0, I3 (IntKind.u32.wrap s9)), (2, .own 1004 0), (5, I6 0), (8, I6 0), (9, VB true), (10, I6 1), (11, I6 0), (12, VL A81 18 c81), (13, I3 (IntKind.u32.wrap s9)), (14, I6 1), (15, I6 8), (16, I3 (bshr .u32 (IntKind.u32.wrap s9) 8)), (17, I8 (IntKind.u8.wrap (bshr .u32 (IntKind.u32.wrap s9) 8))), (18, VL A86 1 1), (19, VL A87 19 c87)], [(1004, ⟨22, [VL A87 19 c87]⟩)]⟩ ?_
     refine Oh 3 B97 100 9 [⟨some 2, 1004, 22, [VL A87 19 c87]⟩] [] [8] ⟨P1, trivial⟩ Mt (fun ρ0 => ?_)
     refine Td [0, 1, 2, 3, 4, 5] 9 63 3 hQ83 [(12, VL A87 19 c87), (14, I6 0), (15, I6 0), (16, I3 (bshr .u32 (IntKind.u32.wrap s9) 0)), (17, I8 (IntKind.u8.wrap (bshr .u32 (IntKind.u32.wrap s9) 0)))] ⟨P1, trivial⟩ ?_
     refine Do 6 9 127 B97 100 ?_
     refine Lt 18 5 1 1 [N8 (IntKind.u8.wrap (bshr .u32 (IntKind.u32.wrap s9) 0))] ?_
     intro A90
     refine X.back ⟨⟨P1, trivial⟩, Le.refl _, by kernel_rfl, ?_⟩
     refine Dn ⟨20, [(0, I3 (IntKind.u32.wrap s9)), (2, .own 1004 0), (5, I6 0), (8, I6 0), (9, VB true), (10, I6 1), (11, I6 0), (12, VL A87 19 c87), (13, I3 (IntKind.u32.wrap s9)), (14, I6 0), (15, I6 0), (16, I3 (bshr .u32 (IntKind.u32.wrap s9) 0)), (17, I8 (IntKind.u8.wrap (bshr .u32 (IntKind.u32.wrap s9) 0))), (18, VL A90 1 1), (19, VL A87 19 c87)], [(1004, ⟨22, [VL A87 19 c87]⟩)]⟩ ⟨P1, trivial⟩ ?_
     refine Do 7 9 255 B97 100 ?_
     refine Ap 19 _ 22 1 (N8 0) (.tmp 12) (.tmp 18) 19 c87 1 1 A87 A90 [N8 (IntKind.u8.wrap (bshr .u32 (IntKind.u32.wrap s9) 0))] (.inl rfl) (by kernel_rfl) (Ar 18 rfl) (Br 18 rfl) (ones (by kernel_rfl)) (by decide) ?_
     intro A91 c91 hc91
     refine Tr [19, 18] ?_
     refine X.back ⟨⟨P1, trivial⟩, Le.refl _, by kernel_rfl, ?_⟩
     refine XD.toE ?_
     refine En ⟨20, [(0, I3 (IntKind.u32.wrap s9)), (2, .own 1004 0), (5, I6 0), (8, I6 0), (9, VB true), (10, I6 1), (11, I6 0), (12, VL A87 19 c87), (13, I3 (IntKind.u32.wrap s9)), (14, I6 0), (15, I6 0), (16, I3 (bshr .u32 (IntKind.u32.wrap s9) 0)), (17, I8 (IntKind.u8.wrap (bshr .u32 (IntKind.u32.wrap s9) 0))), (18, VL A90 1 1), (19, VL A91 20 c91)], [(1004, ⟨22, [VL A87 19 c87]⟩)]⟩ ?_
     refine Eo 8 9 511 B97 100 ?_
     refine X.simple (by kernel_rfl) ?_
     refine X.back ?_
     refine XE.done (by kernel_rfl) ?_
     refine Rn 7 (.ex .normal) [.loop J88, .blk 0] ⟨20, [(0, I3 (IntKind.u32.wrap s9)), (2, .own 1004 0), (5, I6 (-1)), (8, I6 0), (9, VB true), (10, I6 0), (11, I6 (-1)), (12, VL A87 19 c87), (13, I3 (IntKind.u32.wrap s9)), (14, I6 0), (15, I6 0), (16, I3 (bshr .u32 (IntKind.u32.wrap s9) 0)), (17, I8 (IntKind.u8.wrap (bshr .u32 (IntKind.u32.wrap s9) 0))), (18, VL A90 1 1), (19, VL A91 20 c91)], [(1004, ⟨22, [VL A91 20 c91]⟩)]⟩ ?_
     refine X.again (hJ88 _ _ _ ?_)
     refine RX.succ fun J92 hJ92 => ?_
     refine Rn 12 (.ex .normal) [] ⟨20, [], [(1004, ⟨22, [VL A91 20 c91]⟩)]⟩ ?_
     refine fin83 _ _ _ _ [] [(4, ⟨22, [VL A91 20 c91]⟩)] (.inr rfl) (by kernel_rfl) (by kernel_rfl) ?_
     refine Rn 10 (.ex .ret) [] ⟨75, [(2, VL A91 20 c91), (3, I6 0)], []⟩ ?_
     refine Dg (.inl rfl) [.slice A91 20 c91, N6 0] [19] rfl (Ge.refl _ _) ?_
     exact ⟨fun _ => ⟨_, _, rfl, by assumption, rfl⟩, fun h => absurd (by omega) h⟩
theorem sh8 {x : Int} (n : Nat) (h0 : 0 ≤ x) (hn : n ≤ 32 := by decide) : IntKind.u8.wrap (bshr .u32 x n) = (x / 2 ^ n) % 256 := by rw [shr_nn h0, u8_wrap, show min n IntKind.u32.bits = n from Nat.min_eq_left hn]
noncomputable def B99 : Code := bodyOf Try.f99
noncomputable def B100 : Code := bodyOf Try.f100
def dec11 (b : List Int) : Value := .agg #[.int .u16 (bor .u16 (bshl .u16 (IntKind.u16.wrap (b.getD 0 0)) 8) (IntKind.u16.wrap (b.getD 1 0))), .int .u16 (bor .u16 (bshl .u16 (IntKind.u16.wrap (b.getD 2 0)) 8) (IntKind.u16.wrap (b.getD 3 0))), .int .u32 (bor .u32 (bshl .u32 (IntKind.u32.wrap (bor .u16 (bshl .u16 (IntKind.u16.wrap (b.getD 4 0)) 8) (IntKind.u16.wrap (b.getD 5 0)))) 16) (IntKind.u32.wrap (bor .u16 (bshl .u16 (IntKind.u16.wrap (b.getD 6 0)) 8) (IntKind.u16.wrap (b.getD 7 0))))), .int .u32 (bor .u32 (bshl .u32 (IntKind.u32.wrap (bor .u16 (bshl .u16 (IntKind.u16.wrap (b.getD 8 0)) 8) (IntKind.u16.wrap (b.getD 9 0)))) 16) (IntKind.u32.wrap (bor .u16 (bshl .u16 (IntKind.u16.wrap (b.getD 10 0)) 8) (IntKind.u16.wrap (b.getD 11 0))))), .int .u8 (bshr .u8 (b.getD 12 0) 4), .int .u8 (bor .u8 (bshl .u8 (band .u8 (b.getD 12 0) 1) 2) (bshr .u8 (b.getD 13 0) 6)), .int .u8 (band .u8 (b.getD 13 0) 63), .int .u16 (bor .u16 (bshl .u16 (IntKind.u16.wrap (b.getD 14 0)) 8) (IntKind.u16.wrap (b.getD 15 0))), .int .u16 (bor .u16 (bshl .u16 (IntKind.u16.wrap (b.getD 16 0)) 8) (IntKind.u16.wrap (b.getD 17 0))), .int .u16 (bor .u16 (bshl .u16 (IntKind.u16.wrap (b.getD 18 0)) 8) (IntKind.u16.wrap (b.getD 19 0)))]
noncomputable def B38 : Code := bodyOf Try.f38
set_option maxHeartbeats 4000000 in
theorem Dec11_ok (A : Option Addr) (c : Nat) (b : List Int) (G : Mem) (hb : rowAt (D.int .u8) G A b) (hle : b.length ≤ c) : CallsG Try.prog 38 [.slice A b.length c] G (fun _ v rows => (b.length < 20 → v = .tuple #[.agg #[.int .u16 0, .int .u16 0, .int .u32 0, .int .u32 0, .int .u8 0, .int .u8 0, .int .u8 0, .int .u16 0, .int .u16 0, .int .u16 0], .int .i64 3]) ∧ (20 ≤ b.length ∧ (bshr .u8 (b.getD 12 0) 4 < 5 ∨ band .u8 (bshr .u8 (b.getD 12 0) 1) 7 ≠ 0) → v = .tuple #[.agg #[.int .u16 0, .int .u16 0, .int .u32 0, .int .u32 0, .int .u8 0, .int .u8 0, .int .u8 0, .int .u16 0, .int .u16 0, .int .u16 0], .int .i64 5]) ∧ (20 ≤ b.length ∧ ¬ (bshr .u8 (b.getD 12 0) 4 < 5 ∨ band .u8 (bshr .u8 (b.getD 12 0) 1) 7 ≠ 0) → v = .tuple #[dec11 b, .int .i64 0]) ∧ rows = []) := by
 refine CallsG.enter Try.func38 rfl rfl ?_
 intro w
 refine Rn 17 (Qc B38 25) [.blk 0, Qs B38 7] ⟨61, [(1, .own 1 0), (2, .own 2 0), (3, I6 0), (6, VB (decide ((b.length : Int) < 20)))], [(1, ⟨22, [VL A b.length c]⟩), (2, ⟨31, [I1 0, I1 0, I3 0, I3 0, I8 0, I8 0, I8 0, I1 0, I1 0, I1 0]⟩)]⟩ ?_
 refine Sd 6 rfl ?_ ?_ <;> intro h1
 ·
  refine Rb 11 (.ex .ret) 2 [] [(3, I6 3)] [1, 6] [] [1] ?_
  refine Dg (.inl rfl) [.agg #[N1 0, N1 0, N3 0, N3 0, N8 0, N8 0, N8 0, N1 0, N1 0, N1 0], N6 3] [] rfl (Ge.refl _ _) ?_
  exact ⟨fun _ => rfl, fun h => absurd h.1 (by omega), fun h => absurd h.1 (by omega), rfl⟩
 ·
  refine Rc 4 (Qo B38 102 1) 0 [Qs B38 103] [(12, VL A b.length c)] [6] ?_
  refine Ix 22 5 1 A b.length c .i64 12 (.tmp 12) (.const (N6 12)) (by omega) (by omega) (fun _ _ => rowAt.so hb (by omega)) ?_
  obtain ⟨at4, lo4, hi4⟩ := At.int [] hb 12 (by omega)
  simp only [IntKind.lo, IntKind.hi] at lo4 hi4
  refine Ra 0 (Qo B38 102 2) 0 [] [(13, .v (elt A (12 * 1)))] ?_
  refine Ld 5 A (12 * 1) (.tmp 13) (N8 (b.getD 12 0)) [N8 (b.getD 12 0)] at4 ?_
  refine Ra 3 (Qo B38 102 6) 0 [] [(17, VB (decide (bshr .u8 (b.getD 12 0) 4 < 5)))] ?_
  refine Sd 17 rfl ?_ ?_ <;> intro h5
  ·
   refine Rb 21 (.ex .ret) 3 [] [(3, I6 5)] [1, 17] [] [1] ?_
   refine Dg (.inl rfl) [.agg #[N1 0, N1 0, N3 0, N3 0, N8 0, N8 0, N8 0, N1 0, N1 0, N1 0], N6 5] [] rfl (Ge.refl _ _) ?_
   exact ⟨fun h => absurd h (by omega), fun _ => rfl, fun h => False.elim (h.2 (by first | exact .inl (by assumption) | exact .inr (by assumption))), rfl⟩
  ·
   refine Ra 1 (Qo B38 102 7) 0 [] [(17, VB false), (18, VL A b.length c)] ?_
   refine Ix 22 5 1 A b.length c .i64 12 (.tmp 18) (.const (N6 12)) (by omega) (by omega) (fun _ _ => rowAt.so hb (by omega)) ?_
   obtain ⟨at8, lo8, hi8⟩ := At.int [] hb 12 (by omega)
   simp only [IntKind.lo, IntKind.hi] at lo8 hi8
   refine Ra 0 (Qo B38 102 8) 0 [] [(19, .v (elt A (12 * 1)))] ?_
   refine Ld 5 A (12 * 1) (.tmp 19) (N8 (b.getD 12 0)) [N8 (b.getD 12 0)] at8 ?_
   refine Ra 7 (Qc B38 103) 1 [] [(11, VB ((band .u8 (bshr .u8 (b.getD 12 0) 1) 7) != 0))] ?_
   refine Sn 11 rfl ?_ ?_ <;> intro h9
   ·
    refine Rb 11 (.ex .ret) 2 [] [(3, I6 5)] [1, 11] [] [1] ?_
    refine Dg (.inl rfl) [.agg #[N1 0, N1 0, N3 0, N3 0, N8 0, N8 0, N8 0, N1 0, N1 0, N1 0], N6 5] [] rfl (Ge.refl _ _) ?_
    exact ⟨fun h => absurd h (by omega), fun _ => rfl, fun h => False.elim (h.2 (by first | exact .inl (by assumption) | exact .inr (by assumption))), rfl⟩
   ·
    refine Rb 18 (Qc B38 62) 2 [Qs B38 63] [(4, .own 4 0), (5, .fn 100 [(4, 0)])] [11] [(4, ⟨141, [.fn 99 [(1, 0)]]⟩)] [] ?_
    have hb_d10 := hb
    refine Oh 7 B38 62 35 [⟨some 1, 1, 22, [VL A b.length c]⟩, ⟨some 4, 4, 141, [.fn 99 [(1, 0)]]⟩] [] [] ⟨P1, P1, trivial⟩ Mt (fun ρ0 => ?_)
    refine Tk 0 35 1 B38 62 (.fn 99 [(1, 0)]) QOk.ctxG ?_
    refine Tk 2 35 5 B38 62 (.fn 99 [(1, 0)]) QOk.ctxG ?_
    refine Tk 4 35 21 B38 62 (.fn 100 [(4, 0)]) QOk.ctxG ?_
    refine Tk 6 35 85 B38 62 (.fn 100 [(4, 0)]) QOk.ctxG ?_
    refine Tk 8 35 341 B38 62 (VL A b.length c) QOk.ctxG ?_
    have b11 : (0 : Int) ≤ 12 := by omega
    have b12 : 12 < ((b.length : Nat) : Int) := by omega
    obtain ⟨at13, lo13, hi13⟩ := At.int [] hb_d10 12 (by omega)
    simp only [IntKind.lo, IntKind.hi] at lo13 hi13
    refine Dx 9 35 853 B38 62 22 5 1 A b.length c .i64 12 (.tmp 36) (.const (N6 12)) QOk.ctxG b11 b12 (fun _ _ => rowAt.so hb_d10 (by omega)) ?_
    refine Dl 10 35 1877 B38 62 5 A (12 * 1) (.tmp 37) (N8 (b.getD 12 0)) [N8 (b.getD 12 0)] QOk.ctxG at13 ?_
    refine Tk 11 35 3925 B38 62 (I8 (bshr .u8 (b.getD 12 0) 4)) QOk.ctxG ?_
    refine Tk 12 35 8021 B38 62 (VL A b.length c) QOk.ctxG ?_
    have b14 : (0 : Int) ≤ 12 := by omega
    have b15 : 12 < ((b.length : Nat) : Int) := by omega
    obtain ⟨at16, lo16, hi16⟩ := At.int [] hb_d10 12 (by omega)
    simp only [IntKind.lo, IntKind.hi] at lo16 hi16
    refine Dx 13 35 16213 B38 62 22 5 1 A b.length c .i64 12 (.tmp 40) (.const (N6 12)) QOk.ctxG b14 b15 (fun _ _ => rowAt.so hb_d10 (by omega)) ?_
    refine Dl 14 35 32597 B38 62 5 A (12 * 1) (.tmp 41) (N8 (b.getD 12 0)) [N8 (b.getD 12 0)] QOk.ctxG at16 ?_
    refine Tk 15 35 65365 B38 62 (I8 (band .u8 (b.getD 12 0) 1)) QOk.ctxG ?_
    refine Tk 16 35 130901 B38 62 (I8 (bshl .u8 (band .u8 (b.getD 12 0) 1) 2)) QOk.ctxG ?_
    refine Tk 17 35 261973 B38 62 (VL A b.length c) QOk.ctxG ?_
    have b17 : (0 : Int) ≤ 13 := by omega
    have b18 : 13 < ((b.length : Nat) : Int) := by omega
    obtain ⟨at19, lo19, hi19⟩ := At.int [] hb_d10 13 (by omega)
    simp only [IntKind.lo, IntKind.hi] at lo19 hi19
    refine Dx 18 35 524117 B38 62 22 5 1 A b.length c .i64 13 (.tmp 45) (.const (N6 13)) QOk.ctxG b17 b18 (fun _ _ => rowAt.so hb_d10 (by omega)) ?_
    refine Dl 19 35 1048405 B38 62 5 A (13 * 1) (.tmp 46) (N8 (b.getD 13 0)) [N8 (b.getD 13 0)] QOk.ctxG at19 ?_
    refine Tk 20 35 2096981 B38 62 (I8 (bshr .u8 (b.getD 13 0) 6)) QOk.ctxG ?_
    refine Tk 21 35 4194133 B38 62 (I8 (bor .u8 (bshl .u8 (band .u8 (b.getD 12 0) 1) 2) (bshr .u8 (b.getD 13 0) 6))) QOk.ctxG ?_
    refine Tk 22 35 8388437 B38 62 (VL A b.length c) QOk.ctxG ?_
    have b20 : (0 : Int) ≤ 13 := by omega
    have b21 : 13 < ((b.length : Nat) : Int) := by omega
    obtain ⟨at22, lo22, hi22⟩ := At.int [] hb_d10 13 (by omega)
    simp only [IntKind.lo, IntKind.hi] at lo22 hi22
    refine Dx 23 35 16777045 B38 62 22 5 1 A b.length c .i64 13 (.tmp 50) (.const (N6 13)) QOk.ctxG b20 b21 (fun _ _ => rowAt.so hb_d10 (by omega)) ?_
    refine Dl 24 35 33554261 B38 62 5 A (13 * 1) (.tmp 51) (N8 (b.getD 13 0)) [N8 (b.getD 13 0)] QOk.ctxG at22 ?_
    refine Td [25, 26, 28, 30] 35 1476394837 10 QOk.ctxG [(28, .fn 99 [(1, 0)]), (30, .fn 99 [(1, 0)]), (32, .fn 100 [(4, 0)]), (34, .fn 100 [(4, 0)]), (39, I8 (bshr .u8 (b.getD 12 0) 4)), (49, I8 (bor .u8 (bshl .u8 (band .u8 (b.getD 12 0) 1) 2) (bshr .u8 (b.getD 13 0) 6))), (53, I8 (band .u8 (b.getD 13 0) 63)), (54, .fn 99 [(1, 0)]), (56, .fn 99 [(1, 0)]), (58, .fn 99 [(1, 0)])] ⟨P1, P1, trivial⟩ ?_
    refine Do 1 35 1476394839 B38 62 ?_
    refine X.inline (f := 99) (l := [I6 0, .own 1 0]) (fn := Try.f99) (c := B99) (by kernel_rfl) (by kernel_rfl) Try.func99 (by kernel_rfl) ?_
    intro Q23 M23 hM23 hQ23 fin23
    refine Ra 6 (Qc B99 6) 0 [Qs B99 7] [(3, I1 0)] ?_
    have hb_d24 := hb
    refine Oh 1 B99 6 14 [⟨some 1, 1001, 22, [VL A b.length c]⟩] [] [] ⟨P1, trivial⟩ Mt (fun ρ0 => ?_)
    refine Tk 0 14 1 B99 6 (VL A b.length c) hQ23 ?_
    refine Tk 1 14 3 B99 6 (I6 0) hQ23 ?_
    have b25 : (0 : Int) ≤ 0 := by omega
    have b26 : 0 < ((b.length : Nat) : Int) := by omega
    obtain ⟨at27, lo27, hi27⟩ := At.int [] hb_d24 0 (by omega)
    simp only [IntKind.lo, IntKind.hi] at lo27 hi27
    refine Dx 2 14 7 B99 6 22 5 1 A b.length c .i64 0 (.tmp 4) (.tmp 5) hQ23 b25 b26 (fun _ _ => rowAt.so hb_d24 (by omega)) ?_
    refine Dl 3 14 15 B99 6 5 A (0 * 1) (.tmp 6) (N8 (b.getD 0 0)) [N8 (b.getD 0 0)] hQ23 at27 ?_
    refine Tk 4 14 31 B99 6 (I1 (IntKind.u16.wrap (b.getD 0 0))) hQ23 ?_
    refine Tk 5 14 63 B99 6 (I1 (bshl .u16 (IntKind.u16.wrap (b.getD 0 0)) 8)) hQ23 ?_
    refine Tk 6 14 127 B99 6 (VL A b.length c) hQ23 ?_
    refine Tk 7 14 255 B99 6 (I6 0) hQ23 ?_
    refine Tk 8 14 511 B99 6 (I6 1) hQ23 ?_
    have b28 : (0 : Int) ≤ 1 := by omega
    have b29 : 1 < ((b.length : Nat) : Int) := by omega
    obtain ⟨at30, lo30, hi30⟩ := At.int [] hb_d24 1 (by omega)
    simp only [IntKind.lo, IntKind.hi] at lo30 hi30
    refine Dx 9 14 1023 B99 6 22 5 1 A b.length c .i64 1 (.tmp 10) (.tmp 12) hQ23 b28 b29 (fun _ _ => rowAt.so hb_d24 (by omega)) ?_
    refine Dl 10 14 2047 B99 6 5 A (1 * 1) (.tmp 13) (N8 (b.getD 1 0)) [N8 (b.getD 1 0)] hQ23 at30 ?_
    refine Ts [11, 12, 13] 14 16383 0 3 hQ23 ?_
    refine XD.done (by kernel_rfl) ?_
    refine Rn 2 (.ex .ret) [] ⟨17, [(3, I1 (bor .u16 (bshl .u16 (IntKind.u16.wrap (b.getD 0 0)) 8) (IntKind.u16.wrap (b.getD 1 0))))], [(1001, ⟨22, [VL A b.length c]⟩), (1002, ⟨31, [I1 0, I1 0, I3 0, I3 0, I8 0, I8 0, I8 0, I1 0, I1 0, I1 0]⟩), (1004, ⟨141, [.fn 99 [(1001, 0)]]⟩)]⟩ ?_
    refine fin23 _ _ _ _ [N1 (bor .u16 (bshl .u16 (IntKind.u16.wrap (b.getD 0 0)) 8) (IntKind.u16.wrap (b.getD 1 0)))] [(1, ⟨22, [VL A b.length c]⟩), (2, ⟨31, [I1 0, I1 0, I3 0, I3 0, I8 0, I8 0, I8 0, I1 0, I1 0, I1 0]⟩), (4, ⟨141, [.fn 99 [(1, 0)]]⟩)] (.inl rfl) (by kernel_rfl) (by kernel_rfl) ?_
    refine X.back ⟨⟨P1, P1, trivial⟩, Le.refl _, by kernel_rfl, ?_⟩
    refine Dn ⟨61, [(1, .own 1 0), (2, .own 2 0), (3, I6 0), (4, .own 4 0), (29, I1 (bor .u16 (bshl .u16 (IntKind.u16.wrap (b.getD 0 0)) 8) (IntKind.u16.wrap (b.getD 1 0)))), (30, .fn 99 [(1, 0)]), (32, .fn 100 [(4, 0)]), (34, .fn 100 [(4, 0)]), (39, I8 (bshr .u8 (b.getD 12 0) 4)), (49, I8 (bor .u8 (bshl .u8 (band .u8 (b.getD 12 0) 1) 2) (bshr .u8 (b.getD 13 0) 6))), (53, I8 (band .u8 (b.getD 13 0) 63)), (54, .fn 99 [(1, 0)]), (56, .fn 99 [(1, 0)]), (58, .fn 99 [(1, 0)])], [(1, ⟨22, [VL A b.length c]⟩), (2, ⟨31, [I1 0, I1 0, I3 0, I3 0, I8 0, I8 0, I8 0, I1 0, I1 0, I1 0]⟩), (4, ⟨141, [.fn 99 [(1, 0)]]⟩)]⟩ ⟨P1, P1, trivial⟩ ?_
    refine Do 3 35 1476394847 B38 62 ?_
    refine X.inline (f := 99) (l := [I6 2, .own 1 0]) (fn := Try.f99) (c := B99) (by kernel_rfl) (by kernel_rfl) Try.func99 (by kernel_rfl) ?_
    intro Q31 M31 hM31 hQ31 fin31
    refine Ra 6 (Qc B99 6) 0 [Qs B99 7] [(3, I1 0)] ?_
    have hb_d32 := hb
    refine Oh 1 B99 6 14 [⟨some 1, 1001, 22, [VL A b.length c]⟩] [] [] ⟨P1, trivial⟩ Mt (fun ρ0 => ?_)
    refine Tk 0 14 1 B99 6 (VL A b.length c) hQ31 ?_
    refine Tk 1 14 3 B99 6 (I6 2) hQ31 ?_
    have b33 : (0 : Int) ≤ 2 := by omega
    have b34 : 2 < ((b.length : Nat) : Int) := by omega
    obtain ⟨at35, lo35, hi35⟩ := At.int [] hb_d32 2 (by omega)
    simp only [IntKind.lo, IntKind.hi] at lo35 hi35
    refine Dx 2 14 7 B99 6 22 5 1 A b.length c .i64 2 (.tmp 4) (.tmp 5) hQ31 b33 b34 (fun _ _ => rowAt.so hb_d32 (by omega)) ?_
    refine Dl 3 14 15 B99 6 5 A (2 * 1) (.tmp 6) (N8 (b.getD 2 0)) [N8 (b.getD 2 0)] hQ31 at35 ?_
    refine Tk 4 14 31 B99 6 (I1 (IntKind.u16.wrap (b.getD 2 0))) hQ31 ?_
    refine Tk 5 14 63 B99 6 (I1 (bshl .u16 (IntKind.u16.wrap (b.getD 2 0)) 8)) hQ31 ?_
    refine Tk 6 14 127 B99 6 (VL A b.length c) hQ31 ?_
    refine Tk 7 14 255 B99 6 (I6 2) hQ31 ?_
    refine Tk 8 14 511 B99 6 (I6 3) hQ31 ?_
    have b36 : (0 : Int) ≤ 3 := by omega
    have b37 : 3 < ((b.length : Nat) : Int) := by omega
    obtain ⟨at38, lo38, hi38⟩ := At.int [] hb_d32 3 (by omega)
    simp only [IntKind.lo, IntKind.hi] at lo38 hi38
    refine Dx 9 14 1023 B99 6 22 5 1 A b.length c .i64 3 (.tmp 10) (.tmp 12) hQ31 b36 b37 (fun _ _ => rowAt.so hb_d32 (by omega)) ?_
    refine Dl 10 14 2047 B99 6 5 A (3 * 1) (.tmp 13) (N8 (b.getD 3 0)) [N8 (b.getD 3 0)] hQ31 at38 ?_
    refine Ts [11, 12, 13] 14 16383 0 3 hQ31 ?_
    refine XD.done (by kernel_rfl) ?_
    refine Rn 2 (.ex .ret) [] ⟨17, [(3, I1 (bor .u16 (bshl .u16 (IntKind.u16.wrap (b.getD 2 0)) 8) (IntKind.u16.wrap (b.getD 3 0))))], [(1001, ⟨22, [VL A b.length c]⟩), (1002, ⟨31, [I1 0, I1 0, I3 0, I3 0, I8 0, I8 0, I8 0, I1 0, I1 0, I1 0]⟩), (1004, ⟨141, [.fn 99 [(1001, 0)]]⟩)]⟩ ?_
    refine fin31 _ _ _ _ [N1 (bor .u16 (bshl .u16 (IntKind.u16.wrap (b.getD 2 0)) 8) (IntKind.u16.wrap (b.getD 3 0)))] [(1, ⟨22, [VL A b.length c]⟩), (2, ⟨31, [I1 0, I1 0, I3 0, I3 0, I8 0, I8 0, I8 0, I1 0, I1 0, I1 0]⟩), (4, ⟨141, [.fn 99 [(1, 0)]]⟩)] (.inl rfl) (by kernel_rfl) (by kernel_rfl) ?_
    refine X.back ⟨⟨P1, P1, trivial⟩, Le.refl _, by kernel_rfl, ?_⟩
    refine Do 5 35 1476394879 B38 62 ?_
    refine X.inline (f := 100) (l := [I6 4, .own 4 0]) (fn := Try.f100) (c := B100) (by kernel_rfl) (by kernel_rfl) Try.func100 (by kernel_rfl) ?_
    intro Q39 M39 hM39 hQ39 fin39
    refine Ra 6 (Qc B100 6) 0 [Qs B100 7] [(3, I3 0)] ?_
    have hb_d40 := hb
    refine Og 1 B100 6 12 [⟨some 1, 1004, 141, [.fn 99 [(1001, 0)]]⟩, ⟨none, 1001, 22, [VL A b.length c]⟩] [] [] ⟨P1, ⟨fun _ h => (by cases h), rfl⟩, trivial⟩ (by intro p hp hn; simp only [List.mem_cons, List.not_mem_nil, or_false] at hp; rcases hp with rfl | rfl <;> first | (cases hn; done) | exact hM39 _ (Nat.le_of_ble_eq_true rfl)) (fun ρ0 => ?_)
    refine Td [0, 1, 5, 6, 7] 12 227 7 hQ39 [(4, .fn 99 [(1001, 0)]), (5, I6 4), (9, .fn 99 [(1001, 0)]), (11, I6 6)] ⟨P1, ⟨fun _ h => (by cases h), rfl⟩, trivial⟩ ?_
    refine Do 2 12 231 B100 6 ?_
    refine X.inline (f := 99) (l := [I6 4, .own 1001 0]) (fn := Try.f99) (c := B99) (by kernel_rfl) (by kernel_rfl) Try.func99 (by kernel_rfl) ?_
    intro Q41 M41 hM41 hQ41 fin41
    refine Ra 6 (Qc B99 6) 0 [Qs B99 7] [(3, I1 0)] ?_
    have hb_d42 := hb
    refine Oh 1 B99 6 14 [⟨some 1, 2001, 22, [VL A b.length c]⟩] [] [] ⟨P1, trivial⟩ Mt (fun ρ0 => ?_)
    refine Tk 0 14 1 B99 6 (VL A b.length c) hQ41 ?_
    refine Tk 1 14 3 B99 6 (I6 4) hQ41 ?_
    have b43 : (0 : Int) ≤ 4 := by omega
    have b44 : 4 < ((b.length : Nat) : Int) := by omega
    obtain ⟨at45, lo45, hi45⟩ := At.int [] hb_d42 4 (by omega)
    simp only [IntKind.lo, IntKind.hi] at lo45 hi45
    refine Dx 2 14 7 B99 6 22 5 1 A b.length c .i64 4 (.tmp 4) (.tmp 5) hQ41 b43 b44 (fun _ _ => rowAt.so hb_d42 (by omega)) ?_
    refine Dl 3 14 15 B99 6 5 A (4 * 1) (.tmp 6) (N8 (b.getD 4 0)) [N8 (b.getD 4 0)] hQ41 at45 ?_
    refine Tk 4 14 31 B99 6 (I1 (IntKind.u16.wrap (b.getD 4 0))) hQ41 ?_
    refine Tk 5 14 63 B99 6 (I1 (bshl .u16 (IntKind.u16.wrap (b.getD 4 0)) 8)) hQ41 ?_
    refine Tk 6 14 127 B99 6 (VL A b.length c) hQ41 ?_
    refine Tk 7 14 255 B99 6 (I6 4) hQ41 ?_
    refine Tk 8 14 511 B99 6 (I6 5) hQ41 ?_
    have b46 : (0 : Int) ≤ 5 := by omega
    have b47 : 5 < ((b.length : Nat) : Int) := by omega
    obtain ⟨at48, lo48, hi48⟩ := At.int [] hb_d42 5 (by omega)
    simp only [IntKind.lo, IntKind.hi] at lo48 hi48
    refine Dx 9 14 1023 B99 6 22 5 1 A b.length c .i64 5 (.tmp 10) (.tmp 12) hQ41 b46 b47 (fun _ _ => rowAt.so hb_d42 (by omega)) ?_
    refine Dl 10 14 2047 B99 6 5 A (5 * 1) (.tmp 13) (N8 (b.getD 5 0)) [N8 (b.getD 5 0)] hQ41 at48 ?_
    refine Ts [11, 12, 13] 14 16383 0 3 hQ41 ?_
    refine XD.done (by kernel_rfl) ?_
    refine Rn 2 (.ex .ret) [] ⟨17, [(3, I1 (bor .u16 (bshl .u16 (IntKind.u16.wrap (b.getD 4 0)) 8) (IntKind.u16.wrap (b.getD 5 0))))], [(2001, ⟨22, [VL A b.length c]⟩), (2002, ⟨31, [I1 0, I1 0, I3 0, I3 0, I8 0, I8 0, I8 0, I1 0, I1 0, I1 0]⟩), (2004, ⟨141, [.fn 99 [(2001, 0)]]⟩)]⟩ ?_
    refine fin41 _ _ _ _ [N1 (bor .u16 (bshl .u16 (IntKind.u16.wrap (b.getD 4 0)) 8) (IntKind.u16.wrap (b.getD 5 0)))] [(1001, ⟨22, [VL A b.length c]⟩), (1002, ⟨31, [I1 0, I1 0, I3 0, I3 0, I8 0, I8 0, I8 0, I1 0, I1 0, I1 0]⟩), (1004, ⟨141, [.fn 99 [(1001, 0)]]⟩)] (.inl rfl) (by kernel_rfl) (by kernel_rfl) ?_
    refine X.back ⟨⟨P1, ⟨fun _ h => (by cases h), rfl⟩, trivial⟩, Le.refl _, by kernel_rfl, ?_⟩
    refine Td [3, 4] 12 255 4 hQ39 [(8, I3 (bshl .u32 (IntKind.u32.wrap (bor .u16 (bshl .u16 (IntKind.u16.wrap (b.getD 4 0)) 8) (IntKind.u16.wrap (b.getD 5 0)))) 16))] ⟨P1, ⟨fun _ h => (by cases h), rfl⟩, trivial⟩ ?_
    refine Do 8 12 511 B100 6 ?_
    refine X.inline (f := 99) (l := [I6 6, .own 1001 0]) (fn := Try.f99) (c := B99) (by kernel_rfl) (by kernel_rfl) Try.func99 (by kernel_rfl) ?_
    intro Q49 M49 hM49 hQ49 fin49
    refine Ra 6 (Qc B99 6) 0 [Qs B99 7] [(3, I1 0)] ?_
    have hb_d50 := hb
    refine Oh 1 B99 6 14 [⟨some 1, 2001, 22, [VL A b.length c]⟩] [] [] ⟨P1, trivial⟩ Mt (fun ρ0 => ?_)
    refine Tk 0 14 1 B99 6 (VL A b.length c) hQ49 ?_
    refine Tk 1 14 3 B99 6 (I6 6) hQ49 ?_
    have b51 : (0 : Int) ≤ 6 := by omega
    have b52 : 6 < ((b.length : Nat) : Int) := by omega
    obtain ⟨at53, lo53, hi53⟩ := At.int [] hb_d50 6 (by omega)
    simp only [IntKind.lo, IntKind.hi] at lo53 hi53
    refine Dx 2 14 7 B99 6 22 5 1 A b.length c .i64 6 (.tmp 4) (.tmp 5) hQ49 b51 b52 (fun _ _ => rowAt.so hb_d50 (by omega)) ?_
    refine Dl 3 14 15 B99 6 5 A (6 * 1) (.tmp 6) (N8 (b.getD 6 0)) [N8 (b.getD 6 0)] hQ49 at53 ?_
    refine Tk 4 14 31 B99 6 (I1 (IntKind.u16.wrap (b.getD 6 0))) hQ49 ?_
    refine Tk 5 14 63 B99 6 (I1 (bshl .u16 (IntKind.u16.wrap (b.getD 6 0)) 8)) hQ49 ?_
    refine Tk 6 14 127 B99 6 (VL A b.length c) hQ49 ?_
    refine Tk 7 14 255 B99 6 (I6 6) hQ49 ?_
    refine Tk 8 14 511 B99 6 (I6 7) hQ49 ?_
    have b54 : (0 : Int) ≤ 7 := by omega
    have b55 : 7 < ((b.length : Nat) : Int) := by omega
    obtain ⟨at56, lo56, hi56⟩ := At.int [] hb_d50 7 (by omega)
    simp only [IntKind.lo, IntKind.hi] at lo56 hi56
    refine Dx 9 14 1023 B99 6 22 5 1 A b.length c .i64 7 (.tmp 10) (.tmp 12) hQ49 b54 b55 (fun _ _ => rowAt.so hb_d50 (by omega)) ?_
    refine Dl 10 14 2047 B99 6 5 A (7 * 1) (.tmp 13) (N8 (b.getD 7 0)) [N8 (b.getD 7 0)] hQ49 at56 ?_
    refine Ts [11, 12, 13] 14 16383 0 3 hQ49 ?_
    refine XD.done (by kernel_rfl) ?_
    refine Rn 2 (.ex .ret) [] ⟨17, [(3, I1 (bor .u16 (bshl .u16 (IntKind.u16.wrap (b.getD 6 0)) 8) (IntKind.u16.wrap (b.getD 7 0))))], [(2001, ⟨22, [VL A b.length c]⟩), (2002, ⟨31, [I1 0, I1 0, I3 0, I3 0, I8 0, I8 0, I8 0, I1 0, I1 0, I1 0]⟩), (2004, ⟨141, [.fn 99 [(2001, 0)]]⟩)]⟩ ?_
    refine fin49 _ _ _ _ [N1 (bor .u16 (bshl .u16 (IntKind.u16.wrap (b.getD 6 0)) 8) (IntKind.u16.wrap (b.getD 7 0)))] [(1001, ⟨22, [VL A b.length c]⟩), (1002, ⟨31, [I1 0, I1 0, I3 0, I3 0, I8 0, I8 0, I8 0, I1 0, I1 0, I1 0]⟩), (1004, ⟨141, [.fn 99 [(1001, 0)]]⟩)] (.inl rfl) (by kernel_rfl) (by kernel_rfl) ?_
    refine X.back ⟨⟨P1, ⟨fun _ h => (by cases h), rfl⟩, trivial⟩, Le.refl _, by kernel_rfl, ?_⟩
    refine Ts [9, 10, 11] 12 4095 0 3 hQ39 ?_
    refine XD.done (by kernel_rfl) ?_
    refine Rn 2 (.ex .ret) [] ⟨15, [(3, I3 (bor .u32 (bshl .u32 (IntKind.u32.wrap (bor .u16 (bshl .u16 (IntKind.u16.wrap (b.getD 4 0)) 8) (IntKind.u16.wrap (b.getD 5 0)))) 16) (IntKind.u32.wrap (bor .u16 (bshl .u16 (IntKind.u16.wrap (b.getD 6 0)) 8) (IntKind.u16.wrap (b.getD 7 0))))))], [(1001, ⟨22, [VL A b.length c]⟩), (1002, ⟨31, [I1 0, I1 0, I3 0, I3 0, I8 0, I8 0, I8 0, I1 0, I1 0, I1 0]⟩), (1004, ⟨141, [.fn 99 [(1001, 0)]]⟩)]⟩ ?_
    refine fin39 _ _ _ _ [N3 (bor .u32 (bshl .u32 (IntKind.u32.wrap (bor .u16 (bshl .u16 (IntKind.u16.wrap (b.getD 4 0)) 8) (IntKind.u16.wrap (b.getD 5 0)))) 16) (IntKind.u32.wrap (bor .u16 (bshl .u16 (IntKind.u16.wrap (b.getD 6 0)) 8) (IntKind.u16.wrap (b.getD 7 0)))))] [(1, ⟨22, [VL A b.length c]⟩), (2, ⟨31, [I1 0, I1 0, I3 0, I3 0, I8 0, I8 0, I8 0, I1 0, I1 0, I1 0]⟩), (4, ⟨141, [.fn 99 [(1, 0)]]⟩)] (.inl rfl) (by kernel_rfl) (by kernel_rfl) ?_
    refine X.back ⟨⟨P1, P1, trivial⟩, Le.refl _, by kernel_rfl, ?_⟩
    refine Do 7 35 1476395007 B38 62 ?_
    refine X.inline (f := 100) (l := [I6 8, .own 4 0]) (fn := Try.f100) (c := B100) (by kernel_rfl) (by kernel_rfl) Try.func100 (by kernel_rfl) ?_
    intro Q57 M57 hM57 hQ57 fin57
    refine Ra 6 (Qc B100 6) 0 [Qs B100 7] [(3, I3 0)] ?_
    have hb_d58 := hb
    refine Og 1 B100 6 12 [⟨some 1, 1004, 141, [.fn 99 [(1001, 0)]]⟩, ⟨none, 1001, 22, [VL A b.length c]⟩] [] [] ⟨P1, ⟨fun _ h => (by cases h), rfl⟩, trivial⟩ (by intro p hp hn; simp only [List.mem_cons, List.not_mem_nil, or_false] at hp; rcases hp with rfl | rfl <;> first | (cases hn; done) | exact hM57 _ (Nat.le_of_ble_eq_true rfl)) (fun ρ0 => ?_)
    refine Td [0, 1, 5, 6, 7] 12 227 7 hQ57 [(4, .fn 99 [(1001, 0)]), (5, I6 8), (9, .fn 99 [(1001, 0)]), (11, I6 10)] ⟨P1, ⟨fun _ h => (by cases h), rfl⟩, trivial⟩ ?_
    refine Do 2 12 231 B100 6 ?_
    refine X.inline (f := 99) (l := [I6 8, .own 1001 0]) (fn := Try.f99) (c := B99) (by kernel_rfl) (by kernel_rfl) Try.func99 (by kernel_rfl) ?_
    intro Q59 M59 hM59 hQ59 fin59
    refine Ra 6 (Qc B99 6) 0 [Qs B99 7] [(3, I1 0)] ?_
    have hb_d60 := hb
    refine Oh 1 B99 6 14 [⟨some 1, 2001, 22, [VL A b.length c]⟩] [] [] ⟨P1, trivial⟩ Mt (fun ρ0 => ?_)
    refine Tk 0 14 1 B99 6 (VL A b.length c) hQ59 ?_
    refine Tk 1 14 3 B99 6 (I6 8) hQ59 ?_
    have b61 : (0 : Int) ≤ 8 := by omega
    have b62 : 8 < ((b.length : Nat) : Int) := by omega
    obtain ⟨at63, lo63, hi63⟩ := At.int [] hb_d60 8 (by omega)
    simp only [IntKind.lo, IntKind.hi] at lo63 hi63
    refine Dx 2 14 7 B99 6 22 5 1 A b.length c .i64 8 (.tmp 4) (.tmp 5) hQ59 b61 b62 (fun _ _ => rowAt.so hb_d60 (by omega)) ?_
    refine Dl 3 14 15 B99 6 5 A (8 * 1) (.tmp 6) (N8 (b.getD 8 0)) [N8 (b.getD 8 0)] hQ59 at63 ?_
    refine Tk 4 14 31 B99 6 (I1 (IntKind.u16.wrap (b.getD 8 0))) hQ59 ?_
    refine Tk 5 14 63 B99 6 (I1 (bshl .u16 (IntKind.u16.wrap (b.getD 8 0)) 8)) hQ59 ?_
    refine Tk 6 14 127 B99 6 (VL A b.length c) hQ59 ?_
    refine Tk 7 14 255 B99 6 (I6 8) hQ59 ?_
    refine Tk 8 14 511 B99 6 (I6 9) hQ59 ?_
    have b64 : (0 : Int) ≤ 9 := by omega
    have b65 : 9 < ((b.length : Nat) : Int) := by omega
    obtain ⟨at66, lo66, hi66⟩ := At.int [] hb_d60 9 (by omega)
    simp only [IntKind.lo, IntKind.hi] at lo66 hi66
    refine Dx 9 14 1023 B99 6 22 5 1 A b.length c .i64 9 (.tmp 10) (.tmp 12) hQ59 b64 b65 (fun _ _ => rowAt.so hb_d60 (by omega)) ?_
    refine Dl 10 14 2047 B99 6 5 A (9 * 1) (.tmp 13) (N8 (b.getD 9 0)) [N8 (b.getD 9 0)] hQ59 at66 ?_
    refine Ts [11, 12, 13] 14 16383 0 3 hQ59 ?_
    refine XD.done (by kernel_rfl) ?_
    refine Rn 2 (.ex .ret) [] ⟨17, [(3, I1 (bor .u16 (bshl .u16 (IntKind.u16.wrap (b.getD 8 0)) 8) (IntKind.u16.wrap (b.getD 9 0))))], [(2001, ⟨22, [VL A b.length c]⟩), (2002, ⟨31, [I1 0, I1 0, I3 0, I3 0, I8 0, I8 0, I8 0, I1 0, I1 0, I1 0]⟩), (2004, ⟨141, [.fn 99 [(2001, 0)]]⟩)]⟩ ?_
    refine fin59 _ _ _ _ [N1 (bor .u16 (bshl .u16 (IntKind.u16.wrap (b.getD 8 0)) 8) (IntKind.u16.wrap (b.getD 9 0)))] [(1001, ⟨22, [VL A b.length c]⟩), (1002, ⟨31, [I1 0, I1 0, I3 0, I3 0, I8 0, I8 0, I8 0, I1 0, I1 0, I1 0]⟩), (1004, ⟨141, [.fn 99 [(1001, 0)]]⟩)] (.inl rfl) (by kernel_rfl) (by kernel_rfl) ?_
    refine X.back ⟨⟨P1, ⟨fun _ h => (by cases h), rfl⟩, trivial⟩, Le.refl _, by kernel_rfl, ?_⟩
    refine Td [3, 4] 12 255 4 hQ57 [(8, I3 (bshl .u32 (IntKind.u32.wrap (bor .u16 (bshl .u16 (IntKind.u16.wrap (b.getD 8 0)) 8) (IntKind.u16.wrap (b.getD 9 0)))) 16))] ⟨P1, ⟨fun _ h => (by cases h), rfl⟩, trivial⟩ ?_
    refine Do 8 12 511 B100 6 ?_
    refine X.inline (f := 99) (l := [I6 10, .own 1001 0]) (fn := Try.f99) (c := B99) (by kernel_rfl) (by kernel_rfl) Try.func99 (by kernel_rfl) ?_
    intro Q67 M67 hM67 hQ67 fin67
    refine Rn 6 (Qc B99 6) [Qs B99 7] ⟨17, [(0, I6 10), (1, .own 2001 0), (3, I1 0)], [(2001, ⟨22, [VL A b.length c]⟩), (2002, ⟨31, [I1 0, I1 0, I3 0, I3 0, I8 0, I8 0, I8 0, I1 0, I1 0, I1 0]⟩), (2004, ⟨141, [.fn 99 [(2001, 0)]]⟩)]⟩ ?_
    have hb_d68 := hb
    refine Oh 1 B99 6 14 [⟨some 1, 2001, 22, [VL A b.length c]⟩] [] [] ⟨P1, trivial⟩ Mt (fun ρ0 => ?_)
    refine Tk 0 14 1 B99 6 (VL A b.length c) hQ67 ?_
    refine Tk 1 14 3 B99 6 (I6 10) hQ67 ?_
    have b69 : (0 : Int) ≤ 10 := by omega
    have b70 : 10 < ((b.length : Nat) : Int) := by omega
    obtain ⟨at71, lo71, hi71⟩ := At.int [] hb_d68 10 (by omega)
    simp only [IntKind.lo, IntKind.hi] at lo71 hi71
    refine Dx 2 14 7 B99 6 22 5 1 A b.length c .i64 10 (.tmp 4) (.tmp 5) hQ67 b69 b70 (fun _ _ => rowAt.so hb_d68 (by omega)) ?_
    refine Dl 3 14 15 B99 6 5 A (10 * 1) (.tmp 6) (N8 (b.getD 10 0)) [N8 (b.getD 10 0)] hQ67 at71 ?_
    refine Tk 4 14 31 B99 6 (I1 (IntKind.u16.wrap (b.getD 10 0))) hQ67 ?_
    refine Tk 5 14 63 B99 6 (I1 (bshl .u16 (IntKind.u16.wrap (b.getD 10 0)) 8)) hQ67 ?_
    refine Tk 6 14 127 B99 6 (VL A b.length c) hQ67 ?_
    refine Tk 7 14 255 B99 6 (I6 10) hQ67 ?_
    refine Tk 8 14 511 B99 6 (I6 11) hQ67 ?_
    have b72 : (0 : Int) ≤ 11 := by omega
    have b73 : 11 < ((b.length : Nat) : Int) := by omega
    obtain ⟨at74, lo74, hi74⟩ := At.int [] hb_d68 11 (by omega)
    simp only [IntKind.lo, IntKind.hi] at lo74 hi74
    refine Dx 9 14 1023 B99 6 22 5 1 A b.length c .i64 11 (.tmp 10) (.tmp 12) hQ67 b72 b73 (fun _ _ => rowAt.so hb_d68 (by omega)) ?_
    refine Dl 10 14 2047 B99 6 5 A (11 * 1) (.tmp 13) (N8 (b.getD 11 0)) [N8 (b.getD 11 0)] hQ67 at74 ?_
    refine Ts [11, 12, 13] 14 16383 0 3 hQ67 ?_
    refine XD.done (by kernel_rfl) ?_
    refine Rn 2 (.ex .ret) [] ⟨17, [(3, I1 (bor .u16 (bshl .u16 (IntKind.u16.wrap (b.getD 10 0)) 8) (IntKind.u16.wrap (b.getD 11 0))))], [(2001, ⟨22, [VL A b.length c]⟩), (2002, ⟨31, [I1 0, I1 0, I3 0, I3 0, I8 0, I8 0, I8 0, I1 0, I1 0, I1 0]⟩), (2004, ⟨141, [.fn 99 [(2001, 0)]]⟩)]⟩ ?_
    refine fin67 _ _ _ _ [N1 (bor .u16 (bshl .u16 (IntKind.u16.wrap (b.getD 10 0)) 8) (IntKind.u16.wrap (b.getD 11 0)))] [(1001, ⟨22, [VL A b.length c]⟩), (1002, ⟨31, [I1 0, I1 0, I3 0, I3 0, I8 0, I8 0, I8 0, I1 0, I1 0, I1 0]⟩), (1004, ⟨141, [.fn 99 [(1001, 0)]]⟩)] (.inl rfl) (by kernel_rfl) (by kernel_rfl) ?_
    refine X.back ⟨⟨P1, ⟨fun _ h => (by cases h), rfl⟩, trivial⟩, Le.refl _, by kernel_rfl, ?_⟩
    refine Ts [9, 10, 11] 12 4095 0 3 hQ57 ?_
    refine XD.done (by kernel_rfl) ?_
    refine Rn 2 (.ex .ret) [] ⟨15, [(3, I3 (bor .u32 (bshl .u32 (IntKind.u32.wrap (bor .u16 (bshl .u16 (IntKind.u16.wrap (b.getD 8 0)) 8) (IntKind.u16.wrap (b.getD 9 0)))) 16) (IntKind.u32.wrap (bor .u16 (bshl .u16 (IntKind.u16.wrap (b.getD 10 0)) 8) (IntKind.u16.wrap (b.getD 11 0))))))], [(1001, ⟨22, [VL A b.length c]⟩), (1002, ⟨31, [I1 0, I1 0, I3 0, I3 0, I8 0, I8 0, I8 0, I1 0, I1 0, I1 0]⟩), (1004, ⟨141, [.fn 99 [(1001, 0)]]⟩)]⟩ ?_
    refine fin57 _ _ _ _ [N3 (bor .u32 (bshl .u32 (IntKind.u32.wrap (bor .u16 (bshl .u16 (IntKind.u16.wrap (b.getD 8 0)) 8) (IntKind.u16.wrap (b.getD 9 0)))) 16) (IntKind.u32.wrap (bor .u16 (bshl .u16 (IntKind.u16.wrap (b.getD 10 0)) 8) (IntKind.u16.wrap (b.getD 11 0)))))] [(1, ⟨22, [VL A b.length c]⟩), (2, ⟨31, [I1 0, I1 0, I3 0, I3 0, I8 0, I8 0, I8 0, I1 0, I1 0, I1 0]⟩), (4, ⟨141, [.fn 99 [(1, 0)]]⟩)] (.inl rfl) (by kernel_rfl) (by kernel_rfl) ?_
    refine X.back ⟨⟨P1, P1, trivial⟩, Le.refl _, by kernel_rfl, ?_⟩
    refine Do 27 35 1610612735 B38 62 ?_
    refine X.inline (f := 99) (l := [I6 14, .own 1 0]) (fn := Try.f99) (c := B99) (by kernel_rfl) (by kernel_rfl) Try.func99 (by kernel_rfl) ?_
    intro Q75 M75 hM75 hQ75 fin75
    refine Ra 6 (Qc B99 6) 0 [Qs B99 7] [(3, I1 0)] ?_
    have hb_d76 := hb
    refine Oh 1 B99 6 14 [⟨some 1, 1001, 22, [VL A b.length c]⟩] [] [] ⟨P1, trivial⟩ Mt (fun ρ0 => ?_)
    refine Tk 0 14 1 B99 6 (VL A b.length c) hQ75 ?_
    refine Tk 1 14 3 B99 6 (I6 14) hQ75 ?_
    have b77 : (0 : Int) ≤ 14 := by omega
    have b78 : 14 < ((b.length : Nat) : Int) := by omega
    obtain ⟨at79, lo79, hi79⟩ := At.int [] hb_d76 14 (by omega)
    simp only [IntKind.lo, IntKind.hi] at lo79 hi79
    refine Dx 2 14 7 B99 6 22 5 1 A b.length c .i64 14 (.tmp 4) (.tmp 5) hQ75 b77 b78 (fun _ _ => rowAt.so hb_d76 (by omega)) ?_
    refine Dl 3 14 15 B99 6 5 A (14 * 1) (.tmp 6) (N8 (b.getD 14 0)) [N8 (b.getD 14 0)] hQ75 at79 ?_
    refine Tk 4 14 31 B99 6 (I1 (IntKind.u16.wrap (b.getD 14 0))) hQ75 ?_
    refine Tk 5 14 63 B99 6 (I1 (bshl .u16 (IntKind.u16.wrap (b.getD 14 0)) 8)) hQ75 ?_
    refine Tk 6 14 127 B99 6 (VL A b.length c) hQ75 ?_
    refine Tk 7 14 255 B99 6 (I6 14) hQ75 ?_
    refine Tk 8 14 511 B99 6 (I6 15) hQ75 ?_
    have b80 : (0 : Int) ≤ 15 := by omega
    have b81 : 15 < ((b.length : Nat) : Int) := by omega
    obtain ⟨at82, lo82, hi82⟩ := At.int [] hb_d76 15 (by omega)
    simp only [IntKind.lo, IntKind.hi] at lo82 hi82
    refine Dx 9 14 1023 B99 6 22 5 1 A b.length c .i64 15 (.tmp 10) (.tmp 12) hQ75 b80 b81 (fun _ _ => rowAt.so hb_d76 (by omega)) ?_
    refine Dl 10 14 2047 B99 6 5 A (15 * 1) (.tmp 13) (N8 (b.getD 15 0)) [N8 (b.getD 15 0)] hQ75 at82 ?_
    refine Ts [11, 12, 13] 14 16383 0 3 hQ75 ?_
    refine XD.done (by kernel_rfl) ?_
    refine Rn 2 (.ex .ret) [] ⟨17, [(3, I1 (bor .u16 (bshl .u16 (IntKind.u16.wrap (b.getD 14 0)) 8) (IntKind.u16.wrap (b.getD 15 0))))], [(1001, ⟨22, [VL A b.length c]⟩), (1002, ⟨31, [I1 0, I1 0, I3 0, I3 0, I8 0, I8 0, I8 0, I1 0, I1 0, I1 0]⟩), (1004, ⟨141, [.fn 99 [(1001, 0)]]⟩)]⟩ ?_
    refine fin75 _ _ _ _ [N1 (bor .u16 (bshl .u16 (IntKind.u16.wrap (b.getD 14 0)) 8) (IntKind.u16.wrap (b.getD 15 0)))] [(1, ⟨22, [VL A b.length c]⟩), (2, ⟨31, [I1 0, I1 0, I3 0, I3 0, I8 0, I8 0, I8 0, I1 0, I1 0, I1 0]⟩), (4, ⟨141, [.fn 99 [(1, 0)]]⟩)] (.inl rfl) (by kernel_rfl) (by kernel_rfl) ?_
    refine X.back ⟨⟨P1, P1, trivial⟩, Le.refl _, by kernel_rfl, ?_⟩
    refine Do 29 35 2147483647 B38 62 ?_
    refine X.inline (f := 99) (l := [I6 16, .own 1 0]) (fn := Try.f99) (c := B99) (by kernel_rfl) (by kernel_rfl) Try.func99 (by kernel_rfl) ?_
    intro Q83 M83 hM83 hQ83 fin83
    refine Rn 6 (Qc B99 6) [Qs B99 7] ⟨17, [(0, I6 16), (1, .own 1001 0), (3, I1 0)], [(1001, ⟨22, [VL A b.length c]⟩), (1002, ⟨31, [I1 0, I1 0, I3 0, I3 0, I8 0, I8 0, I8 0, I1 0, I1 0, I1 0]⟩), (1004, ⟨141, [.fn 99 [(1001, 0)]]⟩)]⟩ ?_
    have hb_d84 := hb
    refine Oh 1 B99 6 14 [⟨some 1, 1001, 22, [VL A b.length c]⟩] [] [] ⟨P1, trivial⟩ Mt (fun ρ0 => ?_)
    refine Tk 0 14 1 B99 6 (VL A b.length c) hQ83 ?_
    refine Tk 1 14 3 B99 6 (I6 16) hQ83 ?_
    have b85 : (0 : Int) ≤ 16 := by omega
    have b86 : 16 < ((b.length : Nat) : Int) := by omega
    obtain ⟨at87, lo87, hi87⟩ := At.int [] hb_d84 16 (by omega)
    simp only [IntKind.lo, IntKind.hi] at lo87 hi87
    refine Dx 2 14 7 B99 6 22 5 1 A b.length c .i64 16 (.tmp 4) (.tmp 5) hQ83 b85 b86 (fun _ _ => rowAt.so hb_d84 (by omega)) ?_
    refine Dl 3 14 15 B99 6 5 A (16 * 1) (.tmp 6) (N8 (b.getD 16 0)) [N8 (b.getD 16 0)] hQ83 at87 ?_
    refine Tk 4 14 31 B99 6 (I1 (IntKind.u16.wrap (b.getD 16 0))) hQ83 ?_
    refine Tk 5 14 63 B99 6 (I1 (bshl .u16 (IntKind.u16.wrap (b.getD 16 0)) 8)) hQ83 ?_
    refine Tk 6 14 127 B99 6 (VL A b.length c) hQ83 ?_
    refine Tk 7 14 255 B99 6 (I6 16) hQ83 ?_
    refine Tk 8 14 511 B99 6 (I6 17) hQ83 ?_
    have b88 : (0 : Int) ≤ 17 := by omega
    have b89 : 17 < ((b.length : Nat) : Int) := by omega
    obtain ⟨at90, lo90, hi90⟩ := At.int [] hb_d84 17 (by omega)
    simp only [IntKind.lo, IntKind.hi] at lo90 hi90
    refine Dx 9 14 1023 B99 6 22 5 1 A b.length c .i64 17 (.tmp 10) (.tmp 12) hQ83 b88 b89 (fun _ _ => rowAt.so hb_d84 (by omega)) ?_
    refine Dl 10 14 2047 B99 6 5 A (17 * 1) (.tmp 13) (N8 (b.getD 17 0)) [N8 (b.getD 17 0)] hQ83 at90 ?_
    refine Ts [11, 12, 13] 14 16383 0 3 hQ83 ?_
    refine XD.done (by kernel_rfl) ?_
    refine Rn 2 (.ex .ret) [] ⟨17, [(3, I1 (bor .u16 (bshl .u16 (IntKind.u16.wrap (b.getD 16 0)) 8) (IntKind.u16.wrap (b.getD 17 0))))], [(1001, ⟨22, [VL A b.length c]⟩), (1002, ⟨31, [I1 0, I1 0, I3 0, I3 0, I8 0, I8 0, I8 0, I1 0, I1 0, I1 0]⟩), (1004, ⟨141, [.fn 99 [(1001, 0)]]⟩)]⟩ ?_
    refine fin83 _ _ _ _ [N1 (bor .u16 (bshl .u16 (IntKind.u16.wrap (b.getD 16 0)) 8) (IntKind.u16.wrap (b.getD 17 0)))] [(1, ⟨22, [VL A b.length c]⟩), (2, ⟨31, [I1 0, I1 0, I3 0, I3 0, I8 0, I8 0, I8 0, I1 0, I1 0, I1 0]⟩), (4, ⟨141, [.fn 99 [(1, 0)]]⟩)] (.inl rfl) (by kernel_rfl) (by kernel_rfl) ?_
    refine X.back ⟨⟨P1, P1, trivial⟩, Le.refl _, by kernel_rfl, ?_⟩
    refine Dn ⟨61, [(1, .own 1 0), (2, .own 2 0), (3, I6 0), (4, .own 4 0), (29, I1 (bor .u16 (bshl .u16 (IntKind.u16.wrap (b.getD 0 0)) 8) (IntKind.u16.wrap (b.getD 1 0)))), (31, I1 (bor .u16 (bshl .u16 (IntKind.u16.wrap (b.getD 2 0)) 8) (IntKind.u16.wrap (b.getD 3 0)))), (33, I3 (bor .u32 (bshl .u32 (IntKind.u32.wrap (bor .u16 (bshl .u16 (IntKind.u16.wrap (b.getD 4 0)) 8) (IntKind.u16.wrap (b.getD 5 0)))) 16) (IntKind.u32.wrap (bor .u16 (bshl .u16 (IntKind.u16.wrap (b.getD 6 0)) 8) (IntKind.u16.wrap (b.getD 7 0)))))), (35, I3 (bor .u32 (bshl .u32 (IntKind.u32.wrap (bor .u16 (bshl .u16 (IntKind.u16.wrap (b.getD 8 0)) 8) (IntKind.u16.wrap (b.getD 9 0)))) 16) (IntKind.u32.wrap (bor .u16 (bshl .u16 (IntKind.u16.wrap (b.getD 10 0)) 8) (IntKind.u16.wrap (b.getD 11 0)))))), (39, I8 (bshr .u8 (b.getD 12 0) 4)), (49, I8 (bor .u8 (bshl .u8 (band .u8 (b.getD 12 0) 1) 2) (bshr .u8 (b.getD 13 0) 6))), (53, I8 (band .u8 (b.getD 13 0) 63)), (55, I1 (bor .u16 (bshl .u16 (IntKind.u16.wrap (b.getD 14 0)) 8) (IntKind.u16.wrap (b.getD 15 0)))), (57, I1 (bor .u16 (bshl .u16 (IntKind.u16.wrap (b.getD 16 0)) 8) (IntKind.u16.wrap (b.getD 17 0)))), (58, .fn 99 [(1, 0)])], [(1, ⟨22, [VL A b.length c]⟩), (2, ⟨31, [I1 0, I1 0, I3 0, I3 0, I8 0, I8 0, I8 0, I1 0, I1 0, I1 0]⟩), (4, ⟨141, [.fn 99 [(1, 0)]]⟩)]⟩ ⟨P1, P1, trivial⟩ ?_
    refine Do 31 35 4294967295 B38 62 ?_
    refine X.inline (f := 99) (l := [I6 18, .own 1 0]) (fn := Try.f99) (c := B99) (by kernel_rfl) (by kernel_rfl) Try.func99 (by kernel_rfl) ?_
    intro Q91 M91 hM91 hQ91 fin91
    refine Ra 6 (Qc B99 6) 0 [Qs B99 7] [(3, I1 0)] ?_
    have hb_d92 := hb
    refine Oh 1 B99 6 14 [⟨some 1, 1001, 22, [VL A b.length c]⟩] [] [] ⟨P1, trivial⟩ Mt (fun ρ0 => ?_)
    refine Tk 0 14 1 B99 6 (VL A b.length c) hQ91 ?_
    refine Tk 1 14 3 B99 6 (I6 18) hQ91 ?_
    have b93 : (0 : Int) ≤ 18 := by omega
    have b94 : 18 < ((b.length : Nat) : Int) := by omega
    obtain ⟨at95, lo95, hi95⟩ := At.int [] hb_d92 18 (by omega)
    simp only [IntKind.lo, IntKind.hi] at lo95 hi95
    refine Dx 2 14 7 B99 6 22 5 1 A b.length c .i64 18 (.tmp 4) (.tmp 5) hQ91 b93 b94 (fun _ _ => rowAt.so hb_d92 (by omega)) ?_
    refine Dl 3 14 15 B99 6 5 A (18 * 1) (.tmp 6) (N8 (b.getD 18 0)) [N8 (b.getD 18 0)] hQ91 at95 ?_
    refine Tk 4 14 31 B99 6 (I1 (IntKind.u16.wrap (b.getD 18 0))) hQ91 ?_
    refine Tk 5 14 63 B99 6 (I1 (bshl .u16 (IntKind.u16.wrap (b.getD 18 0)) 8)) hQ91 ?_
    refine Tk 6 14 127 B99 6 (VL A b.length c) hQ91 ?_
    refine Tk 7 14 255 B99 6 (I6 18) hQ91 ?_
    refine Tk 8 14 511 B99 6 (I6 19) hQ91 ?_
    have b96 : (0 : Int) ≤ 19 := by omega
    have b97 : 19 < ((b.length : Nat) : Int) := by omega
    obtain ⟨at98, lo98, hi98⟩ := At.int [] hb_d92 19 (by omega)
    simp only [IntKind.lo, IntKind.hi] at lo98 hi98
    refine Dx 9 14 1023 B99 6 22 5 1 A b.length c .i64 19 (.tmp 10) (.tmp 12) hQ91 b96 b97 (fun _ _ => rowAt.so hb_d92 (by omega)) ?_
    refine Dl 10 14 2047 B99 6 5 A (19 * 1) (.tmp 13) (N8 (b.getD 19 0)) [N8 (b.getD 19 0)] hQ91 at98 ?_
    refine Ts [11, 12, 13] 14 16383 0 3 hQ91 ?_
    refine XD.done (by kernel_rfl) ?_
    refine Rn 2 (.ex .ret) [] ⟨17, [(3, I1 (bor .u16 (bshl .u16 (IntKind.u16.wrap (b.getD 18 0)) 8) (IntKind.u16.wrap (b.getD 19 0))))], [(1001, ⟨22, [VL A b.length c]⟩), (1002, ⟨31, [I1 0, I1 0, I3 0, I3 0, I8 0, I8 0, I8 0, I1 0, I1 0, I1 0]⟩), (1004, ⟨141, [.fn 99 [(1001, 0)]]⟩)]⟩ ?_
    refine fin91 _ _ _ _ [N1 (bor .u16 (bshl .u16 (IntKind.u16.wrap (b.getD 18 0)) 8) (IntKind.u16.wrap (b.getD 19 0)))] [(1, ⟨22, [VL A b.length c]⟩), (2, ⟨31, [I1 0, I1 0, I3 0, I3 0, I8 0, I8 0, I8 0, I1 0, I1 0, I1 0]⟩), (4, ⟨141, [.fn 99 [(1, 0)]]⟩)] (.inl rfl) (by kernel_rfl) (by kernel_rfl) ?_
    refine X.back ⟨⟨P1, P1, trivial⟩, Le.refl _, by kernel_rfl, ?_⟩
    refine Td [32] 35 8589934591 2 QOk.ctxG [(60, .v (.agg #[N1 (bor .u16 (bshl .u16 (IntKind.u16.wrap (b.getD 0 0)) 8) (IntKind.u16.wrap (b.getD 1 0))), N1 (bor .u16 (bshl .u16 (IntKind.u16.wrap (b.getD 2 0)) 8) (IntKind.u16.wrap (b.getD 3 0))), N3 (bor .u32 (bshl .u32 (IntKind.u32.wrap (bor .u16 (bshl .u16 (IntKind.u16.wrap (b.getD 4 0)) 8) (IntKind.u16.wrap (b.getD 5 0)))) 16) (IntKind.u32.wrap (bor .u16 (bshl .u16 (IntKind.u16.wrap (b.getD 6 0)) 8) (IntKind.u16.wrap (b.getD 7 0))))), N3 (bor .u32 (bshl .u32 (IntKind.u32.wrap (bor .u16 (bshl .u16 (IntKind.u16.wrap (b.getD 8 0)) 8) (IntKind.u16.wrap (b.getD 9 0)))) 16) (IntKind.u32.wrap (bor .u16 (bshl .u16 (IntKind.u16.wrap (b.getD 10 0)) 8) (IntKind.u16.wrap (b.getD 11 0))))), N8 (bshr .u8 (b.getD 12 0) 4), N8 (bor .u8 (bshl .u8 (band .u8 (b.getD 12 0) 1) 2) (bshr .u8 (b.getD 13 0) 6)), N8 (band .u8 (b.getD 13 0) 63), N1 (bor .u16 (bshl .u16 (IntKind.u16.wrap (b.getD 14 0)) 8) (IntKind.u16.wrap (b.getD 15 0))), N1 (bor .u16 (bshl .u16 (IntKind.u16.wrap (b.getD 16 0)) 8) (IntKind.u16.wrap (b.getD 17 0))), N1 (bor .u16 (bshl .u16 (IntKind.u16.wrap (b.getD 18 0)) 8) (IntKind.u16.wrap (b.getD 19 0)))]))] ⟨P1, P1, trivial⟩ ?_
    refine Do 33 35 17179869183 B38 62 ?_
    refine X.simple (by kernel_rfl) ?_
    refine X.back ⟨⟨P1, P1, trivial⟩, Le.refl _, by kernel_rfl, ?_⟩
    refine Ts [34] 35 34359738367 0 1 QOk.ctxG ?_
    refine XD.done (by kernel_rfl) ?_
    refine Rn 2 (.ex .ret) [] ⟨61, [(2, .own 2 0), (3, I6 0)], [(2, ⟨31, [I1 (bor .u16 (bshl .u16 (IntKind.u16.wrap (b.getD 0 0)) 8) (IntKind.u16.wrap (b.getD 1 0))), I1 (bor .u16 (bshl .u16 (IntKind.u16.wrap (b.getD 2 0)) 8) (IntKind.u16.wrap (b.getD 3 0))), I3 (bor .u32 (bshl .u32 (IntKind.u32.wrap (bor .u16 (bshl .u16 (IntKind.u16.wrap (b.getD 4 0)) 8) (IntKind.u16.wrap (b.getD 5 0)))) 16) (IntKind.u32.wrap (bor .u16 (bshl .u16 (IntKind.u16.wrap (b.getD 6 0)) 8) (IntKind.u16.wrap (b.getD 7 0))))), I3 (bor .u32 (bshl .u32 (IntKind.u32.wrap (bor .u16 (bshl .u16 (IntKind.u16.wrap (b.getD 8 0)) 8) (IntKind.u16.wrap (b.getD 9 0)))) 16) (IntKind.u32.wrap (bor .u16 (bshl .u16 (IntKind.u16.wrap (b.getD 10 0)) 8) (IntKind.u16.wrap (b.getD 11 0))))), I8 (bshr .u8 (b.getD 12 0) 4), I8 (bor .u8 (bshl .u8 (band .u8 (b.getD 12 0) 1) 2) (bshr .u8 (b.getD 13 0) 6)), I8 (band .u8 (b.getD 13 0) 63), I1 (bor .u16 (bshl .u16 (IntKind.u16.wrap (b.getD 14 0)) 8) (IntKind.u16.wrap (b.getD 15 0))), I1 (bor .u16 (bshl .u16 (IntKind.u16.wrap (b.getD 16 0)) 8) (IntKind.u16.wrap (b.getD 17 0))), I1 (bor .u16 (bshl .u16 (IntKind.u16.wrap (b.getD 18 0)) 8) (IntKind.u16.wrap (b.getD 19 0)))]⟩)]⟩ ?_
    refine Dg (.inl rfl) [.agg #[N1 (bor .u16 (bshl .u16 (IntKind.u16.wrap (b.getD 0 0)) 8) (IntKind.u16.wrap (b.getD 1 0))), N1 (bor .u16 (bshl .u16 (IntKind.u16.wrap (b.getD 2 0)) 8) (IntKind.u16.wrap (b.getD 3 0))), N3 (bor .u32 (bshl .u32 (IntKind.u32.wrap (bor .u16 (bshl .u16 (IntKind.u16.wrap (b.getD 4 0)) 8) (IntKind.u16.wrap (b.getD 5 0)))) 16) (IntKind.u32.wrap (bor .u16 (bshl .u16 (IntKind.u16.wrap (b.getD 6 0)) 8) (IntKind.u16.wrap (b.getD 7 0))))), N3 (bor .u32 (bshl .u32 (IntKind.u32.wrap (bor .u16 (bshl .u16 (IntKind.u16.wrap (b.getD 8 0)) 8) (IntKind.u16.wrap (b.getD 9 0)))) 16) (IntKind.u32.wrap (bor .u16 (bshl .u16 (IntKind.u16.wrap (b.getD 10 0)) 8) (IntKind.u16.wrap (b.getD 11 0))))), N8 (bshr .u8 (b.getD 12 0) 4), N8 (bor .u8 (bshl .u8 (band .u8 (b.getD 12 0) 1) 2) (bshr .u8 (b.getD 13 0) 6)), N8 (band .u8 (b.getD 13 0) 63), N1 (bor .u16 (bshl .u16 (IntKind.u16.wrap (b.getD 14 0)) 8) (IntKind.u16.wrap (b.getD 15 0))), N1 (bor .u16 (bshl .u16 (IntKind.u16.wrap (b.getD 16 0)) 8) (IntKind.u16.wrap (b.getD 17 0))), N1 (bor .u16 (bshl .u16 (IntKind.u16.wrap (b.getD 18 0)) 8) (IntKind.u16.wrap (b.getD 19 0)))], N6 0] [] rfl (Ge.refl _ _) ?_
    exact ⟨fun h => absurd h (by omega), fun h => absurd h.2 (by intro hh; rcases hh with hh | hh <;> contradiction), fun _ => rfl, rfl⟩
theorem bytes_at {l : List Int} (h : isBytes l) (i : Nat) (hi : i < l.length) : 0 ≤ l.getD i 0 ∧ l.getD i 0 ≤ 255 := by
 have := h (l.getD i 0) (by rw [List.getD_eq_getElem?_getD, List.getElem?_eq_getElem hi]; exact List.getElem_mem hi)
 exact this
theorem or16 {x y : Int} (hx : 0 ≤ x ∧ x ≤ 255) (hy : 0 ≤ y ∧ y ≤ 255) : bor .u16 (bshl .u16 (IntKind.u16.wrap x) 8) (IntKind.u16.wrap y) = x * 256 + y := by
 rw [wu16 (x := x) (by omega) (by omega), wu16 (x := y) (by omega) (by omega)]
 have e : bshl .u16 x 8 = x * 256 := by unfold bshl; exact wu16 (by show 0 ≤ x * 256; omega) (by show x * 256 ≤ _; omega)
 rw [e]
 obtain ⟨a, rfl⟩ := Int.eq_ofNat_of_zero_le hx.1
 obtain ⟨b, rfl⟩ := Int.eq_ofNat_of_zero_le hy.1
 have h := Nat.two_pow_add_eq_or_of_lt (i := 8) (b := b) (by omega) a
 rw [show (a : Int) * 256 = ((2 ^ 8 * a : Nat) : Int) by omega, bor_nat rfl (by show _ < 2 ^ 16; omega) (by show _ < 2 ^ 16; omega), ← h]
 omega
theorem or32 {x y : Int} (hx : 0 ≤ x ∧ x ≤ 65535) (hy : 0 ≤ y ∧ y ≤ 65535) : bor .u32 (bshl .u32 (IntKind.u32.wrap x) 16) (IntKind.u32.wrap y) = x * 65536 + y := by
 rw [wu32 (x := x) (by omega) (by omega), wu32 (x := y) (by omega) (by omega)]
 have e : bshl .u32 x 16 = x * 65536 := by unfold bshl; exact wu32 (by show 0 ≤ x * 65536; omega) (by show x * 65536 ≤ _; omega)
 rw [e]
 obtain ⟨a, rfl⟩ := Int.eq_ofNat_of_zero_le hx.1
 obtain ⟨b, rfl⟩ := Int.eq_ofNat_of_zero_le hy.1
 have h := Nat.two_pow_add_eq_or_of_lt (i := 16) (b := b) (by omega) a
 rw [show (a : Int) * 65536 = ((2 ^ 16 * a : Nat) : Int) by omega, bor_nat rfl (by show _ < 2 ^ 32; omega) (by show _ < 2 ^ 32; omega), ← h]
 omega
theorem byteAll {p : Int → Bool} (h : ∀ n : Nat, n < 256 → p (n : Int) = true) {x : Int} (hx : 0 ≤ x ∧ x ≤ 255) : p x = true := by
 have := h x.toNat (by omega)
 rwa [show ((x.toNat : Nat) : Int) = x by omega] at this
theorem rngAll {p : Int → Int → Bool} (m n : Nat) (h : ∀ a, a < m → ∀ b, b < n → p (a : Int) (b : Int) = true) {x y : Int} (hx : 0 ≤ x ∧ x < (m : Int)) (hy : 0 ≤ y ∧ y < (n : Int)) : p x y = true := by
 have := h x.toNat (by omega) y.toNat (by omega)
 rwa [show ((x.toNat : Nat) : Int) = x by omega, show ((y.toNat : Nat) : Int) = y by omega] at this
theorem db12 {x : Int} (hx : 0 ≤ x ∧ x ≤ 255) : 0 ≤ bshr .u8 x 4 ∧ bshr .u8 x 4 ≤ 15 ∧ 0 ≤ band .u8 x 1 ∧ band .u8 x 1 ≤ 1 ∧ (band .u8 (bshr .u8 x 1) 7 = 0 → bor .u8 (bshl .u8 (bshr .u8 x 4) 4) (band .u8 x 1) = x) :=
 of_decide_eq_true (byteAll (p := fun x => decide (0 ≤ bshr .u8 x 4 ∧ bshr .u8 x 4 ≤ 15 ∧ 0 ≤ band .u8 x 1 ∧ band .u8 x 1 ≤ 1 ∧ (band .u8 (bshr .u8 x 1) 7 = 0 → bor .u8 (bshl .u8 (bshr .u8 x 4) 4) (band .u8 x 1) = x))) (by decide +kernel) hx)
theorem db13 {y : Int} (hy : 0 ≤ y ∧ y ≤ 255) : 0 ≤ bshr .u8 y 6 ∧ bshr .u8 y 6 ≤ 3 ∧ 0 ≤ band .u8 y 63 ∧ band .u8 y 63 ≤ 63 ∧ bor .u8 (bshl .u8 (bshr .u8 y 6) 6) (band .u8 y 63) = y :=
 of_decide_eq_true (byteAll (p := fun y => decide (0 ≤ bshr .u8 y 6 ∧ bshr .u8 y 6 ≤ 3 ∧ 0 ≤ band .u8 y 63 ∧ band .u8 y 63 ≤ 63 ∧ bor .u8 (bshl .u8 (bshr .u8 y 6) 6) (band .u8 y 63) = y)) (by decide +kernel) hy)
theorem dmn {m n : Int} (hm : 0 ≤ m ∧ m ≤ 1) (hn : 0 ≤ n ∧ n ≤ 3) : bshr .u8 (bor .u8 (bshl .u8 m 2) n) 2 = m ∧ bshl .u8 (bor .u8 (bshl .u8 m 2) n) 6 = bshl .u8 n 6 ∧ 0 ≤ bor .u8 (bshl .u8 m 2) n ∧ bor .u8 (bshl .u8 m 2) n ≤ 7 :=
 of_decide_eq_true (rngAll (p := fun m n => decide (bshr .u8 (bor .u8 (bshl .u8 m 2) n) 2 = m ∧ bshl .u8 (bor .u8 (bshl .u8 m 2) n) 6 = bshl .u8 n 6 ∧ 0 ≤ bor .u8 (bshl .u8 m 2) n ∧ bor .u8 (bshl .u8 m 2) n ≤ 7)) 2 4 (by decide +kernel) (by omega) (by omega))
theorem u8r (x : Int) : 0 ≤ IntKind.u8.wrap x ∧ IntKind.u8.wrap x ≤ 255 := by rw [u8_wrap]; omega
theorem encBytes (s0 s1 s2 s3 s4 s5 s6 s7 s8 s9 : Int) (h0 : 0 ≤ s0 ∧ s0 ≤ 65535) (h1 : 0 ≤ s1 ∧ s1 ≤ 65535) (h2 : 0 ≤ s2 ∧ s2 ≤ 4294967295) (h3 : 0 ≤ s3 ∧ s3 ≤ 4294967295) (h4 : 0 ≤ s4 ∧ s4 ≤ 255) (h5 : 0 ≤ s5 ∧ s5 ≤ 255) (h6 : 0 ≤ s6 ∧ s6 ≤ 255) (h7 : 0 ≤ s7 ∧ s7 ≤ 65535) (h8 : 0 ≤ s8 ∧ s8 ≤ 65535) (h9 : 0 ≤ s9 ∧ s9 ≤ 65535) (hin : (5 ≤ s4 ∧ s4 ≤ 15 ∧ s5 ≤ 7 ∧ s6 ≤ 63)) (ys : List Int) (hy : isBytes ys) : isBytes (enc11 s0 s1 s2 s3 s4 s5 s6 s7 s8 s9 ++ ys) := by
 intro x hx
 rcases List.mem_append.1 hx with hx | hx
 ·
  simp only [enc11, List.mem_cons, List.not_mem_nil, or_false] at hx
  rcases hx with rfl | rfl | rfl | rfl | rfl | rfl | rfl | rfl | rfl | rfl | rfl | rfl | rfl | rfl | rfl | rfl | rfl | rfl | rfl | rfl <;> first | exact u8r _ | exact ⟨(eb12 (a := s4) (b := s5) (by omega) (by omega)).2.2.2.1, (eb12 (a := s4) (b := s5) (by omega) (by omega)).2.2.2.2⟩ | exact ⟨(eb13 (b := s5) (f := s6) (by omega) (by omega)).2.2.1, (eb13 (b := s5) (f := s6) (by omega) (by omega)).2.2.2⟩
 · exact hy x hx
theorem decIn {b : List Int} (hby : isBytes b) (h20 : 20 ≤ b.length) (hg : ¬ (bshr .u8 (b.getD 12 0) 4 < 5 ∨ band .u8 (bshr .u8 (b.getD 12 0) 1) 7 ≠ 0)) : 5 ≤ bshr .u8 (b.getD 12 0) 4 ∧ bshr .u8 (b.getD 12 0) 4 ≤ 15 ∧ bor .u8 (bshl .u8 (band .u8 (b.getD 12 0) 1) 2) (bshr .u8 (b.getD 13 0) 6) ≤ 7 ∧ band .u8 (b.getD 13 0) 63 ≤ 63 := by
 have p := db12 (bytes_at hby 12 (by omega))
 have q := db13 (bytes_at hby 13 (by omega))
 have r := dmn ⟨p.2.2.1, p.2.2.2.1⟩ ⟨q.1, q.2.1⟩
 refine ⟨?_, p.2.1, r.2.2.2, q.2.2.2.1⟩
 by_cases h : bshr .u8 (b.getD 12 0) 4 < 5
 · exact absurd (.inl h) hg
 · omega
noncomputable def B47 : Code := bodyOf Try.f47
set_option maxHeartbeats 2000000 in
theorem RefPseudo_ok (s0 s1 s2 s3 d0 d1 d2 d3 p n : Int) (hn : -9223372036854775808 ≤ n ∧ n ≤ 9223372036854775807) (G : Mem) : CallsG Try.prog 47 [.agg #[.int .u8 s0, .int .u8 s1, .int .u8 s2, .int .u8 s3], .agg #[.int .u8 d0, .int .u8 d1, .int .u8 d2, .int .u8 d3], .int .u8 p, .int .i64 n] G (fun _ v rows => ∃ A', v = .slice A' 12 12 ∧ rows = [⟨5, 1, .slice A' 12 12, 12, ([s0, s1, s2, s3, d0, d1, d2, d3, 0, p, n % 65536 / 256, n % 256] : List Int).map (Value.int .u8)⟩]) := by
 refine CallsG.enter Try.func47 rfl rfl ?_
 intro w
 refine Rn 21 (Qc B47 29) [Qs B47 15] ⟨40, [(2, I8 p), (4, .own 4 0), (5, .own 5 0), (8, VL none 0 0), (9, I6 (Int.tmod n 65536)), (13, VB (decide (Int.tmod n 65536 < 0)))], [(4, ⟨55, [I8 s0, I8 s1, I8 s2, I8 s3]⟩), (5, ⟨55, [I8 d0, I8 d1, I8 d2, I8 d3]⟩)]⟩ ?_
 refine Sd 13 rfl ?_ ?_ <;> intro h1
 ·
  refine Rb 32 (Qo B47 30 23) 1 [Qs B47 31] [(17, I8 s0), (19, I8 s1), (21, I8 s2), (23, I8 s3), (25, I8 d0), (27, I8 d1), (29, I8 d2), (31, I8 d3), (32, I8 p), (35, I8 (IntKind.u8.wrap (IntKind.i64.wrap (Int.tdiv (IntKind.i64.wrap ((Int.tmod n 65536) + 65536)) 256)))), (38, I8 (IntKind.u8.wrap (Int.tmod (IntKind.i64.wrap ((Int.tmod n 65536) + 65536)) 256)))] [9] [] [4, 5] ?_
  refine Lt 39 5 1 12 [N8 s0, N8 s1, N8 s2, N8 s3, N8 d0, N8 d1, N8 d2, N8 d3, N8 0, N8 p, N8 (IntKind.u8.wrap (IntKind.i64.wrap (Int.tdiv (IntKind.i64.wrap ((Int.tmod n 65536) + 65536)) 256))), N8 (IntKind.u8.wrap (Int.tmod (IntKind.i64.wrap ((Int.tmod n 65536) + 65536)) 256))] ?_
  intro A2
  refine Rn 4 (.ex .ret) [] ⟨40, [(8, VL A2 12 12)], []⟩ ?_
  refine Dg (.inl rfl) [.slice A2 12 12] [39] rfl (Ge.refl _ _) ?_
  have hm_ := Int.emod_nonneg n (show (65536 : Int) ≠ 0 by decide)
  have hm2_ := Int.emod_lt_of_pos n (show (0 : Int) < 65536 by decide)
  have hq_ := Int.mul_tdiv_add_tmod n 65536
  have ha_ := Int.lt_tmod_of_pos n (show (0 : Int) < 65536 by decide)
  have hb_ := Int.tmod_lt_of_pos n (show (0 : Int) < 65536 by decide)
  have hX_ : IntKind.i64.wrap (Int.tmod n 65536 + 65536) = n % 65536 := by rw [wi64 (by omega) (by omega)]; omega
  refine ⟨_, rfl, ?_⟩
  rw [hX_, Int.tdiv_eq_ediv_of_nonneg hm_, Int.tmod_eq_emod_of_nonneg hm_, wi64 (x := n % 65536 / 256) (by omega) (by omega), u8_wrap, u8_wrap, show n % 65536 / 256 % 256 = n % 65536 / 256 by omega, show n % 65536 % 256 % 256 = n % 256 by omega]
  rfl
 ·
  refine Rb 28 (Qo B47 30 23) 1 [Qs B47 31] [(17, I8 s0), (19, I8 s1), (21, I8 s2), (23, I8 s3), (25, I8 d0), (27, I8 d1), (29, I8 d2), (31, I8 d3), (32, I8 p), (35, I8 (IntKind.u8.wrap (IntKind.i64.wrap (Int.tdiv (Int.tmod n 65536) 256)))), (38, I8 (IntKind.u8.wrap (Int.tmod (Int.tmod n 65536) 256)))] [9] [] [4, 5] ?_
  refine Lt 39 5 1 12 [N8 s0, N8 s1, N8 s2, N8 s3, N8 d0, N8 d1, N8 d2, N8 d3, N8 0, N8 p, N8 (IntKind.u8.wrap (IntKind.i64.wrap (Int.tdiv (Int.tmod n 65536) 256))), N8 (IntKind.u8.wrap (Int.tmod (Int.tmod n 65536) 256))] ?_
  intro A3
  refine Rn 4 (.ex .ret) [] ⟨40, [(8, VL A3 12 12)], []⟩ ?_
  refine Dg (.inl rfl) [.slice A3 12 12] [39] rfl (Ge.refl _ _) ?_
  have hm_ := Int.emod_nonneg n (show (65536 : Int) ≠ 0 by decide)
  have hm2_ := Int.emod_lt_of_pos n (show (0 : Int) < 65536 by decide)
  have hq_ := Int.mul_tdiv_add_tmod n 65536
  have ha_ := Int.lt_tmod_of_pos n (show (0 : Int) < 65536 by decide)
  have hb_ := Int.tmod_lt_of_pos n (show (0 : Int) < 65536 by decide)
  have hX_ : Int.tmod n 65536 = n % 65536 := by omega
  refine ⟨_, rfl, ?_⟩
  rw [hX_, Int.tdiv_eq_ediv_of_nonneg hm_, Int.tmod_eq_emod_of_nonneg hm_, wi64 (x := n % 65536 / 256) (by omega) (by omega), u8_wrap, u8_wrap, show n % 65536 / 256 % 256 = n % 65536 / 256 by omega, show n % 65536 % 256 % 256 = n % 256 by omega]
  rfl
noncomputable def B105 : Code := bodyOf Try.f105
noncomputable def B152 : Code := bodyOf Try.f152
noncomputable def B46 : Code := bodyOf Try.f46
set_option maxHeartbeats 2000000 in
theorem Pseudo_ok (s0 s1 s2 s3 d0 d1 d2 d3 p n : Int) (hs : (0 ≤ s0 ∧ s0 ≤ 255) ∧ (0 ≤ s1 ∧ s1 ≤ 255) ∧ (0 ≤ s2 ∧ s2 ≤ 255) ∧ (0 ≤ s3 ∧ s3 ≤ 255) ∧ (0 ≤ d0 ∧ d0 ≤ 255) ∧ (0 ≤ d1 ∧ d1 ≤ 255) ∧ (0 ≤ d2 ∧ d2 ≤ 255) ∧ (0 ≤ d3 ∧ d3 ≤ 255)) (hp : 0 ≤ p ∧ p ≤ 255) (hn : -9223372036854775808 ≤ n ∧ n ≤ 9223372036854775807) (G : Mem) : CallsG Try.prog 46 [.agg #[.int .u8 s0, .int .u8 s1, .int .u8 s2, .int .u8 s3], .agg #[.int .u8 d0, .int .u8 d1, .int .u8 d2, .int .u8 d3], .int .u8 p, .int .i64 n] G (fun _ v rows => ∃ A' c', v = .slice A' 12 c' ∧ 12 ≤ c' ∧ rows = [⟨5, 1, .slice A' 12 c', 12, ([s0, s1, s2, s3, d0, d1, d2, d3, 0, p, n % 65536 / 256, n % 256] : List Int).map (Value.int .u8)⟩]) := by
 obtain ⟨q0, q1, q2, q3, q4, q5, q6, q7⟩ := hs
 refine CallsG.enter Try.func46 rfl rfl ?_
 intro w
 refine Rn 8 (Qc B46 6) [Qs B46 7] ⟨20, [(2, I8 p), (3, I6 n), (4, .own 4 0), (5, .own 5 0), (8, VL none 0 0)], [(4, ⟨55, [I8 s0, I8 s1, I8 s2, I8 s3]⟩), (5, ⟨55, [I8 d0, I8 d1, I8 d2, I8 d3]⟩)]⟩ ?_
 refine X.boxOut (t := 4) (b := 4) (bt := 55) (kd := .u8) (cs := [I8 s0, I8 s1, I8 s2, I8 s3]) [s0, s1, s2, s3] rfl rfl rfl (fun _ h => h) (by intro x_ hx_; simp only [List.mem_cons, List.not_mem_nil, or_false] at hx_; simp only [IntKind.lo, IntKind.hi]; omega) ?_
 intro g1 G1 hG1 hr1
 refine Rn 0 (Qc B46 6) [Qs B46 7] ⟨20, [(2, I8 p), (3, I6 n), (4, .v (.pointer (some ⟨g1, 0, none⟩))), (5, .own 5 0), (8, VL none 0 0)], [(5, ⟨55, [I8 d0, I8 d1, I8 d2, I8 d3]⟩)]⟩ ?_
 refine X.boxOut (t := 5) (b := 5) (bt := 55) (kd := .u8) (cs := [I8 d0, I8 d1, I8 d2, I8 d3]) [d0, d1, d2, d3] rfl rfl rfl (fun _ h => h) (by intro x_ hx_; simp only [List.mem_cons, List.not_mem_nil, or_false] at hx_; simp only [IntKind.lo, IntKind.hi]; omega) ?_
 intro g2 G2 hG2 hr2
 replace hr1 := hr1.mono hG2.le
 refine Rn 0 (Qc B46 6) [Qs B46 7] ⟨20, [(2, I8 p), (3, I6 n), (4, .v (.pointer (some ⟨g1, 0, none⟩))), (5, .v (.pointer (some ⟨g2, 0, none⟩))), (8, VL none 0 0)], []⟩ ?_
 have hr1_d3 := hr1
 have hr2_d3 := hr2
 refine Oh 1 B46 6 12 [] [] [] trivial Mt (fun ρ0 => ?_)
 refine Td [0, 1, 2, 3, 4, 5, 6, 7] 12 255 4 QOk.ctxG [(9, VL (some ⟨g1, 0, none⟩) 4 4), (10, VL (some ⟨g2, 0, none⟩) 4 4), (11, I8 p), (14, I8 (IntKind.u8.wrap (bshr .i64 n 8))), (16, I8 (IntKind.u8.wrap n))] trivial ?_
 refine Do 8 12 511 B46 6 ?_
 refine Lt 17 5 1 4 [N8 0, N8 p, N8 (IntKind.u8.wrap (bshr .i64 n 8)), N8 (IntKind.u8.wrap n)] ?_
 intro A4
 refine X.back ⟨trivial, Le.refl _, rfl, ?_⟩
 refine Dn ⟨20, [(8, VL none 0 0), (9, VL (some ⟨g1, 0, none⟩) 4 4), (10, VL (some ⟨g2, 0, none⟩) 4 4), (17, VL A4 4 4)], []⟩ trivial ?_
 refine Do 9 12 1023 B46 6 ?_
 refine Lt 18 22 1 3 [.slice (some ⟨g1, 0, none⟩) 4 4, .slice (some ⟨g2, 0, none⟩) 4 4, .slice A4 4 4] ?_
 intro A5
 refine X.back ⟨trivial, Le.refl _, rfl, ?_⟩
 refine Do 10 12 2047 B46 6 ?_
 refine X.inline (f := 105) (l := [VL A5 3 3]) (fn := Try.f105) (c := B105) (by kernel_rfl) (by kernel_rfl) Try.func105 (by kernel_rfl) ?_
 intro Q6 M6 hM6 hQ6 fin6
 refine Ra 19 (Qc B105 58) 0 [.blk 0, Qs B105 15] [(2, VL none 0 0), (3, I6 0), (9, VL A5 3 3), (10, I6 3), (11, I6 0)] ?_
 refine X.rounds 5 ?_
 refine RX.succ fun J7 hJ7 => ?_
 refine Rn 13 (Qo B105 3736 0) [Qs B105 3737, .blk 1, Qs B105 935, .loop J7, .blk 0, Qs B105 15] ⟨36, [(0, VL A5 3 3), (2, VL none 0 0), (3, I6 0), (9, VL A5 3 3), (10, I6 3), (11, I6 0), (12, VB true)], []⟩ ?_
 refine Ix 121 22 1 A5 3 3 .i64 0 (.tmp 9) (.tmp 11) (by omega) (by omega) (Bs 18 rfl) ?_
 have at10 : At G2 [(18, ⟨22, 1, .slice A5 3 3, 3, [.slice (some ⟨g1, 0, none⟩) 4 4, .slice (some ⟨g2, 0, none⟩) 4 4, .slice A4 4 4]⟩), (17, ⟨5, 1, .slice A4 4 4, 4, [.int .u8 0, .int .u8 p, .int .u8 (IntKind.u8.wrap (bshr .i64 n 8)), .int .u8 (IntKind.u8.wrap n)]⟩)] A5 (0 * 1) [.slice (some ⟨g1, 0, none⟩) 4 4] := (At.of_row (i := 18) (r := ⟨22, 1, .slice A5 3 3, 3, [.slice (some ⟨g1, 0, none⟩) 4 4, .slice (some ⟨g2, 0, none⟩) 4 4, .slice A4 4 4]⟩) rfl rfl).part 0 1
 refine Ld 22 A5 (0 * 1) (.tmp 13) (.slice (some ⟨g1, 0, none⟩) 4 4) [.slice (some ⟨g1, 0, none⟩) 4 4] at10 ?_
 refine Rn 26 (.ex .normal) [.loop J7, .blk 0, Qs B105 15] ⟨36, [(0, VL A5 3 3), (2, VL none 0 0), (3, I6 4), (5, VL (some ⟨g1, 0, none⟩) 4 4), (9, VL A5 3 3), (10, I6 3), (11, I6 1), (12, VB true), (13, .v (elt A5 (0 * 1))), (14, VL (some ⟨g1, 0, none⟩) 4 4), (15, I6 0), (16, VL (some ⟨g1, 0, none⟩) 4 4), (17, I6 4), (18, I6 4), (19, I6 4), (20, VB false), (22, I6 1)], []⟩ ?_
 refine X.again (hJ7 _ _ _ ?_)
 refine RX.succ fun J11 hJ11 => ?_
 refine Rn 13 (Qo B105 3736 0) [Qs B105 3737, .blk 1, Qs B105 935, .loop J11, .blk 0, Qs B105 15] ⟨36, [(0, VL A5 3 3), (2, VL none 0 0), (3, I6 4), (5, VL (some ⟨g1, 0, none⟩) 4 4), (9, VL A5 3 3), (10, I6 3), (11, I6 1), (12, VB true), (13, .v (elt A5 (0 * 1))), (14, VL (some ⟨g1, 0, none⟩) 4 4), (15, I6 0), (16, VL (some ⟨g1, 0, none⟩) 4 4), (17, I6 4), (18, I6 4), (19, I6 4), (20, VB false), (22, I6 1)], []⟩ ?_
 refine Ix 121 22 1 A5 3 3 .i64 1 (.tmp 9) (.tmp 11) (by omega) (by omega) (Bs 18 rfl) ?_
 have at14 : At G2 [(18, ⟨22, 1, .slice A5 3 3, 3, [.slice (some ⟨g1, 0, none⟩) 4 4, .slice (some ⟨g2, 0, none⟩) 4 4, .slice A4 4 4]⟩), (17, ⟨5, 1, .slice A4 4 4, 4, [.int .u8 0, .int .u8 p, .int .u8 (IntKind.u8.wrap (bshr .i64 n 8)), .int .u8 (IntKind.u8.wrap n)]⟩)] A5 (1 * 1) [.slice (some ⟨g2, 0, none⟩) 4 4] := (At.of_row (i := 18) (r := ⟨22, 1, .slice A5 3 3, 3, [.slice (some ⟨g1, 0, none⟩) 4 4, .slice (some ⟨g2, 0, none⟩) 4 4, .slice A4 4 4]⟩) rfl rfl).part 1 1
 refine Ld 22 A5 (1 * 1) (.tmp 13) (.slice (some ⟨g2, 0, none⟩) 4 4) [.slice (some ⟨g2, 0, none⟩) 4 4] at14 ?_
 refine Rn 26 (.ex .normal) [.loop J11, .blk 0, Qs B105 15] ⟨36, [(0, VL A5 3 3), (2, VL none 0 0), (3, I6 8), (5, VL (some ⟨g2, 0, none⟩) 4 4), (9, VL A5 3 3), (10, I6 3), (11, I6 2), (12, VB true), (13, .v (elt A5 (1 * 1))), (14, VL (some ⟨g2, 0, none⟩) 4 4), (15, I6 4), (16, VL (some ⟨g2, 0, none⟩) 4 4), (17, I6 4), (18, I6 8), (19, I6 8), (20, VB false), (22, I6 2)], []⟩ ?_
 refine X.again (hJ11 _ _ _ ?_)
 refine RX.succ fun J15 hJ15 => ?_
 refine Rn 13 (Qo B105 3736 0) [Qs B105 3737, .blk 1, Qs B105 935, .loop J15, .blk 0, Qs B105 15] ⟨36, [(0, VL A5 3 3), (2, VL none 0 0), (3, I6 8), (5, VL (some ⟨g2, 0, none⟩) 4 4), (9, VL A5 3 3), (10, I6 3), (11, I6 2), (12, VB true), (13, .v (elt A5 (1 * 1))), (14, VL (some ⟨g2, 0, none⟩) 4 4), (15, I6 4), (16, VL (some ⟨g2, 0, none⟩) 4 4), (17, I6 4), (18, I6 8), (19, I6 8), (20, VB false), (22, I6 2)], []⟩ ?_
 refine Ix 121 22 1 A5 3 3 .i64 2 (.tmp 9) (.tmp 11) (by omega) (by omega) (Bs 18 rfl) ?_
 have at18 : At G2 [(18, ⟨22, 1, .slice A5 3 3, 3, [.slice (some ⟨g1, 0, none⟩) 4 4, .slice (some ⟨g2, 0, none⟩) 4 4, .slice A4 4 4]⟩), (17, ⟨5, 1, .slice A4 4 4, 4, [.int .u8 0, .int .u8 p, .int .u8 (IntKind.u8.wrap (bshr .i64 n 8)), .int .u8 (IntKind.u8.wrap n)]⟩)] A5 (2 * 1) [.slice A4 4 4] := (At.of_row (i := 18) (r := ⟨22, 1, .slice A5 3 3, 3, [.slice (some ⟨g1, 0, none⟩) 4 4, .slice (some ⟨g2, 0, none⟩) 4 4, .slice A4 4 4]⟩) rfl rfl).part 2 1
 refine Ld 22 A5 (2 * 1) (.tmp 13) (.slice A4 4 4) [.slice A4 4 4] at18 ?_
 refine Rn 26 (.ex .normal) [.loop J15, .blk 0, Qs B105 15] ⟨36, [(0, VL A5 3 3), (2, VL none 0 0), (3, I6 12), (5, VL A4 4 4), (9, VL A5 3 3), (10, I6 3), (11, I6 3), (12, VB true), (13, .v (elt A5 (2 * 1))), (14, VL A4 4 4), (15, I6 8), (16, VL A4 4 4), (17, I6 4), (18, I6 12), (19, I6 12), (20, VB false), (22, I6 3)], []⟩ ?_
 refine X.again (hJ15 _ _ _ ?_)
 refine RX.succ fun J19 hJ19 => ?_
 refine Rn 15 (Qo B105 30 1) [Qs B105 31] ⟨36, [(0, VL A5 3 3), (2, VL none 0 0), (23, I6 12)], []⟩ ?_
 refine X.inline (f := 152) (l := [VL none 0 0, I6 12]) (fn := Try.f152) (c := B152) (by kernel_rfl) (by kernel_rfl) Try.func152 (by kernel_rfl) ?_
 intro Q20 M20 hM20 hQ20 fin20
 refine Ra 39 (Qo B152 118 3) 0 [Qs B152 15] [(4, VL none 0 0), (17, VL none 0 0), (19, I6 0)] ?_
 have hlo21 : 0 ≤ 0 := by omega
 have hhi21 : 0 ≤ 0 := by omega
 refine X.cut (t := 22) (e := 5) (sz := 1) (n := 0) (c := 0) (A := none) (x := .tmp 17) (l := none) (h := (some (.tmp 19))) (lv := none) (hv := (some (N6 0))) 0 0 (by kernel_rfl) (by kernel_rfl) (by kernel_rfl) (by kernel_rfl) (by kernel_rfl) (by kernel_rfl) (by kernel_rfl) (rfl) (⟨_, _, rfl, by omega, rfl⟩) hlo21 (Nat.le_trans hhi21 (by omega)) ?_
 refine X.known 20 (y := VL none 0 0) rfl (by rw [cutA_zero] <;> rfl) ?_
 refine Rc 1 (Qo B152 118 5) 0 [] [(20, VL none 0 0), (21, I6 12)] [1] ?_
 refine X.growNil (t := 22) (ti := 3) (e := 5) (bytes := 1) (m := 12) (x := .tmp 20) (y := .tmp 21) 22 (N8 0) (by kernel_rfl) (by kernel_rfl) (by kernel_rfl) (by kernel_rfl) (by kernel_rfl) (by kernel_rfl) (by kernel_rfl) (by kernel_rfl) (by omega) (by omega) (by omega) ?_
 intro A22 c22 hc22
 simp only [show (12 : Int).toNat = 12 from rfl] at hc22 ⊢
 refine Ra 2 (Qo B152 118 8) 0 [] [(22, VL A22 12 c22), (24, I6 0)] ?_
 have hlo23 : 0 ≤ 0 := by omega
 have hhi23 : 0 ≤ 12 := by omega
 refine X.cut (t := 22) (e := 5) (sz := 1) (n := 12) (c := c22) (A := A22) (x := .tmp 22) (l := none) (h := (some (.tmp 24))) (lv := none) (hv := (some (N6 0))) 0 0 (by kernel_rfl) (by kernel_rfl) (by kernel_rfl) (by kernel_rfl) (by kernel_rfl) (by kernel_rfl) (by kernel_rfl) (rfl) (⟨_, _, rfl, by omega, rfl⟩) hlo23 (Nat.le_trans hhi23 (by omega)) ?_
 refine X.known 25 (y := VL A22 0 c22) rfl (by rw [cutA_zero] <;> rfl) ?_
 refine Rn 10 (.ex .ret) [] ⟨27, [(4, VL A22 0 c22)], []⟩ ?_
 refine fin20 _ _ _ _ [.slice A22 0 c22] [] (.inl rfl) (by kernel_rfl) (by kernel_rfl) ?_
 refine Ra 12 (Qc B105 250) 1 [.blk 2, Qs B105 63] [(6, VL A22 0 c22), (25, VL A5 3 3), (26, I6 3), (27, I6 0)] ?_
 refine X.rounds 5 ?_
 refine RX.succ fun J24 hJ24 => ?_
 refine Rn 13 (Qo B105 16024 0) [Qs B105 16025, .blk 3, Qs B105 4007, .loop J24, .blk 2, Qs B105 63] ⟨36, [(2, VL none 0 0), (6, VL A22 0 c22), (25, VL A5 3 3), (26, I6 3), (27, I6 0), (28, VB true)], []⟩ ?_
 refine Ix 121 22 1 A5 3 3 .i64 0 (.tmp 25) (.tmp 27) (by omega) (by omega) (Bs 18 rfl) ?_
 have at27 : At G2 [(22, ⟨5, 1, .slice A22 0 c22, 0, []⟩), (18, ⟨22, 1, .slice A5 3 3, 3, [.slice (some ⟨g1, 0, none⟩) 4 4, .slice (some ⟨g2, 0, none⟩) 4 4, .slice A4 4 4]⟩), (17, ⟨5, 1, .slice A4 4 4, 4, [.int .u8 0, .int .u8 p, .int .u8 (IntKind.u8.wrap (bshr .i64 n 8)), .int .u8 (IntKind.u8.wrap n)]⟩)] A5 (0 * 1) [.slice (some ⟨g1, 0, none⟩) 4 4] := (At.of_row (i := 18) (r := ⟨22, 1, .slice A5 3 3, 3, [.slice (some ⟨g1, 0, none⟩) 4 4, .slice (some ⟨g2, 0, none⟩) 4 4, .slice A4 4 4]⟩) rfl rfl).part 0 1
 refine Ld 22 A5 (0 * 1) (.tmp 29) (.slice (some ⟨g1, 0, none⟩) 4 4) [.slice (some ⟨g1, 0, none⟩) 4 4] at27 ?_
 refine Ra 6 (Qo B105 16025 2) 1 [] [(8, VL (some ⟨g1, 0, none⟩) 4 4), (29, .v (elt A5 (0 * 1))), (30, VL (some ⟨g1, 0, none⟩) 4 4), (31, VL A22 0 c22), (32, VL (some ⟨g1, 0, none⟩) 4 4)] ?_
 refine Aw 22 _ 22 1 (N8 0) (.tmp 31) (.tmp 32) 0 c22 4 4 A22 (some ⟨g1, 0, none⟩) ([s0, s1, s2, s3].map (Value.int .u8)) (.inl rfl) (by simp) (at_ints [(22, RR 5 1 A22 0 c22 []), (18, RR 22 1 A5 3 3 [.slice (some ⟨g1, 0, none⟩) 4 4, .slice (some ⟨g2, 0, none⟩) 4 4, .slice A4 4 4]), (17, RR 5 1 A4 4 4 [N8 0, N8 p, N8 (IntKind.u8.wrap (bshr .i64 n 8)), N8 (IntKind.u8.wrap n)])] hr1) (fun _ _ e => rowAt.none hr1 e) ones_ints (by decide) ?_
 intro A28 c28 hc28
 refine Tc [18, 17] (cs' := ([s0, s1, s2, s3]).map (Value.int .u8)) (by simp) ?_
 refine Rn 8 (.ex .normal) [.loop J24, .blk 2, Qs B105 63] ⟨36, [(2, VL none 0 0), (6, VL A28 4 c28), (8, VL (some ⟨g1, 0, none⟩) 4 4), (25, VL A5 3 3), (26, I6 3), (27, I6 1), (28, VB true), (29, .v (elt A5 (0 * 1))), (30, VL (some ⟨g1, 0, none⟩) 4 4), (31, VL A22 0 c22), (32, VL (some ⟨g1, 0, none⟩) 4 4), (33, VL A28 4 c28), (34, I6 1)], []⟩ ?_
 refine X.again (hJ24 _ _ _ ?_)
 refine RX.succ fun J29 hJ29 => ?_
 refine Rn 13 (Qo B105 16024 0) [Qs B105 16025, .blk 3, Qs B105 4007, .loop J29, .blk 2, Qs B105 63] ⟨36, [(2, VL none 0 0), (6, VL A28 4 c28), (8, VL (some ⟨g1, 0, none⟩) 4 4), (25, VL A5 3 3), (26, I6 3), (27, I6 1), (28, VB true), (29, .v (elt A5 (0 * 1))), (30, VL (some ⟨g1, 0, none⟩) 4 4), (31, VL A22 0 c22), (32, VL (some ⟨g1, 0, none⟩) 4 4), (33, VL A28 4 c28), (34, I6 1)], []⟩ ?_
 refine Ix 121 22 1 A5 3 3 .i64 1 (.tmp 25) (.tmp 27) (by omega) (by omega) (Bs 18 rfl) ?_
 have at32 : At G2 [(22, ⟨5, 1, .slice A28 4 c28, 4, ([s0, s1, s2, s3]).map (Value.int .u8)⟩), (18, ⟨22, 1, .slice A5 3 3, 3, [.slice (some ⟨g1, 0, none⟩) 4 4, .slice (some ⟨g2, 0, none⟩) 4 4, .slice A4 4 4]⟩), (17, ⟨5, 1, .slice A4 4 4, 4, [.int .u8 0, .int .u8 p, .int .u8 (IntKind.u8.wrap (bshr .i64 n 8)), .int .u8 (IntKind.u8.wrap n)]⟩)] A5 (1 * 1) [.slice (some ⟨g2, 0, none⟩) 4 4] := (At.of_row (i := 18) (r := ⟨22, 1, .slice A5 3 3, 3, [.slice (some ⟨g1, 0, none⟩) 4 4, .slice (some ⟨g2, 0, none⟩) 4 4, .slice A4 4 4]⟩) rfl rfl).part 1 1
 refine Ld 22 A5 (1 * 1) (.tmp 29) (.slice (some ⟨g2, 0, none⟩) 4 4) [.slice (some ⟨g2, 0, none⟩) 4 4] at32 ?_
 refine Ra 6 (Qo B105 16025 2) 1 [] [(8, VL (some ⟨g2, 0, none⟩) 4 4), (29, .v (elt A5 (1 * 1))), (30, VL (some ⟨g2, 0, none⟩) 4 4), (31, VL A28 4 c28), (32, VL (some ⟨g2, 0, none⟩) 4 4)] ?_
 refine Aw 22 _ 22 1 (N8 0) (.tmp 31) (.tmp 32) 4 c28 4 4 A28 (some ⟨g2, 0, none⟩) ([d0, d1, d2, d3].map (Value.int .u8)) (.inl rfl) (by simp) (at_ints [(22, RR 5 1 A28 4 c28 (([s0, s1, s2, s3]).map (Value.int .u8))), (18, RR 22 1 A5 3 3 [.slice (some ⟨g1, 0, none⟩) 4 4, .slice (some ⟨g2, 0, none⟩) 4 4, .slice A4 4 4]), (17, RR 5 1 A4 4 4 [N8 0, N8 p, N8 (IntKind.u8.wrap (bshr .i64 n 8)), N8 (IntKind.u8.wrap n)])] hr2) (fun _ _ e => rowAt.none hr2 e) ones_ints (by decide) ?_
 intro A33 c33 hc33
 refine Tc [18, 17] (cs' := ([s0, s1, s2, s3] ++ [d0, d1, d2, d3]).map (Value.int .u8)) (by simp) ?_
 refine Rn 8 (.ex .normal) [.loop J29, .blk 2, Qs B105 63] ⟨36, [(2, VL none 0 0), (6, VL A33 8 c33), (8, VL (some ⟨g2, 0, none⟩) 4 4), (25, VL A5 3 3), (26, I6 3), (27, I6 2), (28, VB true), (29, .v (elt A5 (1 * 1))), (30, VL (some ⟨g2, 0, none⟩) 4 4), (31, VL A28 4 c28), (32, VL (some ⟨g2, 0, none⟩) 4 4), (33, VL A33 8 c33), (34, I6 2)], []⟩ ?_
 refine X.again (hJ29 _ _ _ ?_)
 refine RX.succ fun J34 hJ34 => ?_
 refine Rn 13 (Qo B105 16024 0) [Qs B105 16025, .blk 3, Qs B105 4007, .loop J34, .blk 2, Qs B105 63] ⟨36, [(2, VL none 0 0), (6, VL A33 8 c33), (8, VL (some ⟨g2, 0, none⟩) 4 4), (25, VL A5 3 3), (26, I6 3), (27, I6 2), (28, VB true), (29, .v (elt A5 (1 * 1))), (30, VL (some ⟨g2, 0, none⟩) 4 4), (31, VL A28 4 c28), (32, VL (some ⟨g2, 0, none⟩) 4 4), (33, VL A33 8 c33), (34, I6 2)], []⟩ ?_
 refine Ix 121 22 1 A5 3 3 .i64 2 (.tmp 25) (.tmp 27) (by omega) (by omega) (Bs 18 rfl) ?_
 have at37 : At G2 [(22, ⟨5, 1, .slice A33 8 c33, 8, ([s0, s1, s2, s3] ++ [d0, d1, d2, d3]).map (Value.int .u8)⟩), (18, ⟨22, 1, .slice A5 3 3, 3, [.slice (some ⟨g1, 0, none⟩) 4 4, .slice (some ⟨g2, 0, none⟩) 4 4, .slice A4 4 4]⟩), (17, ⟨5, 1, .slice A4 4 4, 4, [.int .u8 0, .int .u8 p, .int .u8 (IntKind.u8.wrap (bshr .i64 n 8)), .int .u8 (IntKind.u8.wrap n)]⟩)] A5 (2 * 1) [.slice A4 4 4] := (At.of_row (i := 18) (r := ⟨22, 1, .slice A5 3 3, 3, [.slice (some ⟨g1, 0, none⟩) 4 4, .slice (some ⟨g2, 0, none⟩) 4 4, .slice A4 4 4]⟩) rfl rfl).part 2 1
 refine Ld 22 A5 (2 * 1) (.tmp 29) (.slice A4 4 4) [.slice A4 4 4] at37 ?_
 refine Ra 6 (Qo B105 16025 2) 1 [] [(8, VL A4 4 4), (29, .v (elt A5 (2 * 1))), (30, VL A4 4 4), (31, VL A33 8 c33), (32, VL A4 4 4)] ?_
 refine Ap 22 _ 22 1 (N8 0) (.tmp 31) (.tmp 32) 8 c33 4 4 A33 A4 [N8 0, N8 p, N8 (IntKind.u8.wrap (bshr .i64 n 8)), N8 (IntKind.u8.wrap n)] (.inl rfl) (by kernel_rfl) (Ar 17 rfl) (Br 17 rfl) (ones (by kernel_rfl)) (by decide) ?_
 intro A38 c38 hc38
 refine Tc [18, 17] (cs' := ([s0, s1, s2, s3] ++ [d0, d1, d2, d3] ++ [0, p, IntKind.u8.wrap (bshr .i64 n 8), IntKind.u8.wrap n]).map (Value.int .u8)) (by simp) ?_
 refine Rn 8 (.ex .normal) [.loop J34, .blk 2, Qs B105 63] ⟨36, [(2, VL none 0 0), (6, VL A38 12 c38), (8, VL A4 4 4), (25, VL A5 3 3), (26, I6 3), (27, I6 3), (28, VB true), (29, .v (elt A5 (2 * 1))), (30, VL A4 4 4), (31, VL A33 8 c33), (32, VL A4 4 4), (33, VL A38 12 c38), (34, I6 3)], []⟩ ?_
 refine X.again (hJ34 _ _ _ ?_)
 refine RX.succ fun J39 hJ39 => ?_
 refine Rn 19 (.ex .ret) [] ⟨36, [(2, VL A38 12 c38)], []⟩ ?_
 refine fin6 _ _ _ _ [.slice A38 12 c38] [] (.inl rfl) (by kernel_rfl) (by kernel_rfl) ?_
 refine X.back ⟨trivial, Le.refl _, rfl, ?_⟩
 refine Ts [11] 12 4095 0 1 QOk.ctxG ?_
 refine XD.done (by kernel_rfl) ?_
 refine Rn 2 (.ex .ret) [] ⟨20, [(8, VL A38 12 c38)], []⟩ ?_
 refine Dg (.inl rfl) [.slice A38 12 c38] [22] rfl ((hG1.trans hG2)) ?_
 refine ⟨_, _, rfl, by assumption, ?_⟩
 rw [show IntKind.u8.wrap (bshr .i64 n 8) = n % 65536 / 256 by rw [u8_wrap]; unfold bshr; rw [show ((2 : Int) ^ min 8 IntKind.i64.bits) = 256 by decide, Int.fdiv_eq_ediv_of_nonneg _ (by decide)]; omega, show IntKind.u8.wrap n = n % 256 by rw [u8_wrap]]
 rfl
end Go.Proofs.YtjgpdbkkpomhjaaX
