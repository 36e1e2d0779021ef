/- ip.Join. Walked; printed by a small program of this session. Conditions: none. -/
import Derived.Test.YtjgpdbkkpomhjaaProg
import Derived.KernelRfl
import Derived.Test.YtjgpdbkkpomhjaaYJ2
import Derived.Test.YtjgpdbkkpomhjaaYQD
import Derived.Test.YtjgpdbkkpomhjaaYJH
import Derived.Test.YtjgpdbkkpomhjaaYJI
namespace Go.Proofs.YtjgpdbkkpomhjaaX
open Go.RowKit
open Go.Proofs.YtjgpdbkkpomhjaaW.PrintLast
set_option linter.unusedVariables false
set_option linter.unusedSimpArgs false
set_option maxRecDepth 100000
theorem parts_bytes {G : Mem} {A : Option Addr} {ps : List (List Int)} (h : rowAt (D.slice (D.int .u8)) G A ps) : ∀ b ∈ ps, isBytes b := fun b hb => by
 obtain ⟨i, hi, rfl⟩ := List.getElem_of_mem hb
 obtain ⟨B, c, _, _, _, h4⟩ := At.slice [] h i hi
 have e : ps.getD i [] = ps[i] := by simp [List.getD, hi]
 rw [e] at h4
 exact row_bytes h4
theorem rowI_ok : ∀ (l : List Pk) (acc : List Int), isBytes acc → (∀ x ∈ l, okP x) → isBytes (rowI acc l).1 ∧ (rowI acc l).1.length ≤ acc.length + 65515 * l.length
 | [], acc, ha, _ => ⟨ha, by simp [rowI]⟩
 | p :: r, acc, ha, hl => by
  have hb : isBytes (acc ++ bytesL p.2) := fun x hx => by
   rcases List.mem_append.1 hx with h | h
   · exact ha x h
   · exact bytesL_range _ x h
  have hp := (hl p List.mem_cons_self).2.1
  have hlen : (acc ++ bytesL p.2).length ≤ acc.length + 65515 := by rw [List.length_append, bytesL_length]; omega
  have ih := rowI_ok r (acc ++ bytesL p.2) hb (fun x hx => hl x (List.mem_cons_of_mem _ hx))
  rw [rowI]
  simp only [List.length_cons]
  split
  · exact ⟨fun x h => absurd h List.not_mem_nil, Nat.zero_le _⟩
  ·
   split
   · exact ⟨hb, Nat.le_trans hlen (by omega)⟩
   ·
    split
    · exact ⟨fun x h => absurd h List.not_mem_nil, Nat.zero_le _⟩
    · exact ⟨ih.1, Nat.le_trans ih.2 (by omega)⟩
theorem putT_same {x : Int} : putT x (x % 4) = x := by unfold putT; omega
theorem putT_range {x c : Int} (hx : 0 ≤ x ∧ x ≤ 255) (hc : 0 ≤ c ∧ c ≤ 3) : 0 ≤ putT x c ∧ putT x c ≤ 255 := by unfold putT; omega
theorem codeJ_range {l : List Pk} (h : 0 ≤ (l.getD 0 pk0).1.x0) : 0 ≤ codeJ l ∧ codeJ l ≤ 3 := by unfold codeJ; split <;> omega
/-- leat/ip.Join -/
noncomputable def B83 : Code := bodyOf Try.f83
set_option maxHeartbeats 4000000 in
theorem Join_ok (A : Option Addr) (c : Nat) (ps : List (List Int)) (G : Mem) (hps : rowAt (D.slice (D.int .u8)) G A ps) (hle : ps.length ≤ c) (hmx : c ≤ maxLen) (hn : ps.length ≤ 20 ∨ ps.length ≤ 39 ∧ ∀ l2 : List Pk, l2.Perm (readI [] ps).1 → SortedP plI l2 → l2 = sortI plI (readI [] ps).1) : CallsG Try.prog 83 [.slice A ps.length c] G (fun _ v rows => ∃ A' c', v = .tuple #[.slice A' (joinI ps).1.length c', .int .i64 (joinI ps).2] ∧ rows = [⟨5, 1, .slice A' (joinI ps).1.length c', (joinI ps).1.length, (joinI ps).1.map (Value.int .u8)⟩]) := by
 simp only [maxLen] at hmx
 refine CallsG.enter Try.func83 rfl rfl ?_
 intro w
 refine Rn 9 (Qo B83 6 1) [Qs B83 7] ⟨58, [(2, VL none 0 0), (3, I6 0), (11, VL A ps.length c)], []⟩ ?_
 have hn39_ : ps.length ≤ 39 := by omega
 refine Cg 136 [.slice A ps.length c] 40 (Read_ok A c ps _ hps hle hmx (by omega)) ?_
 rintro v1 G1 rows1 hG1 ⟨A1, c1, rfl, rfl⟩
 replace hps := hps.mono hG1.le
 have hok2_ := readI_ok ps [] (fun b_ hb_ => parts_bytes hps b_ hb_) (fun x_ h_ => absurd h_ List.not_mem_nil)
 obtain ⟨l_, e_, hR_⟩ : ∃ l e, readI [] ps = (l, e) := ⟨_, _, rfl⟩
 rw [hR_] at hok2_
 rw [hR_]
 obtain ⟨hok_, hlp_⟩ : (∀ x ∈ l_, okP x) ∧ l_.length ≤ 0 + ps.length := hok2_
 obtain ⟨n_, hln_⟩ : ∃ z_, l_.length = z_ := ⟨_, rfl⟩
 rw [show (l_, e_).1 = l_ from rfl, hln_]
 refine X.asR (R' := [(40, RR 184 14 A1 n_ c1 ((l_).flatMap pkC))]) rfl ?_
 rw [hR_] at hn
 have hn2_ : n_ ≤ 20 ∨ n_ ≤ 39 ∧ ∀ l2 : List Pk, l2.Perm l_ → SortedP plI l2 → l2 = sortI plI l_ := by
  rcases hn with h_ | ⟨h_, h2_⟩
  · exact .inl (by omega)
  · exact .inr ⟨by omega, h2_⟩
 refine Rn 16 (Qc B83 57) [.blk 0, Qs B83 15] ⟨58, [(2, VL none 0 0), (3, I6 0), (4, VL A1 n_ c1), (5, I6 e_), (15, VB (e_ != 0))], []⟩ ?_
 refine X.split 15 rfl (fun h2 => ?_) (fun h2 => ?_)
 ·
  replace h2 : e_ ≠ 0 := by simpa using h2
  have he_ : e_ ≠ 0 := h2
  refine X.nilRow 390 5 1 rfl ?_
  refine Rn 11 (.ex .ret) [] ⟨58, [(2, VL none 0 0), (3, I6 e_)], []⟩ ?_
  refine Dg (.inl rfl) [.slice none 0 0, N6 e_] [390] rfl (hG1) ?_
  rw [joinI_err hR_ he_]
  exact ⟨none, 0, rfl, rfl⟩
 ·
  replace h2 : e_ = 0 := by simpa using h2
  have he_ : e_ = 0 := h2
  subst he_
  refine Rn 9 (Qc B83 231) [.blk 0, Qs B83 15] ⟨58, [(2, VL none 0 0), (3, I6 0), (4, VL A1 n_ c1), (19, VB (((n_ : Nat) : Int) == 0))], []⟩ ?_
  refine X.split 19 rfl (fun h3 => ?_) (fun h3 => ?_)
  ·
   replace h3 : ((n_ : Nat) : Int) = 0 := by simpa using h3
   have hz_ : l_.length = 0 := by omega
   refine X.nilRow 390 5 1 rfl ?_
   refine Rn 10 (.ex .ret) [] ⟨58, [(2, VL none 0 0), (3, I6 10)], []⟩ ?_
   refine Dg (.inl rfl) [.slice none 0 0, N6 10] [390] rfl (hG1) ?_
   rw [joinI_none hR_ hz_]
   exact ⟨none, 0, rfl, rfl⟩
  ·
   replace h3 : ((n_ : Nat) : Int) ≠ 0 := by simpa using h3
   have hz_ : ¬ l_.length = 0 := by omega
   refine Rn 7 (Qo B83 30 1) [Qs B83 31] ⟨58, [(2, VL none 0 0), (3, I6 0), (4, VL A1 n_ c1), (23, VL A1 n_ c1)], []⟩ ?_
   refine X.callR (f := 137) (l := [VL A1 n_ c1, .fn 138 []]) 40 (q := (RR 184 14 A1 n_ c1 ((l_).flatMap pkC))) (by kernel_rfl) rfl (by kernel_rfl) rfl (sortSt_ok A1 c1 n_ l_ _ hln_ hn2_ (fun x_ h_ => (hok_ x_ h_).1)) ?_
   rintro _ _ ⟨rfl, rfl⟩
   refine X.tellR [40] (R' := [(40, RR 184 14 A1 n_ c1 ((sortI plI l_).flatMap pkC))]) rfl ?_
   obtain ⟨l4, hl4⟩ : ∃ z_, sortI plI l_ = z_ := ⟨_, rfl⟩
   rw [hl4]
   have hn4 : l4.length = n_ := by rw [← hl4]; rw [sortI_len]; exact hln_
   have hsok_ : ∀ x ∈ l4, okP x := fun x_ h_ => hok_ x_ (by rw [← hl4] at h_; exact (sortI_perm _).mem_iff.mp h_)
   obtain ⟨s_, hs_⟩ : ∃ z_, l4 = z_ := ⟨_, rfl⟩
   rw [hs_] at hl4 hn4 hsok_
   rw [hs_]
   subst hn4
   have hsl_ : l_.length = s_.length := hln_
   refine X.tellR [40] (R' := [(40, RR 184 14 A1 s_.length c1 ((s_).flatMap pkC))]) rfl ?_
   refine X.capLe (i := 40) (q := (RR 184 14 A1 s_.length c1 ((s_).flatMap pkC))) (n := s_.length) (c := c1) (A := A1) rfl rfl ?_
   intro hle5 hmx5
   refine X.freezeT (d := pkD) (i := 40) (n := s_.length) (c := c1) (A := A1) (s_) rfl (by decide) (fun _ _ => pkD_reps) (by kernel_rfl) (fun _ h => h) ?_
   intro G5 hG5 hr5
   replace hps := hps.mono hG5.le
   refine Rn 5 (Qo B83 62 1) [Qs B83 63] ⟨58, [(2, VL none 0 0), (3, I6 0), (4, VL A1 s_.length c1), (26, VL A1 s_.length c1)], []⟩ ?_
   refine Cg 141 [.slice A1 s_.length c1] 41 (Row_ok A1 c1 s_ _ hr5 hle5 hmx5 (by omega) (by omega) hsok_) ?_
   rintro v6 G6 rows6 hG6 ⟨A6, c6, rfl, rfl⟩
   replace hps := hps.mono hG6.le
   replace hr5 := hr5.mono hG6.le
   refine X.asR (R' := [(41, RR 5 1 A6 ((rowI [] s_).1.length) c6 (((rowI [] s_).1).map (Value.int .u8)))]) rfl ?_
   obtain ⟨hrb_, hrl_⟩ := rowI_ok s_ [] (fun x_ h_ => absurd h_ List.not_mem_nil) hsok_
   simp only [List.length_nil, Nat.zero_add] at hrl_
   refine X.tellR [41] (R' := [(41, RR 5 1 A6 ((rowI [] s_).1.length) c6 (((rowI [] s_).1).map (Value.int .u8)))]) rfl ?_
   refine X.capLe (i := 41) (q := (RR 5 1 A6 ((rowI [] s_).1.length) c6 (((rowI [] s_).1).map (Value.int .u8)))) (n := (rowI [] s_).1.length) (c := c6) (A := A6) rfl rfl ?_
   intro hle7 hmx7
   refine X.freezeHd (i := 41) (n := (rowI [] s_).1.length) (c := c6) (A := A6) (kd := .u8) ((rowI [] s_).1) rfl rfl (fun x_ hx_ => by have h_ := hrb_ x_ hx_; simp only [IntKind.lo, IntKind.hi]; omega) (by kernel_rfl) (fun _ h => h) ?_
   intro G7 hG7 hr7
   replace hps := hps.mono hG7.le
   replace hr5 := hr5.mono hG7.le
   refine Rn 14 (Qc B83 253) [Qs B83 127] ⟨58, [(2, VL none 0 0), (3, I6 0), (4, VL A1 s_.length c1), (6, VL A6 ((rowI [] s_).1.length) c6), (7, VB ((rowI [] s_).2)), (31, VB (!((rowI [] s_).2)))], []⟩ ?_
   refine X.split 31 rfl (fun h8 => ?_) (fun h8 => ?_)
   ·
    replace h8 : ((rowI [] s_).2) = false := by first | (simpa using h8; done) | (have h_ := congrArg (fun b_ => !b_) h8; simpa only [Bool.not_not, Bool.not_true, Bool.not_false] using h_)
    have ho_ : (rowI [] s_).2 = false := by rw [h8]
    refine X.nilRow 390 5 1 rfl ?_
    refine Rn 9 (.ex .ret) [] ⟨58, [(2, VL none 0 0), (3, I6 12)], []⟩ ?_
    refine Dg (.inl rfl) [.slice none 0 0, N6 12] [390] rfl ((((hG1.trans hG5).trans hG6).trans hG7)) ?_
    rw [joinI_order hR_ hz_ (by rw [hl4]; exact ho_)]
    exact ⟨none, 0, rfl, rfl⟩
   ·
    replace h8 : ((rowI [] s_).2) = true := by first | (simpa using h8; done) | (have h_ := congrArg (fun b_ => !b_) h8; simpa only [Bool.not_not, Bool.not_true, Bool.not_false] using h_)
    have ho_ : ¬ (rowI [] s_).2 = false := by rw [h8]; decide
    refine Rn 6 (Qo B83 254 1) [Qs B83 255] ⟨58, [(2, VL none 0 0), (3, I6 0), (4, VL A1 s_.length c1), (6, VL A6 ((rowI [] s_).1.length) c6), (7, VB ((rowI [] s_).2)), (33, VL A1 s_.length c1)], []⟩ ?_
    refine Cg 142 [.slice A1 s_.length c1] 0 (codes_ok A1 c1 s_ _ hr5 hle5 hmx5 (by omega) (by omega) hsok_) ?_
    rintro v9 G9 rows9 hG9 ⟨rfl, rfl⟩
    replace hps := hps.mono hG9.le
    replace hr5 := hr5.mono hG9.le
    replace hr7 := hr7.mono hG9.le
    refine Rn 14 (Qc B83 1021) [Qs B83 511] ⟨58, [(2, VL none 0 0), (3, I6 0), (4, VL A1 s_.length c1), (6, VL A6 ((rowI [] s_).1.length) c6), (8, I6 (codeJ s_)), (38, VB (!(fitJ s_)))], []⟩ ?_
    refine X.split 38 rfl (fun h10 => ?_) (fun h10 => ?_)
    ·
     replace h10 : (fitJ s_) = false := by first | (simpa using h10; done) | (have h_ := congrArg (fun b_ => !b_) h10; simpa only [Bool.not_not, Bool.not_true, Bool.not_false] using h_)
     have hk_ : fitJ s_ = false := by rw [h10]
     refine X.nilRow 390 5 1 rfl ?_
     refine Rn 9 (.ex .ret) [] ⟨58, [(2, VL none 0 0), (3, I6 7)], []⟩ ?_
     refine Dg (.inl rfl) [.slice none 0 0, N6 7] [390] rfl (((((hG1.trans hG5).trans hG6).trans hG7).trans hG9)) ?_
     rw [joinI_kind hR_ hz_ (by rw [hl4]; exact ho_) (by rw [hl4]; exact hk_)]
     exact ⟨none, 0, rfl, rfl⟩
    ·
     replace h10 : (fitJ s_) = true := by first | (simpa using h10; done) | (have h_ := congrArg (fun b_ => !b_) h10; simpa only [Bool.not_not, Bool.not_true, Bool.not_false] using h_)
     have hk_ : ¬ fitJ s_ = false := by rw [h10]; decide
     have hk0_ : okP (s_.getD 0 pk0) := hsok_ _ (getD_mem (by omega))
     have hk4_ := hk0_.1.h4
     have hk2_ := hk0_.1.h0
     have hcr_ := codeJ_range (l := s_) hk2_.1
     have hpr_ := putT_range hk2_ hcr_
     refine Rn 6 (Qo B83 1022 1) [Qs B83 1023] ⟨58, [(2, VL none 0 0), (3, I6 0), (6, VL A6 ((rowI [] s_).1.length) c6), (8, I6 (codeJ s_)), (39, VL A1 s_.length c1)], []⟩ ?_
     have b11 : (0 : Int) ≤ 0 := by omega
     have b12 : 0 < ((s_.length : Nat) : Int) := by omega
     refine Ix 179 184 14 A1 s_.length c1 .i64 0 (.tmp 39) (.const (N6 0)) b11 b12 (fun _ _ => rowAt.so hr5 (by omega)) ?_
     have at13 := At.pk [] hr5 0 (by omega)
     simp only [pkC] at at13
     refine Rn 0 (Qo B83 1022 2) [Qs B83 1023] ⟨58, [(2, VL none 0 0), (3, I6 0), (6, VL A6 ((rowI [] s_).1.length) c6), (8, I6 (codeJ s_)), (40, .v (elt A1 (0 * 14)))], []⟩ ?_
     refine X.field (t := 184) (f := 0) (n := 0) (A := A1) (j := 0 * 14) (x := .tmp 40) (by kernel_rfl) (by kernel_rfl) (by kernel_rfl) (by kernel_rfl) ?_
     refine Rn 0 (Qo B83 1022 3) [Qs B83 1023] ⟨58, [(2, VL none 0 0), (3, I6 0), (6, VL A6 ((rowI [] s_).1.length) c6), (8, I6 (codeJ s_)), (41, .v (elt A1 (0 * 14 + 0)))], []⟩ ?_
     refine Ld 113 A1 (0 * 14 + 0) (.tmp 41) (.agg #[N8 ((s_.getD 0 pk0).1.x0), N8 ((s_.getD 0 pk0).1.x1), N8 ((s_.getD 0 pk0).1.x2), N1 ((s_.getD 0 pk0).1.x3), N1 ((s_.getD 0 pk0).1.x4), N8 ((s_.getD 0 pk0).1.x5), N8 ((s_.getD 0 pk0).1.x6), N8 ((s_.getD 0 pk0).1.x7), N8 ((s_.getD 0 pk0).1.x8), N8 ((s_.getD 0 pk0).1.x9), N8 ((s_.getD 0 pk0).1.y0), N8 ((s_.getD 0 pk0).1.y1), N8 ((s_.getD 0 pk0).1.y2)]) [N8 ((s_.getD 0 pk0).1.x0), N8 ((s_.getD 0 pk0).1.x1), N8 ((s_.getD 0 pk0).1.x2), N1 ((s_.getD 0 pk0).1.x3), N1 ((s_.getD 0 pk0).1.x4), N8 ((s_.getD 0 pk0).1.x5), N8 ((s_.getD 0 pk0).1.x6), N8 ((s_.getD 0 pk0).1.x7), N8 ((s_.getD 0 pk0).1.x8), N8 ((s_.getD 0 pk0).1.x9), N8 ((s_.getD 0 pk0).1.y0), N8 ((s_.getD 0 pk0).1.y1), N8 ((s_.getD 0 pk0).1.y2)] (at13.part 0 13) ?_
     refine Rn 9 (Qo B83 2046 3) [Qs B83 2047] ⟨58, [(2, VL none 0 0), (3, I6 0), (6, VL A6 ((rowI [] s_).1.length) c6), (8, I6 (codeJ s_)), (9, .own 9 0), (45, I1 (band .u16 ((s_.getD 0 pk0).1.x4) 16384))], [(9, ⟨113, [I8 ((s_.getD 0 pk0).1.x0), I8 ((s_.getD 0 pk0).1.x1), I8 ((s_.getD 0 pk0).1.x2), I1 ((s_.getD 0 pk0).1.x3), I1 ((s_.getD 0 pk0).1.x4), I8 ((s_.getD 0 pk0).1.x5), I8 ((s_.getD 0 pk0).1.x6), I8 ((s_.getD 0 pk0).1.x7), I8 ((s_.getD 0 pk0).1.x8), I8 ((s_.getD 0 pk0).1.x9), I8 ((s_.getD 0 pk0).1.y0), I8 ((s_.getD 0 pk0).1.y1), I8 ((s_.getD 0 pk0).1.y2)]⟩)]⟩ ?_
     refine Kn 45 .u16 ((s_.getD 0 pk0).1.x4 / 16384 % 2 * 16384) rfl (bit_whole hk4_) ?_
     refine Rn 9 (Qo B83 4094 3) [Qs B83 4095] ⟨58, [(2, VL none 0 0), (3, I6 0), (6, VL A6 ((rowI [] s_).1.length) c6), (9, .own 9 0), (48, I8 ((s_.getD 0 pk0).1.x0)), (49, I6 (codeJ s_))], [(9, ⟨113, [I8 ((s_.getD 0 pk0).1.x0), I8 ((s_.getD 0 pk0).1.x1), I8 ((s_.getD 0 pk0).1.x2), I1 ((s_.getD 0 pk0).1.x3), I1 ((s_.getD 0 pk0).1.x4 / 16384 % 2 * 16384), I8 ((s_.getD 0 pk0).1.x5), I8 ((s_.getD 0 pk0).1.x6), I8 ((s_.getD 0 pk0).1.x7), I8 ((s_.getD 0 pk0).1.x8), I8 ((s_.getD 0 pk0).1.x9), I8 ((s_.getD 0 pk0).1.y0), I8 ((s_.getD 0 pk0).1.y1), I8 ((s_.getD 0 pk0).1.y2)]⟩)]⟩ ?_
     have hk2b_ : 0 ≤ ((s_.getD 0 pk0).1.x0) ∧ ((s_.getD 0 pk0).1.x0) ≤ 255 := hk2_
     refine Cg 143 [N8 ((s_.getD 0 pk0).1.x0), N6 (codeJ s_)] 0 (Put_ok ((s_.getD 0 pk0).1.x0) (codeJ s_) _ hk2b_ hcr_) ?_
     rintro v14 G14 rows14 hG14 ⟨rfl, rfl⟩
     replace hps := hps.mono hG14.le
     replace hr5 := hr5.mono hG14.le
     replace hr7 := hr7.mono hG14.le
     refine Rn 8 (Qo B83 8190 2) [Qs B83 8191] ⟨58, [(2, VL none 0 0), (3, I6 0), (52, .v (.agg #[N8 (putT (s_.getD 0 pk0).1.x0 (codeJ s_)), N8 ((s_.getD 0 pk0).1.x1), N8 ((s_.getD 0 pk0).1.x2), N1 ((s_.getD 0 pk0).1.x3), N1 ((s_.getD 0 pk0).1.x4 / 16384 % 2 * 16384), N8 ((s_.getD 0 pk0).1.x5), N8 ((s_.getD 0 pk0).1.x6), N8 ((s_.getD 0 pk0).1.x7), N8 ((s_.getD 0 pk0).1.x8), N8 ((s_.getD 0 pk0).1.x9), N8 ((s_.getD 0 pk0).1.y0), N8 ((s_.getD 0 pk0).1.y1), N8 ((s_.getD 0 pk0).1.y2)])), (53, VL A6 ((rowI [] s_).1.length) c6)], []⟩ ?_
     refine X.toStrW (src := 22) (dst := 9) (e := 5) (n := (rowI [] s_).1.length) (c := c6) (A := A6) (x := .tmp 53) ((rowI [] s_).1) (by kernel_rfl) (by kernel_rfl) (by kernel_rfl) (by kernel_rfl) (by kernel_rfl) rfl (at_ints [] hr7) (fun w hw e => rowAt.none hr7 e) (by kernel_rfl) ?_
     refine Rn 0 (Qo B83 8190 3) [Qs B83 8191] ⟨58, [(2, VL none 0 0), (3, I6 0), (52, .v (.agg #[N8 (putT (s_.getD 0 pk0).1.x0 (codeJ s_)), N8 ((s_.getD 0 pk0).1.x1), N8 ((s_.getD 0 pk0).1.x2), N1 ((s_.getD 0 pk0).1.x3), N1 ((s_.getD 0 pk0).1.x4 / 16384 % 2 * 16384), N8 ((s_.getD 0 pk0).1.x5), N8 ((s_.getD 0 pk0).1.x6), N8 ((s_.getD 0 pk0).1.x7), N8 ((s_.getD 0 pk0).1.x8), N8 ((s_.getD 0 pk0).1.x9), N8 ((s_.getD 0 pk0).1.y0), N8 ((s_.getD 0 pk0).1.y1), N8 ((s_.getD 0 pk0).1.y2)])), (54, VT (strOf ((rowI [] s_).1)))], []⟩ ?_
     refine Cg 78 [.agg #[N8 (putT (s_.getD 0 pk0).1.x0 (codeJ s_)), N8 ((s_.getD 0 pk0).1.x1), N8 ((s_.getD 0 pk0).1.x2), N1 ((s_.getD 0 pk0).1.x3), N1 ((s_.getD 0 pk0).1.x4 / 16384 % 2 * 16384), N8 ((s_.getD 0 pk0).1.x5), N8 ((s_.getD 0 pk0).1.x6), N8 ((s_.getD 0 pk0).1.x7), N8 ((s_.getD 0 pk0).1.x8), N8 ((s_.getD 0 pk0).1.x9), N8 ((s_.getD 0 pk0).1.y0), N8 ((s_.getD 0 pk0).1.y1), N8 ((s_.getD 0 pk0).1.y2)], .string (strOf ((rowI [] s_).1))] 675 (EncI_ok (headJ s_) (strOf ((rowI [] s_).1)) _ (tosI_ok (frI_ok hk0_.1 (by omega)) hpr_) (by rw [strOf_len]; simp only [maxLen]; omega)) ?_
     rintro v15 G15 rows15 hG15 ⟨A15, c15, rfl, rfl⟩
     replace hps := hps.mono hG15.le
     replace hr5 := hr5.mono hG15.le
     replace hr7 := hr7.mono hG15.le
     refine X.asR (R' := [(675, RR 5 1 A15 ((encI (headJ s_) (strOf ((rowI [] s_).1))).1.length) c15 (((encI (headJ s_) (strOf ((rowI [] s_).1))).1).map (Value.int .u8)))]) rfl ?_
     refine Rn 7 (.ex .ret) [] ⟨58, [(2, VL A15 ((encI (headJ s_) (strOf ((rowI [] s_).1))).1.length) c15), (3, I6 ((encI (headJ s_) (strOf ((rowI [] s_).1))).2))], []⟩ ?_
     refine Dg (.inl rfl) [.slice A15 ((encI (headJ s_) (strOf ((rowI [] s_).1))).1.length) c15, N6 ((encI (headJ s_) (strOf ((rowI [] s_).1))).2)] [675] rfl (((((((hG1.trans hG5).trans hG6).trans hG7).trans hG9).trans hG14).trans hG15)) ?_
     rw [joinI_fine hR_ hz_ (by rw [hl4]; exact ho_) (by rw [hl4]; exact hk_), hl4]
     exact ⟨_, _, rfl, rfl⟩
end Go.Proofs.YtjgpdbkkpomhjaaX
