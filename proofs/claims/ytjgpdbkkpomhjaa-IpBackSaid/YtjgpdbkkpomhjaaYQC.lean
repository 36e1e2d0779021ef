/- slices.symMerge. Walked; printed by a small program of this session. Conditions: none. -/
import Derived.Test.YtjgpdbkkpomhjaaProg
import Derived.KernelRfl
import Derived.Test.YtjgpdbkkpomhjaaYQ2
import Derived.Test.YtjgpdbkkpomhjaaYQA
import Derived.Test.YtjgpdbkkpomhjaaYQB
namespace Go.Proofs.YtjgpdbkkpomhjaaX
open Go.RowKit
open Go.Proofs.YtjgpdbkkpomhjaaW.PrintLast
set_option linter.unusedVariables false
set_option linter.unusedSimpArgs false
set_option maxRecDepth 100000
set_option maxHeartbeats 4000000 in
theorem sym_rest (A : Option Addr) (c n : Nat) (l : List Pk) (a u b : Nat) (G : Mem) (hl : l.length = n) (hm : a + 1 < u) (hmn : u + 1 < b) (hbn : b ≤ n) (hn : n ≤ 100) (hok : ∀ x ∈ l, x.1.ok) (hs1 : Srt l a u) (hs2 : Srt l u b) (IH : ∀ (l : List Pk) (a' u' b' : Nat) (G : Mem), b' - a' < b - a → a' < u' → u' < b' → b' ≤ n → l.length = n → (∀ x ∈ l, x.1.ok) → Srt l a' u' → Srt l u' b' → CallsR Try.prog 175 [.v (.slice A n c), .v (.int .i64 (a' : Int)), .v (.int .i64 (u' : Int)), .v (.int .i64 (b' : Int)), .fn 138 []] G ⟨184, 14, .slice A n c, n, (l).flatMap pkC⟩ (fun v cs => v = .tuple #[] ∧ ∃ l', Mg l l' a' b' ∧ Srt l' a' b' ∧ cs = l'.flatMap pkC)) : CallsR Try.prog 175 [.v (.slice A n c), .v (.int .i64 (a : Int)), .v (.int .i64 (u : Int)), .v (.int .i64 (b : Int)), .fn 138 []] G ⟨184, 14, .slice A n c, n, (l).flatMap pkC⟩ (fun v cs => v = .tuple #[] ∧ ∃ l', Mg l l' a b ∧ Srt l' a b ∧ cs = l'.flatMap pkC) := by
 refine CallsR.enter 1 Try.func175 rfl rfl ?_
 intro w
 refine Rn 9 (Qc B175 5) [Qs B175 3] ⟨220, [(0, VL A n c), (1, I6 (a : Int)), (2, I6 (u : Int)), (3, I6 (b : Int)), (4, .fn 138 []), (28, VB ((IntKind.i64.wrap ((u : Int) - (a : Int))) == 1))], []⟩ ?_
 refine X.isFalse 28 rfl (beq_false_of_ne (by rw [wi64 (by omega) (by omega)]; omega)) ?_
 refine Rn 12 (Qc B175 13) [Qs B175 7] ⟨220, [(0, VL A n c), (1, I6 (a : Int)), (2, I6 (u : Int)), (3, I6 (b : Int)), (4, .fn 138 []), (80, VB ((IntKind.i64.wrap ((b : Int) - (u : Int))) == 1))], []⟩ ?_
 refine X.isFalse 80 rfl (beq_false_of_ne (by rw [wi64 (by omega) (by omega)]; omega)) ?_
 obtain ⟨d_, hd_⟩ : ∃ z_, (a + b) / 2 = z_ := ⟨_, rfl⟩
 refine Rn 11 (Qo B175 14 6) [Qs B175 15] ⟨220, [(0, VL A n c), (1, I6 (a : Int)), (2, I6 (u : Int)), (3, I6 (b : Int)), (4, .fn 138 []), (134, I6 (IntKind.i64.wrap (bshr .u64 (IntKind.u64.wrap (IntKind.i64.wrap ((a : Int) + (b : Int)))) 1)))], []⟩ ?_
 refine Kn 134 .i64 (d_ : Int) rfl (by rw [← hd_]; exact half_nat (by omega)) ?_
 refine Rn 8 (Qo B175 30 3) [Qs B175 31] ⟨220, [(0, VL A n c), (1, I6 (a : Int)), (2, I6 (u : Int)), (3, I6 (b : Int)), (4, .fn 138 []), (18, I6 (d_ : Int)), (137, I6 (IntKind.i64.wrap ((d_ : Int) + (u : Int))))], []⟩ ?_
 refine Kn 137 .i64 ((d_ + u : Nat) : Int) rfl (by rw [wi64 (by omega) (by omega)]; omega) ?_
 refine Rn 17 (Qc B175 253) [Qs B175 127] ⟨220, [(0, VL A n c), (1, I6 (a : Int)), (2, I6 (u : Int)), (3, I6 (b : Int)), (4, .fn 138 []), (18, I6 (d_ : Int)), (19, I6 ((d_ + u : Nat) : Int)), (20, I6 0), (21, I6 0), (140, VB (decide ((u : Int) > (d_ : Int))))], []⟩ ?_
 refine X.joinJ (Qc B175 127) [] (fun s2_ R2_ G2_ => ∃ (s0_ r0_ : Nat), s2_ = ⟨220, [(0, VL A n c), (1, I6 (a : Int)), (2, I6 (u : Int)), (3, I6 (b : Int)), (4, .fn 138 []), (18, I6 (d_ : Int)), (19, I6 ((d_ + u : Nat) : Int)), (20, I6 (s0_ : Int)), (21, I6 (r0_ : Int))], []⟩ ∧ R2_ = [(1, RR 184 14 A n c ((l).flatMap pkC))] ∧ Ge G w.heap.size G2_ ∧ ((s0_ = d_ + u - b ∧ r0_ = d_ ∧ d_ < u) ∨ (s0_ = a ∧ r0_ = u ∧ u ≤ d_))) ?_ fun hY1 => ?_
 ·
  rintro s2_ R2_ G1 ⟨s0_, r0_, rfl, rfl, hG1, hF_⟩
  have hb0_ : a ≤ s0_ ∧ s0_ ≤ r0_ ∧ r0_ ≤ u ∧ r0_ ≤ d_ ∧ d_ + u - b ≤ s0_ := by omega
  refine Rn 4 (Qo B175 254 2) [Qs B175 255] ⟨220, [(0, VL A n c), (1, I6 (a : Int)), (2, I6 (u : Int)), (3, I6 (b : Int)), (4, .fn 138 []), (18, I6 (d_ : Int)), (19, I6 ((d_ + u : Nat) : Int)), (20, I6 (s0_ : Int)), (21, I6 (r0_ : Int)), (148, I6 (IntKind.i64.wrap (((d_ + u : Nat) : Int) - 1)))], []⟩ ?_
  refine Kn 148 .i64 ((d_ + u - 1 : Nat) : Int) rfl (by rw [wi64 (by omega) (by omega)]; omega) ?_
  refine Rn 5 (Qc B175 1020) [.blk 8, Qs B175 511] ⟨220, [(0, VL A n c), (1, I6 (a : Int)), (2, I6 (u : Int)), (3, I6 (b : Int)), (4, .fn 138 []), (18, I6 (d_ : Int)), (19, I6 ((d_ + u : Nat) : Int)), (20, I6 (s0_ : Int)), (21, I6 (r0_ : Int)), (22, I6 ((d_ + u - 1 : Nat) : Int))], []⟩ ?_
  refine X.loopJ (fun m s R' G' => ∃ (i_ j_ : Nat), s = ⟨220, [(0, VL A n c), (1, I6 (a : Int)), (2, I6 (u : Int)), (3, I6 (b : Int)), (4, .fn 138 []), (18, I6 (d_ : Int)), (19, I6 ((d_ + u : Nat) : Int)), (20, I6 (i_ : Int)), (21, I6 (j_ : Int)), (22, I6 ((d_ + u - 1 : Nat) : Int))], []⟩ ∧ R' = [(1, RR 184 14 A n c ((l).flatMap pkC))] ∧ Ge G1 w.heap.size G' ∧ ((s0_ ≤ i_ ∧ i_ ≤ j_ ∧ j_ ≤ r0_) ∧ (i_ = s0_ ∨ plI (l.getD (i_ - 1) pk0) ≤ plI (l.getD (d_ + u - i_) pk0)) ∧ (j_ = r0_ ∨ plI (l.getD (d_ + u - 1 - j_) pk0) < plI (l.getD j_ pk0))) ∧ m = (j_ - i_)) _ ⟨s0_, r0_, rfl, rfl, Ge.refl _ _, ⟨by omega, .inl rfl, .inl rfl⟩, rfl⟩ ?_
  rintro m2 s2 R2 G2 ⟨i_, j_, rfl, rfl, hG2, hF2, rfl⟩ J2 hJ2
  obtain ⟨hij_, hil_, hjr_⟩ := hF2
  refine Rn 8 (Qc B175 8161) [Qs B175 4081, .loop J2, .blk 8, Qs B175 511] ⟨220, [(0, VL A n c), (1, I6 (a : Int)), (2, I6 (u : Int)), (3, I6 (b : Int)), (4, .fn 138 []), (18, I6 (d_ : Int)), (19, I6 ((d_ + u : Nat) : Int)), (20, I6 (i_ : Int)), (21, I6 (j_ : Int)), (22, I6 ((d_ + u - 1 : Nat) : Int)), (151, VB (decide ((i_ : Int) < (j_ : Int))))], []⟩ ?_
  refine X.split 151 rfl (fun h3 => ?_) (fun h3 => ?_)
  ·
   replace h3 : (i_ : Int) < (j_ : Int) := of_decide_eq_true h3
   refine Rn 12 (Qo B175 16324 6) [Qs B175 16325, .blk 9, .loop J2, .blk 8, Qs B175 511] ⟨220, [(0, VL A n c), (1, I6 (a : Int)), (2, I6 (u : Int)), (3, I6 (b : Int)), (4, .fn 138 []), (18, I6 (d_ : Int)), (19, I6 ((d_ + u : Nat) : Int)), (20, I6 (i_ : Int)), (21, I6 (j_ : Int)), (22, I6 ((d_ + u - 1 : Nat) : Int)), (157, I6 (IntKind.i64.wrap (bshr .u64 (IntKind.u64.wrap (IntKind.i64.wrap ((i_ : Int) + (j_ : Int)))) 1)))], []⟩ ?_
   refine Kn 157 .i64 (((i_ + j_) / 2 : Nat) : Int) rfl (half_nat (by omega)) ?_
   refine Rn 4 (Qc B175 32650) [Qs B175 32651, .blk 9, .loop J2, .blk 8, Qs B175 511] ⟨220, [(0, VL A n c), (1, I6 (a : Int)), (2, I6 (u : Int)), (3, I6 (b : Int)), (4, .fn 138 []), (18, I6 (d_ : Int)), (19, I6 ((d_ + u : Nat) : Int)), (20, I6 (i_ : Int)), (21, I6 (j_ : Int)), (22, I6 ((d_ + u - 1 : Nat) : Int)), (23, I6 (((i_ + j_) / 2 : Nat) : Int))], []⟩ ?_
   refine Og 35 B175 32650 14 [] [(1, RR 184 14 A n c ((l).flatMap pkC))] [] trivial (by simp) (fun ρ0 => ?_)
   refine Tk 0 14 1 B175 32650 (.fn 138 []) QOk.body ?_
   refine Tk 1 14 3 B175 32650 (VL A n c) QOk.body ?_
   refine Tk 2 14 7 B175 32650 (I6 ((d_ + u - 1 : Nat) : Int)) QOk.body ?_
   refine Tk 3 14 15 B175 32650 (I6 (((i_ + j_) / 2 : Nat) : Int)) QOk.body ?_
   refine Tk 4 14 31 B175 32650 (I6 (IntKind.i64.wrap (((d_ + u - 1 : Nat) : Int) - (((i_ + j_) / 2 : Nat) : Int)))) QOk.body ?_
   refine Dk 162 .i64 ((d_ + u - 1 - (i_ + j_) / 2 : Nat) : Int) rfl (by rw [wi64 (by omega) (by omega)]; omega) ?_
   have b5 : (0 : Int) ≤ ((d_ + u - 1 - (i_ + j_) / 2 : Nat) : Int) := by omega
   have b6 : ((d_ + u - 1 - (i_ + j_) / 2 : Nat) : Int) < ((n : Nat) : Int) := by omega
   have at7 : At G2 [(1, ⟨184, 14, .slice A n c, n, (l).flatMap pkC⟩)] A ((((d_ + u - 1 - (i_ + j_) / 2 : Nat) : Int)).toNat * 14) [.int .u8 ((l.getD ((((d_ + u - 1 - (i_ + j_) / 2 : Nat) : Int)).toNat) pk0).1.x0), .int .u8 ((l.getD ((((d_ + u - 1 - (i_ + j_) / 2 : Nat) : Int)).toNat) pk0).1.x1), .int .u8 ((l.getD ((((d_ + u - 1 - (i_ + j_) / 2 : Nat) : Int)).toNat) pk0).1.x2), .int .u16 ((l.getD ((((d_ + u - 1 - (i_ + j_) / 2 : Nat) : Int)).toNat) pk0).1.x3), .int .u16 ((l.getD ((((d_ + u - 1 - (i_ + j_) / 2 : Nat) : Int)).toNat) pk0).1.x4), .int .u8 ((l.getD ((((d_ + u - 1 - (i_ + j_) / 2 : Nat) : Int)).toNat) pk0).1.x5), .int .u8 ((l.getD ((((d_ + u - 1 - (i_ + j_) / 2 : Nat) : Int)).toNat) pk0).1.x6), .int .u8 ((l.getD ((((d_ + u - 1 - (i_ + j_) / 2 : Nat) : Int)).toNat) pk0).1.x7), .int .u8 ((l.getD ((((d_ + u - 1 - (i_ + j_) / 2 : Nat) : Int)).toNat) pk0).1.x8), .int .u8 ((l.getD ((((d_ + u - 1 - (i_ + j_) / 2 : Nat) : Int)).toNat) pk0).1.x9), .int .u8 ((l.getD ((((d_ + u - 1 - (i_ + j_) / 2 : Nat) : Int)).toNat) pk0).1.y0), .int .u8 ((l.getD ((((d_ + u - 1 - (i_ + j_) / 2 : Nat) : Int)).toNat) pk0).1.y1), .int .u8 ((l.getD ((((d_ + u - 1 - (i_ + j_) / 2 : Nat) : Int)).toNat) pk0).1.y2), .string ((l.getD ((((d_ + u - 1 - (i_ + j_) / 2 : Nat) : Int)).toNat) pk0).2)] := At.rowF pkC pkC_len (i := 1) (r := ⟨184, 14, .slice A n c, n, (l).flatMap pkC⟩) pk0 rfl rfl rfl (by rw [hl]; omega)
   refine Dx 5 14 63 B175 32650 179 184 14 A n c .i64 ((d_ + u - 1 - (i_ + j_) / 2 : Nat) : Int) (.tmp 159) (.tmp 162) QOk.body b5 b6 (rowSome (i := 1) (q := (RR 184 14 A n c ((l).flatMap pkC))) rfl rfl (flat_pos pkC_len (by decide) (by rw [hl]; omega))) ?_
   have at8 : At G2 [(1, ⟨184, 14, .slice A n c, n, (l).flatMap pkC⟩)] A ((((d_ + u - 1 - (i_ + j_) / 2 : Nat) : Int)).toNat * 14) [.int .u8 ((l.getD ((((d_ + u - 1 - (i_ + j_) / 2 : Nat) : Int)).toNat) pk0).1.x0), .int .u8 ((l.getD ((((d_ + u - 1 - (i_ + j_) / 2 : Nat) : Int)).toNat) pk0).1.x1), .int .u8 ((l.getD ((((d_ + u - 1 - (i_ + j_) / 2 : Nat) : Int)).toNat) pk0).1.x2), .int .u16 ((l.getD ((((d_ + u - 1 - (i_ + j_) / 2 : Nat) : Int)).toNat) pk0).1.x3), .int .u16 ((l.getD ((((d_ + u - 1 - (i_ + j_) / 2 : Nat) : Int)).toNat) pk0).1.x4), .int .u8 ((l.getD ((((d_ + u - 1 - (i_ + j_) / 2 : Nat) : Int)).toNat) pk0).1.x5), .int .u8 ((l.getD ((((d_ + u - 1 - (i_ + j_) / 2 : Nat) : Int)).toNat) pk0).1.x6), .int .u8 ((l.getD ((((d_ + u - 1 - (i_ + j_) / 2 : Nat) : Int)).toNat) pk0).1.x7), .int .u8 ((l.getD ((((d_ + u - 1 - (i_ + j_) / 2 : Nat) : Int)).toNat) pk0).1.x8), .int .u8 ((l.getD ((((d_ + u - 1 - (i_ + j_) / 2 : Nat) : Int)).toNat) pk0).1.x9), .int .u8 ((l.getD ((((d_ + u - 1 - (i_ + j_) / 2 : Nat) : Int)).toNat) pk0).1.y0), .int .u8 ((l.getD ((((d_ + u - 1 - (i_ + j_) / 2 : Nat) : Int)).toNat) pk0).1.y1), .int .u8 ((l.getD ((((d_ + u - 1 - (i_ + j_) / 2 : Nat) : Int)).toNat) pk0).1.y2), .string ((l.getD ((((d_ + u - 1 - (i_ + j_) / 2 : Nat) : Int)).toNat) pk0).2)] := At.rowF pkC pkC_len (i := 1) (r := ⟨184, 14, .slice A n c, n, (l).flatMap pkC⟩) pk0 rfl rfl rfl (by rw [hl]; omega)
   refine Dl 6 14 127 B175 32650 184 A ((((d_ + u - 1 - (i_ + j_) / 2 : Nat) : Int)).toNat * 14) (.tmp 163) (.agg #[N8 ((l.getD ((((d_ + u - 1 - (i_ + j_) / 2 : Nat) : Int)).toNat) pk0).1.x0), N8 ((l.getD ((((d_ + u - 1 - (i_ + j_) / 2 : Nat) : Int)).toNat) pk0).1.x1), N8 ((l.getD ((((d_ + u - 1 - (i_ + j_) / 2 : Nat) : Int)).toNat) pk0).1.x2), N1 ((l.getD ((((d_ + u - 1 - (i_ + j_) / 2 : Nat) : Int)).toNat) pk0).1.x3), N1 ((l.getD ((((d_ + u - 1 - (i_ + j_) / 2 : Nat) : Int)).toNat) pk0).1.x4), N8 ((l.getD ((((d_ + u - 1 - (i_ + j_) / 2 : Nat) : Int)).toNat) pk0).1.x5), N8 ((l.getD ((((d_ + u - 1 - (i_ + j_) / 2 : Nat) : Int)).toNat) pk0).1.x6), N8 ((l.getD ((((d_ + u - 1 - (i_ + j_) / 2 : Nat) : Int)).toNat) pk0).1.x7), N8 ((l.getD ((((d_ + u - 1 - (i_ + j_) / 2 : Nat) : Int)).toNat) pk0).1.x8), N8 ((l.getD ((((d_ + u - 1 - (i_ + j_) / 2 : Nat) : Int)).toNat) pk0).1.x9), N8 ((l.getD ((((d_ + u - 1 - (i_ + j_) / 2 : Nat) : Int)).toNat) pk0).1.y0), N8 ((l.getD ((((d_ + u - 1 - (i_ + j_) / 2 : Nat) : Int)).toNat) pk0).1.y1), N8 ((l.getD ((((d_ + u - 1 - (i_ + j_) / 2 : Nat) : Int)).toNat) pk0).1.y2), .string ((l.getD ((((d_ + u - 1 - (i_ + j_) / 2 : Nat) : Int)).toNat) pk0).2)]) [N8 ((l.getD ((((d_ + u - 1 - (i_ + j_) / 2 : Nat) : Int)).toNat) pk0).1.x0), N8 ((l.getD ((((d_ + u - 1 - (i_ + j_) / 2 : Nat) : Int)).toNat) pk0).1.x1), N8 ((l.getD ((((d_ + u - 1 - (i_ + j_) / 2 : Nat) : Int)).toNat) pk0).1.x2), N1 ((l.getD ((((d_ + u - 1 - (i_ + j_) / 2 : Nat) : Int)).toNat) pk0).1.x3), N1 ((l.getD ((((d_ + u - 1 - (i_ + j_) / 2 : Nat) : Int)).toNat) pk0).1.x4), N8 ((l.getD ((((d_ + u - 1 - (i_ + j_) / 2 : Nat) : Int)).toNat) pk0).1.x5), N8 ((l.getD ((((d_ + u - 1 - (i_ + j_) / 2 : Nat) : Int)).toNat) pk0).1.x6), N8 ((l.getD ((((d_ + u - 1 - (i_ + j_) / 2 : Nat) : Int)).toNat) pk0).1.x7), N8 ((l.getD ((((d_ + u - 1 - (i_ + j_) / 2 : Nat) : Int)).toNat) pk0).1.x8), N8 ((l.getD ((((d_ + u - 1 - (i_ + j_) / 2 : Nat) : Int)).toNat) pk0).1.x9), N8 ((l.getD ((((d_ + u - 1 - (i_ + j_) / 2 : Nat) : Int)).toNat) pk0).1.y0), N8 ((l.getD ((((d_ + u - 1 - (i_ + j_) / 2 : Nat) : Int)).toNat) pk0).1.y1), N8 ((l.getD ((((d_ + u - 1 - (i_ + j_) / 2 : Nat) : Int)).toNat) pk0).1.y2), .string ((l.getD ((((d_ + u - 1 - (i_ + j_) / 2 : Nat) : Int)).toNat) pk0).2)] QOk.body at8 ?_
   refine Tk 7 14 255 B175 32650 (VL A n c) QOk.body ?_
   refine Tk 8 14 511 B175 32650 (I6 (((i_ + j_) / 2 : Nat) : Int)) QOk.body ?_
   have b9 : (0 : Int) ≤ (((i_ + j_) / 2 : Nat) : Int) := by omega
   have b10 : (((i_ + j_) / 2 : Nat) : Int) < ((n : Nat) : Int) := by omega
   have at11 : At G2 [(1, ⟨184, 14, .slice A n c, n, (l).flatMap pkC⟩)] A (((((i_ + j_) / 2 : Nat) : Int)).toNat * 14) [.int .u8 ((l.getD (((((i_ + j_) / 2 : Nat) : Int)).toNat) pk0).1.x0), .int .u8 ((l.getD (((((i_ + j_) / 2 : Nat) : Int)).toNat) pk0).1.x1), .int .u8 ((l.getD (((((i_ + j_) / 2 : Nat) : Int)).toNat) pk0).1.x2), .int .u16 ((l.getD (((((i_ + j_) / 2 : Nat) : Int)).toNat) pk0).1.x3), .int .u16 ((l.getD (((((i_ + j_) / 2 : Nat) : Int)).toNat) pk0).1.x4), .int .u8 ((l.getD (((((i_ + j_) / 2 : Nat) : Int)).toNat) pk0).1.x5), .int .u8 ((l.getD (((((i_ + j_) / 2 : Nat) : Int)).toNat) pk0).1.x6), .int .u8 ((l.getD (((((i_ + j_) / 2 : Nat) : Int)).toNat) pk0).1.x7), .int .u8 ((l.getD (((((i_ + j_) / 2 : Nat) : Int)).toNat) pk0).1.x8), .int .u8 ((l.getD (((((i_ + j_) / 2 : Nat) : Int)).toNat) pk0).1.x9), .int .u8 ((l.getD (((((i_ + j_) / 2 : Nat) : Int)).toNat) pk0).1.y0), .int .u8 ((l.getD (((((i_ + j_) / 2 : Nat) : Int)).toNat) pk0).1.y1), .int .u8 ((l.getD (((((i_ + j_) / 2 : Nat) : Int)).toNat) pk0).1.y2), .string ((l.getD (((((i_ + j_) / 2 : Nat) : Int)).toNat) pk0).2)] := At.rowF pkC pkC_len (i := 1) (r := ⟨184, 14, .slice A n c, n, (l).flatMap pkC⟩) pk0 rfl rfl rfl (by rw [hl]; omega)
   refine Dx 9 14 1023 B175 32650 179 184 14 A n c .i64 (((i_ + j_) / 2 : Nat) : Int) (.tmp 165) (.tmp 166) QOk.body b9 b10 (rowSome (i := 1) (q := (RR 184 14 A n c ((l).flatMap pkC))) rfl rfl (flat_pos pkC_len (by decide) (by rw [hl]; omega))) ?_
   have at12 : At G2 [(1, ⟨184, 14, .slice A n c, n, (l).flatMap pkC⟩)] A (((((i_ + j_) / 2 : Nat) : Int)).toNat * 14) [.int .u8 ((l.getD (((((i_ + j_) / 2 : Nat) : Int)).toNat) pk0).1.x0), .int .u8 ((l.getD (((((i_ + j_) / 2 : Nat) : Int)).toNat) pk0).1.x1), .int .u8 ((l.getD (((((i_ + j_) / 2 : Nat) : Int)).toNat) pk0).1.x2), .int .u16 ((l.getD (((((i_ + j_) / 2 : Nat) : Int)).toNat) pk0).1.x3), .int .u16 ((l.getD (((((i_ + j_) / 2 : Nat) : Int)).toNat) pk0).1.x4), .int .u8 ((l.getD (((((i_ + j_) / 2 : Nat) : Int)).toNat) pk0).1.x5), .int .u8 ((l.getD (((((i_ + j_) / 2 : Nat) : Int)).toNat) pk0).1.x6), .int .u8 ((l.getD (((((i_ + j_) / 2 : Nat) : Int)).toNat) pk0).1.x7), .int .u8 ((l.getD (((((i_ + j_) / 2 : Nat) : Int)).toNat) pk0).1.x8), .int .u8 ((l.getD (((((i_ + j_) / 2 : Nat) : Int)).toNat) pk0).1.x9), .int .u8 ((l.getD (((((i_ + j_) / 2 : Nat) : Int)).toNat) pk0).1.y0), .int .u8 ((l.getD (((((i_ + j_) / 2 : Nat) : Int)).toNat) pk0).1.y1), .int .u8 ((l.getD (((((i_ + j_) / 2 : Nat) : Int)).toNat) pk0).1.y2), .string ((l.getD (((((i_ + j_) / 2 : Nat) : Int)).toNat) pk0).2)] := At.rowF pkC pkC_len (i := 1) (r := ⟨184, 14, .slice A n c, n, (l).flatMap pkC⟩) pk0 rfl rfl rfl (by rw [hl]; omega)
   refine Dl 10 14 2047 B175 32650 184 A (((((i_ + j_) / 2 : Nat) : Int)).toNat * 14) (.tmp 167) (.agg #[N8 ((l.getD (((((i_ + j_) / 2 : Nat) : Int)).toNat) pk0).1.x0), N8 ((l.getD (((((i_ + j_) / 2 : Nat) : Int)).toNat) pk0).1.x1), N8 ((l.getD (((((i_ + j_) / 2 : Nat) : Int)).toNat) pk0).1.x2), N1 ((l.getD (((((i_ + j_) / 2 : Nat) : Int)).toNat) pk0).1.x3), N1 ((l.getD (((((i_ + j_) / 2 : Nat) : Int)).toNat) pk0).1.x4), N8 ((l.getD (((((i_ + j_) / 2 : Nat) : Int)).toNat) pk0).1.x5), N8 ((l.getD (((((i_ + j_) / 2 : Nat) : Int)).toNat) pk0).1.x6), N8 ((l.getD (((((i_ + j_) / 2 : Nat) : Int)).toNat) pk0).1.x7), N8 ((l.getD (((((i_ + j_) / 2 : Nat) : Int)).toNat) pk0).1.x8), N8 ((l.getD (((((i_ + j_) / 2 : Nat) : Int)).toNat) pk0).1.x9), N8 ((l.getD (((((i_ + j_) / 2 : Nat) : Int)).toNat) pk0).1.y0), N8 ((l.getD (((((i_ + j_) / 2 : Nat) : Int)).toNat) pk0).1.y1), N8 ((l.getD (((((i_ + j_) / 2 : Nat) : Int)).toNat) pk0).1.y2), .string ((l.getD (((((i_ + j_) / 2 : Nat) : Int)).toNat) pk0).2)]) [N8 ((l.getD (((((i_ + j_) / 2 : Nat) : Int)).toNat) pk0).1.x0), N8 ((l.getD (((((i_ + j_) / 2 : Nat) : Int)).toNat) pk0).1.x1), N8 ((l.getD (((((i_ + j_) / 2 : Nat) : Int)).toNat) pk0).1.x2), N1 ((l.getD (((((i_ + j_) / 2 : Nat) : Int)).toNat) pk0).1.x3), N1 ((l.getD (((((i_ + j_) / 2 : Nat) : Int)).toNat) pk0).1.x4), N8 ((l.getD (((((i_ + j_) / 2 : Nat) : Int)).toNat) pk0).1.x5), N8 ((l.getD (((((i_ + j_) / 2 : Nat) : Int)).toNat) pk0).1.x6), N8 ((l.getD (((((i_ + j_) / 2 : Nat) : Int)).toNat) pk0).1.x7), N8 ((l.getD (((((i_ + j_) / 2 : Nat) : Int)).toNat) pk0).1.x8), N8 ((l.getD (((((i_ + j_) / 2 : Nat) : Int)).toNat) pk0).1.x9), N8 ((l.getD (((((i_ + j_) / 2 : Nat) : Int)).toNat) pk0).1.y0), N8 ((l.getD (((((i_ + j_) / 2 : Nat) : Int)).toNat) pk0).1.y1), N8 ((l.getD (((((i_ + j_) / 2 : Nat) : Int)).toNat) pk0).1.y2), .string ((l.getD (((((i_ + j_) / 2 : Nat) : Int)).toNat) pk0).2)] QOk.body at12 ?_
   refine Dn ⟨220, [(0, VL A n c), (1, I6 (a : Int)), (2, I6 (u : Int)), (3, I6 (b : Int)), (4, .fn 138 []), (18, I6 (d_ : Int)), (19, I6 ((d_ + u : Nat) : Int)), (20, I6 (i_ : Int)), (21, I6 (j_ : Int)), (22, I6 ((d_ + u - 1 : Nat) : Int)), (23, I6 (((i_ + j_) / 2 : Nat) : Int)), (158, .fn 138 []), (164, .v (.agg #[N8 ((l.getD ((((d_ + u - 1 - (i_ + j_) / 2 : Nat) : Int)).toNat) pk0).1.x0), N8 ((l.getD ((((d_ + u - 1 - (i_ + j_) / 2 : Nat) : Int)).toNat) pk0).1.x1), N8 ((l.getD ((((d_ + u - 1 - (i_ + j_) / 2 : Nat) : Int)).toNat) pk0).1.x2), N1 ((l.getD ((((d_ + u - 1 - (i_ + j_) / 2 : Nat) : Int)).toNat) pk0).1.x3), N1 ((l.getD ((((d_ + u - 1 - (i_ + j_) / 2 : Nat) : Int)).toNat) pk0).1.x4), N8 ((l.getD ((((d_ + u - 1 - (i_ + j_) / 2 : Nat) : Int)).toNat) pk0).1.x5), N8 ((l.getD ((((d_ + u - 1 - (i_ + j_) / 2 : Nat) : Int)).toNat) pk0).1.x6), N8 ((l.getD ((((d_ + u - 1 - (i_ + j_) / 2 : Nat) : Int)).toNat) pk0).1.x7), N8 ((l.getD ((((d_ + u - 1 - (i_ + j_) / 2 : Nat) : Int)).toNat) pk0).1.x8), N8 ((l.getD ((((d_ + u - 1 - (i_ + j_) / 2 : Nat) : Int)).toNat) pk0).1.x9), N8 ((l.getD ((((d_ + u - 1 - (i_ + j_) / 2 : Nat) : Int)).toNat) pk0).1.y0), N8 ((l.getD ((((d_ + u - 1 - (i_ + j_) / 2 : Nat) : Int)).toNat) pk0).1.y1), N8 ((l.getD ((((d_ + u - 1 - (i_ + j_) / 2 : Nat) : Int)).toNat) pk0).1.y2), .string ((l.getD ((((d_ + u - 1 - (i_ + j_) / 2 : Nat) : Int)).toNat) pk0).2)])), (168, .v (.agg #[N8 ((l.getD (((((i_ + j_) / 2 : Nat) : Int)).toNat) pk0).1.x0), N8 ((l.getD (((((i_ + j_) / 2 : Nat) : Int)).toNat) pk0).1.x1), N8 ((l.getD (((((i_ + j_) / 2 : Nat) : Int)).toNat) pk0).1.x2), N1 ((l.getD (((((i_ + j_) / 2 : Nat) : Int)).toNat) pk0).1.x3), N1 ((l.getD (((((i_ + j_) / 2 : Nat) : Int)).toNat) pk0).1.x4), N8 ((l.getD (((((i_ + j_) / 2 : Nat) : Int)).toNat) pk0).1.x5), N8 ((l.getD (((((i_ + j_) / 2 : Nat) : Int)).toNat) pk0).1.x6), N8 ((l.getD (((((i_ + j_) / 2 : Nat) : Int)).toNat) pk0).1.x7), N8 ((l.getD (((((i_ + j_) / 2 : Nat) : Int)).toNat) pk0).1.x8), N8 ((l.getD (((((i_ + j_) / 2 : Nat) : Int)).toNat) pk0).1.x9), N8 ((l.getD (((((i_ + j_) / 2 : Nat) : Int)).toNat) pk0).1.y0), N8 ((l.getD (((((i_ + j_) / 2 : Nat) : Int)).toNat) pk0).1.y1), N8 ((l.getD (((((i_ + j_) / 2 : Nat) : Int)).toNat) pk0).1.y2), .string ((l.getD (((((i_ + j_) / 2 : Nat) : Int)).toNat) pk0).2)]))], []⟩ trivial ?_
   refine Do 11 14 4095 B175 32650 ?_
   refine Cg 138 [.agg #[N8 ((l.getD ((((d_ + u - 1 - (i_ + j_) / 2 : Nat) : Int)).toNat) pk0).1.x0), N8 ((l.getD ((((d_ + u - 1 - (i_ + j_) / 2 : Nat) : Int)).toNat) pk0).1.x1), N8 ((l.getD ((((d_ + u - 1 - (i_ + j_) / 2 : Nat) : Int)).toNat) pk0).1.x2), N1 ((l.getD ((((d_ + u - 1 - (i_ + j_) / 2 : Nat) : Int)).toNat) pk0).1.x3), N1 ((l.getD ((((d_ + u - 1 - (i_ + j_) / 2 : Nat) : Int)).toNat) pk0).1.x4), N8 ((l.getD ((((d_ + u - 1 - (i_ + j_) / 2 : Nat) : Int)).toNat) pk0).1.x5), N8 ((l.getD ((((d_ + u - 1 - (i_ + j_) / 2 : Nat) : Int)).toNat) pk0).1.x6), N8 ((l.getD ((((d_ + u - 1 - (i_ + j_) / 2 : Nat) : Int)).toNat) pk0).1.x7), N8 ((l.getD ((((d_ + u - 1 - (i_ + j_) / 2 : Nat) : Int)).toNat) pk0).1.x8), N8 ((l.getD ((((d_ + u - 1 - (i_ + j_) / 2 : Nat) : Int)).toNat) pk0).1.x9), N8 ((l.getD ((((d_ + u - 1 - (i_ + j_) / 2 : Nat) : Int)).toNat) pk0).1.y0), N8 ((l.getD ((((d_ + u - 1 - (i_ + j_) / 2 : Nat) : Int)).toNat) pk0).1.y1), N8 ((l.getD ((((d_ + u - 1 - (i_ + j_) / 2 : Nat) : Int)).toNat) pk0).1.y2), .string ((l.getD ((((d_ + u - 1 - (i_ + j_) / 2 : Nat) : Int)).toNat) pk0).2)], .agg #[N8 ((l.getD (((((i_ + j_) / 2 : Nat) : Int)).toNat) pk0).1.x0), N8 ((l.getD (((((i_ + j_) / 2 : Nat) : Int)).toNat) pk0).1.x1), N8 ((l.getD (((((i_ + j_) / 2 : Nat) : Int)).toNat) pk0).1.x2), N1 ((l.getD (((((i_ + j_) / 2 : Nat) : Int)).toNat) pk0).1.x3), N1 ((l.getD (((((i_ + j_) / 2 : Nat) : Int)).toNat) pk0).1.x4), N8 ((l.getD (((((i_ + j_) / 2 : Nat) : Int)).toNat) pk0).1.x5), N8 ((l.getD (((((i_ + j_) / 2 : Nat) : Int)).toNat) pk0).1.x6), N8 ((l.getD (((((i_ + j_) / 2 : Nat) : Int)).toNat) pk0).1.x7), N8 ((l.getD (((((i_ + j_) / 2 : Nat) : Int)).toNat) pk0).1.x8), N8 ((l.getD (((((i_ + j_) / 2 : Nat) : Int)).toNat) pk0).1.x9), N8 ((l.getD (((((i_ + j_) / 2 : Nat) : Int)).toNat) pk0).1.y0), N8 ((l.getD (((((i_ + j_) / 2 : Nat) : Int)).toNat) pk0).1.y1), N8 ((l.getD (((((i_ + j_) / 2 : Nat) : Int)).toNat) pk0).1.y2), .string ((l.getD (((((i_ + j_) / 2 : Nat) : Int)).toNat) pk0).2)]] 0 (cmpP_ok (l.getD ((((d_ + u - 1 - (i_ + j_) / 2 : Nat) : Int)).toNat) pk0) (l.getD (((((i_ + j_) / 2 : Nat) : Int)).toNat) pk0) _ (hok _ (getD_mem (by omega))) (hok _ (getD_mem (by omega)))) ?_
   rintro v13 G13 rows13 hG13 ⟨rfl, rfl⟩
   refine X.back ⟨trivial, hG13.le, rfl, ?_⟩
   refine Ts [12, 13] 14 16383 0 2 QOk.body ?_
   refine XD.done (by kernel_rfl) ?_
   refine Rn 1 (Qc B175 32651) [.blk 9, .loop J2, .blk 8, Qs B175 511] ⟨220, [(0, VL A n c), (1, I6 (a : Int)), (2, I6 (u : Int)), (3, I6 (b : Int)), (4, .fn 138 []), (18, I6 (d_ : Int)), (19, I6 ((d_ + u : Nat) : Int)), (20, I6 (i_ : Int)), (21, I6 (j_ : Int)), (22, I6 ((d_ + u - 1 : Nat) : Int)), (23, I6 (((i_ + j_) / 2 : Nat) : Int)), (171, VB (!(decide (cmpI (plI (l.getD ((((d_ + u - 1 - (i_ + j_) / 2 : Nat) : Int)).toNat) pk0)) (plI (l.getD (((((i_ + j_) / 2 : Nat) : Int)).toNat) pk0)) < 0))))], []⟩ ?_
   refine X.split 171 rfl (fun h14 => ?_) (fun h14 => ?_)
   ·
    replace h14 : (decide (cmpI (plI (l.getD ((((d_ + u - 1 - (i_ + j_) / 2 : Nat) : Int)).toNat) pk0)) (plI (l.getD (((((i_ + j_) / 2 : Nat) : Int)).toNat) pk0)) < 0)) = false := by first | (simpa using h14; done) | (have h_ := congrArg (fun b_ => !b_) h14; simpa only [Bool.not_not, Bool.not_true, Bool.not_false] using h_)
    replace h14 : ¬ (cmpI (plI (l.getD ((((d_ + u - 1 - (i_ + j_) / 2 : Nat) : Int)).toNat) pk0)) (plI (l.getD (((((i_ + j_) / 2 : Nat) : Int)).toNat) pk0)) < 0) := of_decide_eq_false h14
    have hle_ : plI (l.getD (((i_ + j_) / 2) + 1 - 1) pk0) ≤ plI (l.getD (d_ + u - (((i_ + j_) / 2) + 1)) pk0) := by
     rw [show d_ + u - (((i_ + j_) / 2) + 1) = d_ + u - 1 - ((i_ + j_) / 2) by omega]
     exact Int.not_lt.mp (fun h_ => h14 (cmpI_lt.mpr h_))
    refine Rn 4 (Qo B175 65302 2) [.blk 9, .loop J2, .blk 8, Qs B175 511] ⟨220, [(0, VL A n c), (1, I6 (a : Int)), (2, I6 (u : Int)), (3, I6 (b : Int)), (4, .fn 138 []), (18, I6 (d_ : Int)), (19, I6 ((d_ + u : Nat) : Int)), (20, I6 (i_ : Int)), (21, I6 (j_ : Int)), (22, I6 ((d_ + u - 1 : Nat) : Int)), (173, I6 (IntKind.i64.wrap ((((i_ + j_) / 2 : Nat) : Int) + 1)))], []⟩ ?_
    refine Kn 173 .i64 (((i_ + j_) / 2 + 1 : Nat) : Int) rfl (by rw [wi64 (by omega) (by omega)]; push_cast; omega) ?_
    refine Rn 3 (.ex .normal) [.loop J2, .blk 8, Qs B175 511] ⟨220, [(0, VL A n c), (1, I6 (a : Int)), (2, I6 (u : Int)), (3, I6 (b : Int)), (4, .fn 138 []), (18, I6 (d_ : Int)), (19, I6 ((d_ + u : Nat) : Int)), (20, I6 (((i_ + j_) / 2 + 1 : Nat) : Int)), (21, I6 (j_ : Int)), (22, I6 ((d_ + u - 1 : Nat) : Int))], []⟩ ?_
    exact X.again (hJ2 _ _ _ _ ⟨((i_ + j_) / 2 + 1), j_, rfl, rfl, (hG2.trans hG13), ⟨by omega, .inr hle_, hjr_⟩, rfl⟩ (by omega))
   ·
    replace h14 : (decide (cmpI (plI (l.getD ((((d_ + u - 1 - (i_ + j_) / 2 : Nat) : Int)).toNat) pk0)) (plI (l.getD (((((i_ + j_) / 2 : Nat) : Int)).toNat) pk0)) < 0)) = true := by first | (simpa using h14; done) | (have h_ := congrArg (fun b_ => !b_) h14; simpa only [Bool.not_not, Bool.not_true, Bool.not_false] using h_)
    replace h14 : cmpI (plI (l.getD ((((d_ + u - 1 - (i_ + j_) / 2 : Nat) : Int)).toNat) pk0)) (plI (l.getD (((((i_ + j_) / 2 : Nat) : Int)).toNat) pk0)) < 0 := of_decide_eq_true h14
    have hge_ : plI (l.getD (d_ + u - 1 - ((i_ + j_) / 2)) pk0) < plI (l.getD ((i_ + j_) / 2) pk0) := cmpI_lt.mp h14
    refine Rn 6 (.ex .normal) [.loop J2, .blk 8, Qs B175 511] ⟨220, [(0, VL A n c), (1, I6 (a : Int)), (2, I6 (u : Int)), (3, I6 (b : Int)), (4, .fn 138 []), (18, I6 (d_ : Int)), (19, I6 ((d_ + u : Nat) : Int)), (20, I6 (i_ : Int)), (21, I6 (((i_ + j_) / 2 : Nat) : Int)), (22, I6 ((d_ + u - 1 : Nat) : Int))], []⟩ ?_
    exact X.again (hJ2 _ _ _ _ ⟨i_, ((i_ + j_) / 2), rfl, rfl, (hG2.trans hG13), ⟨by omega, hil_, .inr hge_⟩, rfl⟩ (by omega))
  ·
   replace h3 : ¬ ((i_ : Int) < (j_ : Int)) := of_decide_eq_false h3
   obtain ⟨e_, he_⟩ : ∃ e_, d_ + u - i_ = e_ := ⟨_, rfl⟩
   have hre_ : a ≤ i_ ∧ i_ ≤ u ∧ u ≤ e_ ∧ e_ ≤ b ∧ i_ + e_ = d_ + u := by omega
   have hde_ : a ≤ d_ ∧ d_ ≤ b ∧ i_ ≤ d_ ∧ d_ ≤ e_ := by omega
   have hL_ : (i_ = a ∨ e_ = b) ∨ plI (l.getD (i_ - 1) pk0) ≤ plI (l.getD e_ pk0) := by
    rcases hil_ with h_ | h_
    · exact .inl (by omega)
    · exact .inr (by rw [← he_]; exact h_)
   have hR_ : (i_ = u ∨ e_ = u) ∨ plI (l.getD (e_ - 1) pk0) < plI (l.getD i_ pk0) := by
    rcases hjr_ with h_ | h_
    · exact .inl (by omega)
    ·
     refine .inr ?_
     rw [show j_ = i_ by omega] at h_
     rw [show e_ - 1 = d_ + u - 1 - i_ by omega]
     exact h_
   refine Rn 11 (Qo B175 1022 3) [Qs B175 1023] ⟨220, [(0, VL A n c), (1, I6 (a : Int)), (2, I6 (u : Int)), (3, I6 (b : Int)), (4, .fn 138 []), (18, I6 (d_ : Int)), (20, I6 (i_ : Int)), (177, I6 (IntKind.i64.wrap (((d_ + u : Nat) : Int) - (i_ : Int))))], []⟩ ?_
   refine Kn 177 .i64 (e_ : Int) rfl (by rw [wi64 (by omega) (by omega)]; omega) ?_
   refine Rn 10 (Qo B175 4092 4) [Qs B175 4093, Qs B175 2047] ⟨220, [(0, VL A n c), (1, I6 (a : Int)), (2, I6 (u : Int)), (3, I6 (b : Int)), (4, .fn 138 []), (18, I6 (d_ : Int)), (20, I6 (i_ : Int)), (24, I6 (e_ : Int)), (181, VB (decide ((i_ : Int) < (u : Int))))], []⟩ ?_
   refine X.joinJ (Qc B175 2047) [] (fun s2_ R2_ G2_ => ∃ (l1_ : List Pk), s2_ = ⟨220, [(0, VL A n c), (1, I6 (a : Int)), (3, I6 (b : Int)), (4, .fn 138 []), (18, I6 (d_ : Int)), (20, I6 (i_ : Int)), (24, I6 (e_ : Int))], []⟩ ∧ R2_ = [(1, RR 184 14 A n c ((l1_).flatMap pkC))] ∧ Ge G2 w.heap.size G2_ ∧ (l1_ = l.take a ++ (btw l a i_ ++ (btw l u e_ ++ (btw l i_ u ++ (btw l e_ b ++ l.drop b)))))) ?_ fun hY15 => ?_
   ·
    rintro s2_ R2_ G15 ⟨l1_, rfl, rfl, hG15, hF_⟩
    have hsm_ : Sm l l1_ a i_ u e_ d_ b := sm_parts (by omega) hre_ hF_
    have hl1_ : l1_.length = n := hsm_.len.trans hl
    have hok1_ : ∀ x ∈ l1_, x.1.ok := fun x_ h_ => hok x_ (hsm_.mem x_ h_)
    have hs1_ : Srt l1_ a i_ := by unfold Srt; rw [hsm_.p1]; exact srt_sub hs1 (by omega) (by omega) (by omega)
    have hs2_ : Srt l1_ i_ d_ := by unfold Srt; rw [hsm_.p2]; exact srt_sub hs2 (by omega) (by omega) (by omega)
    refine Rn 7 (Qo B175 8188 4) [Qs B175 8189, Qs B175 4095] ⟨220, [(0, VL A n c), (1, I6 (a : Int)), (3, I6 (b : Int)), (4, .fn 138 []), (18, I6 (d_ : Int)), (20, I6 (i_ : Int)), (24, I6 (e_ : Int)), (195, VB (decide ((a : Int) < (i_ : Int))))], []⟩ ?_
    refine X.joinJ (Qc B175 4095) [] (fun s2_ R2_ G2_ => ∃ (l2_ : List Pk), s2_ = ⟨220, [(0, VL A n c), (3, I6 (b : Int)), (4, .fn 138 []), (18, I6 (d_ : Int)), (24, I6 (e_ : Int))], []⟩ ∧ R2_ = [(1, RR 184 14 A n c ((l2_).flatMap pkC))] ∧ Ge G15 w.heap.size G2_ ∧ (Mg l1_ l2_ a d_ ∧ Srt l2_ a d_)) ?_ fun hY16 => ?_
    ·
     rintro s2_ R2_ G16 ⟨l2_, rfl, rfl, hG16, hF_⟩
     obtain ⟨hm2_, ho2_⟩ := hF_
     have hl2_ : l2_.length = n := hm2_.len.trans hl1_
     have hok2_ : ∀ x ∈ l2_, x.1.ok := fun x_ h_ => hok1_ x_ (hm2_.mem (by omega) h_)
     have hs3_ : Srt l2_ d_ e_ := by unfold Srt; rw [btw_hi hm2_.hi (Nat.le_refl _), hsm_.p3]; exact srt_sub hs1 (by omega) (by omega) (by omega)
     have hs4_ : Srt l2_ e_ b := by unfold Srt; rw [btw_hi hm2_.hi (by omega), hsm_.p4]; exact srt_sub hs2 (by omega) (by omega) (by omega)
     refine Rn 6 (Qo B175 8190 4) [Qs B175 8191] ⟨220, [(0, VL A n c), (3, I6 (b : Int)), (4, .fn 138 []), (18, I6 (d_ : Int)), (24, I6 (e_ : Int)), (209, VB (decide ((d_ : Int) < (e_ : Int))))], []⟩ ?_
     refine X.split 209 rfl (fun h17 => ?_) (fun h17 => ?_)
     ·
      replace h17 : (d_ : Int) < (e_ : Int) := of_decide_eq_true h17
      refine Rn 6 (Qc B175 8191) [] ⟨220, [(0, VL A n c), (3, I6 (b : Int)), (4, .fn 138 []), (18, I6 (d_ : Int)), (24, I6 (e_ : Int)), (213, VB (decide ((e_ : Int) < (b : Int))))], []⟩ ?_
      refine X.split 213 rfl (fun h18 => ?_) (fun h18 => ?_)
      ·
       replace h18 : (e_ : Int) < (b : Int) := of_decide_eq_true h18
       refine Rn 7 (Qo B175 16382 5) [] ⟨220, [(214, VL A n c), (215, I6 (d_ : Int)), (216, I6 (e_ : Int)), (217, I6 (b : Int)), (218, .fn 138 [])], []⟩ ?_
       refine X.callR (f := 175) (l := [VL A n c, I6 (d_ : Int), I6 (e_ : Int), I6 (b : Int), .fn 138 []]) 1 (q := (RR 184 14 A n c ((l2_).flatMap pkC))) (by kernel_rfl) rfl (by kernel_rfl) rfl (IH l2_ d_ e_ b _ (by omega) (by omega) (by omega) (by omega) hl2_ hok2_ hs3_ hs4_) ?_
       rintro _ _ ⟨rfl, l7_, hml7_, hol7_, rfl⟩
       refine X.tellR [1] (R' := [(1, RR 184 14 A n c ((l7_).flatMap pkC))]) rfl ?_
       have hl7_ : l7_.length = n := hml7_.len.trans hl2_
       refine Rn 1 (.ex .normal) [] ⟨220, [], []⟩ ?_
       refine doneR (.inr rfl) [] 1 (l7_.flatMap pkC) (by kernel_rfl) rfl ?_
       have hfin_ := sm_end (by omega) hre_ hde_ hs1 hs2 hsm_ hL_ hR_ hm2_ ho2_ hml7_ hol7_
       exact ⟨rfl, _, hfin_.1, hfin_.2, rfl⟩
      ·
       replace h18 : ¬ ((e_ : Int) < (b : Int)) := of_decide_eq_false h18
       refine Rn 2 (.ex .normal) [] ⟨220, [], []⟩ ?_
       refine doneR (.inr rfl) [] 1 ((l2_).flatMap pkC) (by kernel_rfl) rfl ?_
       have hsk_ : Srt l2_ d_ b := by
        unfold Srt
        rw [btw_split (u := e_) (by omega) (by omega)]
        rcases (show e_ = d_ ∨ e_ = b by omega) with h_ | h_
        · rw [btw_nil (a := d_) (by omega), List.nil_append]; exact hs4_
        · rw [btw_nil (a := e_) (by omega), List.append_nil]; exact hs3_
       have hfin_ := sm_end (by omega) hre_ hde_ hs1 hs2 hsm_ hL_ hR_ hm2_ ho2_ (Mg.refl _ _ _) hsk_
       exact ⟨rfl, _, hfin_.1, hfin_.2, rfl⟩
     ·
      replace h17 : ¬ ((d_ : Int) < (e_ : Int)) := of_decide_eq_false h17
      refine Rn 8 (.ex .normal) [] ⟨220, [], []⟩ ?_
      refine doneR (.inr rfl) [] 1 ((l2_).flatMap pkC) (by kernel_rfl) rfl ?_
      have hsk_ : Srt l2_ d_ b := by
       unfold Srt
       rw [btw_split (u := e_) (by omega) (by omega)]
       rcases (show e_ = d_ ∨ e_ = b by omega) with h_ | h_
       · rw [btw_nil (a := d_) (by omega), List.nil_append]; exact hs4_
       · rw [btw_nil (a := e_) (by omega), List.append_nil]; exact hs3_
      have hfin_ := sm_end (by omega) hre_ hde_ hs1 hs2 hsm_ hL_ hR_ hm2_ ho2_ (Mg.refl _ _ _) hsk_
      exact ⟨rfl, _, hfin_.1, hfin_.2, rfl⟩
    ·
     refine X.split 195 rfl (fun h19 => ?_) (fun h19 => ?_)
     ·
      replace h19 : (a : Int) < (i_ : Int) := of_decide_eq_true h19
      refine Rn 6 (Qc B175 8189) [Qs B175 4095] ⟨220, [(0, VL A n c), (1, I6 (a : Int)), (3, I6 (b : Int)), (4, .fn 138 []), (18, I6 (d_ : Int)), (20, I6 (i_ : Int)), (24, I6 (e_ : Int)), (199, VB (decide ((i_ : Int) < (d_ : Int))))], []⟩ ?_
      refine X.split 199 rfl (fun h20 => ?_) (fun h20 => ?_)
      ·
       replace h20 : (i_ : Int) < (d_ : Int) := of_decide_eq_true h20
       refine Rn 7 (Qo B175 16378 5) [Qs B175 4095] ⟨220, [(0, VL A n c), (3, I6 (b : Int)), (4, .fn 138 []), (18, I6 (d_ : Int)), (24, I6 (e_ : Int)), (200, VL A n c), (201, I6 (a : Int)), (202, I6 (i_ : Int)), (203, I6 (d_ : Int)), (204, .fn 138 [])], []⟩ ?_
       refine X.callR (f := 175) (l := [VL A n c, I6 (a : Int), I6 (i_ : Int), I6 (d_ : Int), .fn 138 []]) 1 (q := (RR 184 14 A n c ((l1_).flatMap pkC))) (by kernel_rfl) rfl (by kernel_rfl) rfl (IH l1_ a i_ d_ _ (by omega) (by omega) (by omega) (by omega) hl1_ hok1_ hs1_ hs2_) ?_
       rintro _ _ ⟨rfl, l6_, hml6_, hol6_, rfl⟩
       refine X.tellR [1] (R' := [(1, RR 184 14 A n c ((l6_).flatMap pkC))]) rfl ?_
       have hl6_ : l6_.length = n := hml6_.len.trans hl1_
       refine Rn 2 (Qc B175 4095) [] ⟨220, [(0, VL A n c), (3, I6 (b : Int)), (4, .fn 138 []), (18, I6 (d_ : Int)), (24, I6 (e_ : Int))], []⟩ ?_
       exact hY16 _ _ _ ⟨l6_, rfl, rfl, (Ge.refl _ _), ⟨hml6_, hol6_⟩⟩
      ·
       replace h20 : ¬ ((i_ : Int) < (d_ : Int)) := of_decide_eq_false h20
       refine Rn 3 (Qc B175 4095) [] ⟨220, [(0, VL A n c), (3, I6 (b : Int)), (4, .fn 138 []), (18, I6 (d_ : Int)), (24, I6 (e_ : Int))], []⟩ ?_
       have hsk_ : Srt l1_ a d_ := by
        unfold Srt
        rw [btw_split (u := i_) (by omega) (by omega)]
        rcases (show i_ = a ∨ i_ = d_ by omega) with h_ | h_
        · rw [btw_nil (a := a) (by omega), List.nil_append]; exact hs2_
        · rw [btw_nil (a := i_) (by omega), List.append_nil]; exact hs1_
       exact hY16 _ _ _ ⟨l1_, rfl, rfl, (Ge.refl _ _), ⟨Mg.refl _ _ _, hsk_⟩⟩
     ·
      replace h19 : ¬ ((a : Int) < (i_ : Int)) := of_decide_eq_false h19
      refine Rn 9 (Qc B175 4095) [] ⟨220, [(0, VL A n c), (3, I6 (b : Int)), (4, .fn 138 []), (18, I6 (d_ : Int)), (24, I6 (e_ : Int))], []⟩ ?_
      have hsk_ : Srt l1_ a d_ := by
       unfold Srt
       rw [btw_split (u := i_) (by omega) (by omega)]
       rcases (show i_ = a ∨ i_ = d_ by omega) with h_ | h_
       · rw [btw_nil (a := a) (by omega), List.nil_append]; exact hs2_
       · rw [btw_nil (a := i_) (by omega), List.append_nil]; exact hs1_
      exact hY16 _ _ _ ⟨l1_, rfl, rfl, (Ge.refl _ _), ⟨Mg.refl _ _ _, hsk_⟩⟩
   ·
    refine X.split 181 rfl (fun h21 => ?_) (fun h21 => ?_)
    ·
     replace h21 : (i_ : Int) < (u : Int) := of_decide_eq_true h21
     refine Rn 6 (Qc B175 4093) [Qs B175 2047] ⟨220, [(0, VL A n c), (1, I6 (a : Int)), (2, I6 (u : Int)), (3, I6 (b : Int)), (4, .fn 138 []), (18, I6 (d_ : Int)), (20, I6 (i_ : Int)), (24, I6 (e_ : Int)), (185, VB (decide ((u : Int) < (e_ : Int))))], []⟩ ?_
     refine X.split 185 rfl (fun h22 => ?_) (fun h22 => ?_)
     ·
      replace h22 : (u : Int) < (e_ : Int) := of_decide_eq_true h22
      refine Rn 7 (Qo B175 8186 5) [Qs B175 2047] ⟨220, [(0, VL A n c), (1, I6 (a : Int)), (3, I6 (b : Int)), (4, .fn 138 []), (18, I6 (d_ : Int)), (20, I6 (i_ : Int)), (24, I6 (e_ : Int)), (186, VL A n c), (187, I6 (i_ : Int)), (188, I6 (u : Int)), (189, I6 (e_ : Int)), (190, .fn 138 [])], []⟩ ?_
      refine X.callR (f := 178) (l := [VL A n c, I6 (i_ : Int), I6 (u : Int), I6 (e_ : Int), .fn 138 []]) 1 (q := (RR 184 14 A n c ((l).flatMap pkC))) (by kernel_rfl) rfl (by kernel_rfl) rfl (rotate_ok A c n l i_ u e_ _ hl (by omega) (by omega) (by omega) hn) ?_
      rintro _ _ ⟨rfl, l5_, hrt_, rfl⟩
      refine X.tellR [1] (R' := [(1, RR 184 14 A n c ((l5_).flatMap pkC))]) rfl ?_
      have hl5_ : l5_.length = n := hrt_.len.trans hl
      refine Rn 2 (Qc B175 2047) [] ⟨220, [(0, VL A n c), (1, I6 (a : Int)), (3, I6 (b : Int)), (4, .fn 138 []), (18, I6 (d_ : Int)), (20, I6 (i_ : Int)), (24, I6 (e_ : Int))], []⟩ ?_
      exact hY15 _ _ _ ⟨l5_, rfl, rfl, (Ge.refl _ _), sm_rot hrt_ (by omega) (by omega)⟩
     ·
      replace h22 : ¬ ((u : Int) < (e_ : Int)) := of_decide_eq_false h22
      refine Rn 3 (Qc B175 2047) [] ⟨220, [(0, VL A n c), (1, I6 (a : Int)), (3, I6 (b : Int)), (4, .fn 138 []), (18, I6 (d_ : Int)), (20, I6 (i_ : Int)), (24, I6 (e_ : Int))], []⟩ ?_
      exact hY15 _ _ _ ⟨l, rfl, rfl, (Ge.refl _ _), sm_none (by omega) (by omega)⟩
    ·
     replace h21 : ¬ ((i_ : Int) < (u : Int)) := of_decide_eq_false h21
     refine Rn 9 (Qc B175 2047) [] ⟨220, [(0, VL A n c), (1, I6 (a : Int)), (3, I6 (b : Int)), (4, .fn 138 []), (18, I6 (d_ : Int)), (20, I6 (i_ : Int)), (24, I6 (e_ : Int))], []⟩ ?_
     exact hY15 _ _ _ ⟨l, rfl, rfl, (Ge.refl _ _), sm_none (by omega) (by omega)⟩
 ·
  refine X.split 140 rfl (fun h24 => ?_) (fun h24 => ?_)
  ·
   replace h24 : (u : Int) > (d_ : Int) := of_decide_eq_true h24
   refine Rn 6 (Qo B175 1012 3) [Qs B175 1013, Qs B175 127] ⟨220, [(0, VL A n c), (1, I6 (a : Int)), (2, I6 (u : Int)), (3, I6 (b : Int)), (4, .fn 138 []), (18, I6 (d_ : Int)), (19, I6 ((d_ + u : Nat) : Int)), (20, I6 0), (21, I6 0), (143, I6 (IntKind.i64.wrap (((d_ + u : Nat) : Int) - (b : Int))))], []⟩ ?_
   refine Kn 143 .i64 ((d_ + u - b : Nat) : Int) rfl (by rw [wi64 (by omega) (by omega)]; omega) ?_
   refine Rn 8 (Qc B175 127) [] ⟨220, [(0, VL A n c), (1, I6 (a : Int)), (2, I6 (u : Int)), (3, I6 (b : Int)), (4, .fn 138 []), (18, I6 (d_ : Int)), (19, I6 ((d_ + u : Nat) : Int)), (20, I6 ((d_ + u - b : Nat) : Int)), (21, I6 (d_ : Int))], []⟩ ?_
   exact hY1 _ _ _ ⟨(d_ + u - b), d_, rfl, rfl, (Ge.refl _ _), .inl ⟨rfl, rfl, by omega⟩⟩
  ·
   replace h24 : ¬ ((u : Int) > (d_ : Int)) := of_decide_eq_false h24
   refine Rn 12 (Qc B175 127) [] ⟨220, [(0, VL A n c), (1, I6 (a : Int)), (2, I6 (u : Int)), (3, I6 (b : Int)), (4, .fn 138 []), (18, I6 (d_ : Int)), (19, I6 ((d_ + u : Nat) : Int)), (20, I6 (a : Int)), (21, I6 (u : Int))], []⟩ ?_
   exact hY1 _ _ _ ⟨a, u, rfl, rfl, (Ge.refl _ _), .inr ⟨rfl, rfl, by omega⟩⟩
theorem sym_ok (A : Option Addr) (c n : Nat) (hn : n ≤ 100) : ∀ (k : Nat) (l : List Pk) (a u b : Nat) (G : Mem), b - a < k → a < u → u < b → b ≤ n → l.length = n → (∀ x ∈ l, x.1.ok) → Srt l a u → Srt l u b → CallsR Try.prog 175 [.v (.slice A n c), .v (.int .i64 (a : Int)), .v (.int .i64 (u : Int)), .v (.int .i64 (b : Int)), .fn 138 []] G ⟨184, 14, .slice A n c, n, (l).flatMap pkC⟩ (fun v cs => v = .tuple #[] ∧ ∃ l', Mg l l' a b ∧ Srt l' a b ∧ cs = l'.flatMap pkC)
 | 0, _, _, _, _, _, h, _, _, _, _, _, _, _ => absurd h (Nat.not_lt_zero _)
 | k + 1, l, a, u, b, G, h, h1, h2, h3, h4, h5, h6, h7 => by
  by_cases e1 : u = a + 1
  ·
   subst e1
   exact sym_first A c n l a b G h4 h2 h3 hn h5 h7
  ·
   by_cases e2 : b = u + 1
   ·
    subst e2
    exact sym_last A c n l a u G h4 (by omega) (by omega) hn h5 h6
   · exact sym_rest A c n l a u b G h4 (by omega) (by omega) h3 hn h5 h6 h7 (fun l' a' u' b' G' hlt g1 g2 g3 g4 g5 g6 g7 => sym_ok A c n hn k l' a' u' b' G' (by omega) g1 g2 g3 g4 g5 g6 g7)
end Go.Proofs.YtjgpdbkkpomhjaaX
