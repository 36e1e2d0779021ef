/- leatref46.Decode. Walked; printed by a small program of this session. Conditions: none. -/
import Derived.Test.YtjgpdbkkpomhjaaProg
import Derived.KernelRfl
import Derived.Test.YtjgpdbkkpomhjaaYJ4
namespace Go.Proofs.YtjgpdbkkpomhjaaX
open Go.RowKit
open Go.Proofs.YtjgpdbkkpomhjaaW.PrintLast
set_option linter.unusedVariables false
set_option linter.unusedSimpArgs false
set_option maxRecDepth 100000
/-- leat/leatref46.two -/
noncomputable def B135 : Code := bodyOf Try.f135
set_option maxHeartbeats 1000000 in
theorem twoR_ok (A : Option Addr) (c : Nat) (b : List Int) (j : Int) (G : Mem) (hb : rowAt (D.int .u8) G A b) (hle : b.length ≤ c) (hmx : c ≤ maxLen) (hj : 0 ≤ j ∧ j + 1 < (b.length : Int)) : CallsG Try.prog 135 [.slice A b.length c, .int .i64 j] G (fun _ v rows => v = .int .u16 (b.getD j.toNat 0 * 256 + b.getD (j + 1).toNat 0) ∧ rows = []) := by
 simp only [maxLen] at hmx
 refine CallsG.enter Try.func135 rfl rfl ?_
 intro w
 refine Rn 6 (Qc B135 6) [Qs B135 7] ⟨18, [(0, VL A b.length c), (1, I6 j), (4, I1 0)], []⟩ ?_
 have hb_d1 := hb
 refine Og 1 B135 6 14 [] [] [] trivial (by simp) (fun ρ0 => ?_)
 refine Tk 0 14 1 B135 6 (VL A b.length c) QOk.ctxG ?_
 refine Tk 1 14 3 B135 6 (I6 j) QOk.ctxG ?_
 have b2 : (0 : Int) ≤ j := by omega
 have b3 : j < ((b.length : Nat) : Int) := by omega
 obtain ⟨at4, lo4, hi4⟩ := At.int [] hb_d1 ((j).toNat) (by omega)
 simp only [IntKind.lo, IntKind.hi] at lo4 hi4
 refine Dx 2 14 7 B135 6 22 5 1 A b.length c .i64 j (.tmp 5) (.tmp 6) QOk.ctxG b2 b3 (fun _ _ => rowAt.so hb_d1 (by omega)) ?_
 refine Dl 3 14 15 B135 6 5 A ((j).toNat * 1) (.tmp 7) (N8 (b.getD j.toNat 0)) [N8 (b.getD j.toNat 0)] QOk.ctxG at4 ?_
 refine Tk 4 14 31 B135 6 (I1 (IntKind.u16.wrap (b.getD j.toNat 0))) QOk.ctxG ?_
 refine Dk 9 .u16 (b.getD j.toNat 0) rfl (wu16 (by omega) (by omega)) ?_
 refine Tk 5 14 63 B135 6 (I1 (IntKind.u16.wrap ((b.getD j.toNat 0) * 256))) QOk.ctxG ?_
 refine Dk 10 .u16 ((b.getD j.toNat 0) * 256) rfl (wu16 (by omega) (by omega)) ?_
 refine Tk 6 14 127 B135 6 (VL A b.length c) QOk.ctxG ?_
 refine Tk 7 14 255 B135 6 (I6 j) QOk.ctxG ?_
 refine Tk 8 14 511 B135 6 (I6 (IntKind.i64.wrap (j + 1))) QOk.ctxG ?_
 refine Dk 13 .i64 (j + 1) rfl (wi64 (by omega) (by omega)) ?_
 have b5 : (0 : Int) ≤ j + 1 := by omega
 have b6 : j + 1 < ((b.length : Nat) : Int) := by omega
 obtain ⟨at7, lo7, hi7⟩ := At.int [] hb_d1 ((j + 1).toNat) (by omega)
 simp only [IntKind.lo, IntKind.hi] at lo7 hi7
 refine Dx 9 14 1023 B135 6 22 5 1 A b.length c .i64 (j + 1) (.tmp 11) (.tmp 13) QOk.ctxG b5 b6 (fun _ _ => rowAt.so hb_d1 (by omega)) ?_
 refine Dl 10 14 2047 B135 6 5 A ((j + 1).toNat * 1) (.tmp 14) (N8 (b.getD ((j + 1).toNat) 0)) [N8 (b.getD ((j + 1).toNat) 0)] QOk.ctxG at7 ?_
 refine Tk 11 14 4095 B135 6 (I1 (IntKind.u16.wrap (b.getD ((j + 1).toNat) 0))) QOk.ctxG ?_
 refine Dk 16 .u16 (b.getD ((j + 1).toNat) 0) rfl (wu16 (by omega) (by omega)) ?_
 refine Tk 12 14 8191 B135 6 (I1 (IntKind.u16.wrap (((b.getD j.toNat 0) * 256) + (b.getD ((j + 1).toNat) 0)))) QOk.ctxG ?_
 refine Dk 17 .u16 (((b.getD j.toNat 0) * 256) + (b.getD ((j + 1).toNat) 0)) rfl (wu16 (by omega) (by omega)) ?_
 refine Ts [13] 14 16383 0 1 QOk.ctxG ?_
 refine XD.done (by kernel_rfl) ?_
 refine Rn 2 (.ex .ret) [] ⟨18, [(4, I1 (((b.getD j.toNat 0) * 256) + (b.getD ((j + 1).toNat) 0)))], []⟩ ?_
 refine Dg (.inl rfl) [N1 (((b.getD j.toNat 0) * 256) + (b.getD ((j + 1).toNat) 0))] [] rfl (Ge.refl _ _) ?_
 exact ⟨rfl, rfl⟩
/-- leat/leatref46.Decode -/
noncomputable def B81 : Code := bodyOf Try.f81
set_option maxHeartbeats 4000000 in
theorem RDecI_ok (A : Option Addr) (c : Nat) (b : List Int) (G : Mem) (hb : rowAt (D.int .u8) G A b) (hle : b.length ≤ c) (hmx : c ≤ maxLen) : CallsG Try.prog 81 [.slice A b.length c] G (fun _ v rows => v = .tuple #[.agg #[.int .u8 ((decI b).1.1.x0), .int .u8 ((decI b).1.1.x1), .int .u8 ((decI b).1.1.x2), .int .u16 ((decI b).1.1.x3), .int .u16 ((decI b).1.1.x4), .int .u8 ((decI b).1.1.x5), .int .u8 ((decI b).1.1.x6), .int .u8 ((decI b).1.1.x7), .int .u8 ((decI b).1.1.x8), .int .u8 ((decI b).1.1.x9), .int .u8 ((decI b).1.1.y0), .int .u8 ((decI b).1.1.y1), .int .u8 ((decI b).1.1.y2)], .string (decI b).1.2, .int .i64 (decI b).2] ∧ rows = []) := by
 simp only [maxLen] at hmx
 have hby_ : isBytes b := row_bytes hb
 have hg_ : ∀ i, 0 ≤ b.getD i 0 ∧ b.getD i 0 ≤ 255 := getD_byte hby_
 refine CallsG.enter Try.func81 rfl rfl ?_
 intro w
 refine Rn 15 (Qc B81 13) [Qs B81 7] ⟨77, [(0, VL A b.length c), (2, .own 2 0), (3, VT (⟨#[]⟩ : ByteArray)), (4, I6 0), (10, VB (decide ((b.length : Int) < 20)))], [(2, ⟨113, [I8 0, I8 0, I8 0, I1 0, I1 0, I8 0, I8 0, I8 0, I8 0, I8 0, I8 0, I8 0, I8 0]⟩)]⟩ ?_
 refine X.split 10 rfl (fun h1 => ?_) (fun h1 => ?_)
 ·
  replace h1 : ((b.length : Nat) : Int) < 20 := of_decide_eq_true h1
  have hs_ : (b.length < 20) := by omega
  refine Rn 11 (.ex .ret) [] ⟨77, [(2, .own 2 0), (3, VT (⟨#[]⟩ : ByteArray)), (4, I6 3)], [(2, ⟨113, [I8 0, I8 0, I8 0, I1 0, I1 0, I8 0, I8 0, I8 0, I8 0, I8 0, I8 0, I8 0, I8 0]⟩)]⟩ ?_
  refine Dg (.inl rfl) [.agg #[N8 0, N8 0, N8 0, N1 0, N1 0, N8 0, N8 0, N8 0, N8 0, N8 0, N8 0, N8 0, N8 0], .string (⟨#[]⟩ : ByteArray), N6 3] [] rfl (Ge.refl _ _) ?_
  rw [decI_short hs_]
  exact ⟨rfl, rfl⟩
 ·
  replace h1 : ¬ (((b.length : Nat) : Int) < 20) := of_decide_eq_false h1
  have hs_ : ¬ (b.length < 20) := by omega
  refine Rn 6 (Qo B81 14 1) [Qs B81 15] ⟨77, [(0, VL A b.length c), (2, .own 2 0), (3, VT (⟨#[]⟩ : ByteArray)), (4, I6 0), (12, VL A b.length c)], [(2, ⟨113, [I8 0, I8 0, I8 0, I1 0, I1 0, I8 0, I8 0, I8 0, I8 0, I8 0, I8 0, I8 0, I8 0]⟩)]⟩ ?_
  refine Cg 135 [.slice A b.length c, N6 2] 0 (twoR_ok A c b 2 _ hb hle hmx (by omega)) ?_
  rintro v2 G2 rows2 hG2 ⟨rfl, rfl⟩
  replace hb := hb.mono hG2.le
  have hgb2_ := hg_ 2
  have hgb3_ := hg_ 3
  refine Rn 1 (Qo B81 14 3) [Qs B81 15] ⟨77, [(0, VL A b.length c), (2, .own 2 0), (3, VT (⟨#[]⟩ : ByteArray)), (4, I6 0), (14, I6 (IntKind.i64.wrap ((b.getD 2 0) * 256 + (b.getD 3 0))))], [(2, ⟨113, [I8 0, I8 0, I8 0, I1 0, I1 0, I8 0, I8 0, I8 0, I8 0, I8 0, I8 0, I8 0, I8 0]⟩)]⟩ ?_
  refine Kn 14 .i64 ((b.getD 2 0) * 256 + (b.getD 3 0)) rfl (wi64 (by omega) (by omega)) ?_
  refine Rn 7 (Qo B81 60 1) [Qs B81 61, Qs B81 31] ⟨77, [(0, VL A b.length c), (2, .own 2 0), (3, VT (⟨#[]⟩ : ByteArray)), (4, I6 0), (5, I6 ((b.getD 2 0) * 256 + (b.getD 3 0))), (15, VL A b.length c)], [(2, ⟨113, [I8 0, I8 0, I8 0, I1 0, I1 0, I8 0, I8 0, I8 0, I8 0, I8 0, I8 0, I8 0, I8 0]⟩)]⟩ ?_
  have b3 : (0 : Int) ≤ 0 := by omega
  have b4 : 0 < ((b.length : Nat) : Int) := by omega
  refine Ix 22 5 1 A b.length c .i64 0 (.tmp 15) (.const (N6 0)) b3 b4 (fun _ _ => rowAt.so hb (by omega)) ?_
  obtain ⟨at5, lo5, hi5⟩ := At.int [] hb 0 (by omega)
  simp only [IntKind.lo, IntKind.hi] at lo5 hi5
  refine Rn 0 (Qo B81 60 2) [Qs B81 61, Qs B81 31] ⟨77, [(0, VL A b.length c), (2, .own 2 0), (3, VT (⟨#[]⟩ : ByteArray)), (4, I6 0), (5, I6 ((b.getD 2 0) * 256 + (b.getD 3 0))), (16, .v (elt A (0 * 1)))], [(2, ⟨113, [I8 0, I8 0, I8 0, I1 0, I1 0, I8 0, I8 0, I8 0, I8 0, I8 0, I8 0, I8 0, I8 0]⟩)]⟩ ?_
  refine Ld 5 A (0 * 1) (.tmp 16) (N8 (b.getD 0 0)) [N8 (b.getD 0 0)] at5 ?_
  refine Rn 2 (Qo B81 60 5) [Qs B81 61, Qs B81 31] ⟨77, [(0, VL A b.length c), (2, .own 2 0), (3, VT (⟨#[]⟩ : ByteArray)), (4, I6 0), (5, I6 ((b.getD 2 0) * 256 + (b.getD 3 0))), (19, VB ((b.getD 0 0) != 69))], [(2, ⟨113, [I8 0, I8 0, I8 0, I1 0, I1 0, I8 0, I8 0, I8 0, I8 0, I8 0, I8 0, I8 0, I8 0]⟩)]⟩ ?_
  refine X.split 19 rfl (fun h6 => ?_) (fun h6 => ?_)
  ·
   replace h6 : (b.getD 0 0) ≠ 69 := by simpa using h6
   have hf_ : b.getD 0 0 ≠ 69 ∨ totI b < 20 := .inl h6
   refine Rn 16 (.ex .ret) [] ⟨77, [(2, .own 2 0), (3, VT (⟨#[]⟩ : ByteArray)), (4, I6 5)], [(2, ⟨113, [I8 0, I8 0, I8 0, I1 0, I1 0, I8 0, I8 0, I8 0, I8 0, I8 0, I8 0, I8 0, I8 0]⟩)]⟩ ?_
   refine Dg (.inl rfl) [.agg #[N8 0, N8 0, N8 0, N1 0, N1 0, N8 0, N8 0, N8 0, N8 0, N8 0, N8 0, N8 0, N8 0], .string (⟨#[]⟩ : ByteArray), N6 5] [] rfl (hG2) ?_
   rw [decI_form hs_ hf_]
   exact ⟨rfl, rfl⟩
  ·
   replace h6 : (b.getD 0 0) = 69 := by simpa using h6
   refine Rn 5 (Qc B81 61) [Qs B81 31] ⟨77, [(0, VL A b.length c), (2, .own 2 0), (3, VT (⟨#[]⟩ : ByteArray)), (4, I6 0), (5, I6 ((b.getD 2 0) * 256 + (b.getD 3 0))), (22, VB (decide ((b.getD 2 0) * 256 + (b.getD 3 0) < 20)))], [(2, ⟨113, [I8 0, I8 0, I8 0, I1 0, I1 0, I8 0, I8 0, I8 0, I8 0, I8 0, I8 0, I8 0, I8 0]⟩)]⟩ ?_
   refine X.split 22 rfl (fun h7 => ?_) (fun h7 => ?_)
   ·
    replace h7 : (b.getD 2 0) * 256 + (b.getD 3 0) < 20 := of_decide_eq_true h7
    have hf_ : (b.getD 0 0 ≠ 69 ∨ totI b < 20) := by unfold totI; omega
    refine Rn 11 (.ex .ret) [] ⟨77, [(2, .own 2 0), (3, VT (⟨#[]⟩ : ByteArray)), (4, I6 5)], [(2, ⟨113, [I8 0, I8 0, I8 0, I1 0, I1 0, I8 0, I8 0, I8 0, I8 0, I8 0, I8 0, I8 0, I8 0]⟩)]⟩ ?_
    refine Dg (.inl rfl) [.agg #[N8 0, N8 0, N8 0, N1 0, N1 0, N8 0, N8 0, N8 0, N8 0, N8 0, N8 0, N8 0, N8 0], .string (⟨#[]⟩ : ByteArray), N6 5] [] rfl (hG2) ?_
    rw [decI_form hs_ hf_]
    exact ⟨rfl, rfl⟩
   ·
    replace h7 : ¬ ((b.getD 2 0) * 256 + (b.getD 3 0) < 20) := of_decide_eq_false h7
    have hf_ : ¬ (b.getD 0 0 ≠ 69 ∨ totI b < 20) := by unfold totI; omega
    refine Rn 12 (Qc B81 125) [Qs B81 63] ⟨77, [(0, VL A b.length c), (2, .own 2 0), (3, VT (⟨#[]⟩ : ByteArray)), (4, I6 0), (5, I6 ((b.getD 2 0) * 256 + (b.getD 3 0))), (27, VB (decide ((b.getD 2 0) * 256 + (b.getD 3 0) > (b.length : Int))))], [(2, ⟨113, [I8 0, I8 0, I8 0, I1 0, I1 0, I8 0, I8 0, I8 0, I8 0, I8 0, I8 0, I8 0, I8 0]⟩)]⟩ ?_
    refine X.split 27 rfl (fun h8 => ?_) (fun h8 => ?_)
    ·
     replace h8 : (b.getD 2 0) * 256 + (b.getD 3 0) > ((b.length : Nat) : Int) := of_decide_eq_true h8
     have hc_ : ((b.length : Int) < totI b) := by unfold totI; omega
     refine Rn 11 (.ex .ret) [] ⟨77, [(2, .own 2 0), (3, VT (⟨#[]⟩ : ByteArray)), (4, I6 3)], [(2, ⟨113, [I8 0, I8 0, I8 0, I1 0, I1 0, I8 0, I8 0, I8 0, I8 0, I8 0, I8 0, I8 0, I8 0]⟩)]⟩ ?_
     refine Dg (.inl rfl) [.agg #[N8 0, N8 0, N8 0, N1 0, N1 0, N8 0, N8 0, N8 0, N8 0, N8 0, N8 0, N8 0, N8 0], .string (⟨#[]⟩ : ByteArray), N6 3] [] rfl (hG2) ?_
     rw [decI_cut hs_ hf_ hc_]
     exact ⟨rfl, rfl⟩
    ·
     replace h8 : ¬ ((b.getD 2 0) * 256 + (b.getD 3 0) > ((b.length : Nat) : Int)) := of_decide_eq_false h8
     have hc_ : ¬ ((b.length : Int) < totI b) := by unfold totI; omega
     refine Rn 7 (Qo B81 252 1) [Qs B81 253, Qs B81 127] ⟨77, [(0, VL A b.length c), (2, .own 2 0), (3, VT (⟨#[]⟩ : ByteArray)), (4, I6 0), (5, I6 ((b.getD 2 0) * 256 + (b.getD 3 0))), (29, VL A b.length c)], [(2, ⟨113, [I8 0, I8 0, I8 0, I1 0, I1 0, I8 0, I8 0, I8 0, I8 0, I8 0, I8 0, I8 0, I8 0]⟩)]⟩ ?_
     have hlo9 : 0 ≤ 20 := by omega
     have hhi9 : 20 ≤ b.length := by omega
     refine X.cut (t := 22) (e := 5) (sz := 1) (n := b.length) (c := c) (A := A) (x := .tmp 29) (l := none) (h := (some (.const (N6 20)))) (lv := none) (hv := (some (N6 20))) 0 20 (by kernel_rfl) (by kernel_rfl) (by kernel_rfl) (by kernel_rfl) (by kernel_rfl) (by kernel_rfl) (by kernel_rfl) (rfl) (⟨_, _, rfl, by omega, rfl⟩) hlo9 (Nat.le_trans hhi9 hle) ?_
     obtain ⟨A9, hA9⟩ : ∃ A_, cutA A c 0 1 = A_ := ⟨_, rfl⟩
     obtain ⟨ys9, hys9⟩ : ∃ l_, (b.take 20).drop 0 = l_ := ⟨_, rfl⟩
     have hr9 : rowAt (D.int .u8) G2 (cutA A c 0 1) ((b.take 20).drop 0) := rowAt_cut hb hlo9 hhi9 hle
     have hl9 : 20 - 0 = ys9.length := by rw [← hys9, List.length_drop, List.length_take]; omega
     have hc9 : ys9.length ≤ c - 0 := by omega
     have hm9 : c - 0 ≤ maxLen := Nat.le_trans (Nat.sub_le _ _) hmx
     rw [hys9, show cutA A c 0 _ = A9 from hA9] at hr9
     rw [hA9, hl9]
     refine Rn 0 (Qo B81 252 2) [Qs B81 253, Qs B81 127] ⟨77, [(0, VL A b.length c), (2, .own 2 0), (3, VT (⟨#[]⟩ : ByteArray)), (4, I6 0), (5, I6 ((b.getD 2 0) * 256 + (b.getD 3 0))), (30, VL A9 ys9.length (c - 0))], [(2, ⟨113, [I8 0, I8 0, I8 0, I1 0, I1 0, I8 0, I8 0, I8 0, I8 0, I8 0, I8 0, I8 0, I8 0]⟩)]⟩ ?_
     refine Cg 29 [.slice A9 ys9.length (c - 0)] 0 (SumRef_ok A9 (c - 0) ys9 _ hr9 hc9 hm9 (by omega)) ?_
     rintro v10 G10 rows10 hG10 ⟨rfl, rfl⟩
     replace hb := hb.mono hG10.le
     replace hr9 := hr9.mono hG10.le
     refine X.known 31 (y := I1 (cks (b.take 20))) rfl (by rw [← hys9, List.drop_zero]) ?_
     refine Rn 3 (Qc B81 253) [Qs B81 127] ⟨77, [(0, VL A b.length c), (2, .own 2 0), (3, VT (⟨#[]⟩ : ByteArray)), (4, I6 0), (5, I6 ((b.getD 2 0) * 256 + (b.getD 3 0))), (32, VB ((cks (b.take 20)) != 0))], [(2, ⟨113, [I8 0, I8 0, I8 0, I1 0, I1 0, I8 0, I8 0, I8 0, I8 0, I8 0, I8 0, I8 0, I8 0]⟩)]⟩ ?_
     refine X.split 32 rfl (fun h11 => ?_) (fun h11 => ?_)
     ·
      replace h11 : (cks (b.take 20)) ≠ 0 := by simpa using h11
      have hk_ : cks (b.take 20) ≠ 0 := h11
      refine Rn 11 (.ex .ret) [] ⟨77, [(2, .own 2 0), (3, VT (⟨#[]⟩ : ByteArray)), (4, I6 6)], [(2, ⟨113, [I8 0, I8 0, I8 0, I1 0, I1 0, I8 0, I8 0, I8 0, I8 0, I8 0, I8 0, I8 0, I8 0]⟩)]⟩ ?_
      refine Dg (.inl rfl) [.agg #[N8 0, N8 0, N8 0, N1 0, N1 0, N8 0, N8 0, N8 0, N8 0, N8 0, N8 0, N8 0, N8 0], .string (⟨#[]⟩ : ByteArray), N6 6] [] rfl ((hG2.trans hG10)) ?_
      rw [decI_sum hs_ hf_ hc_ hk_]
      exact ⟨rfl, rfl⟩
     ·
      replace h11 : (cks (b.take 20)) = 0 := by simpa using h11
      have hk_ : cks (b.take 20) = 0 := h11
      refine Rn 4 (Qc B81 254) [Qs B81 255] ⟨77, [(0, VL A b.length c), (2, .own 2 0), (3, VT (⟨#[]⟩ : ByteArray)), (4, I6 0), (5, I6 ((b.getD 2 0) * 256 + (b.getD 3 0)))], [(2, ⟨113, [I8 0, I8 0, I8 0, I1 0, I1 0, I8 0, I8 0, I8 0, I8 0, I8 0, I8 0, I8 0, I8 0]⟩)]⟩ ?_
      have hb_d12 := hb
      have hr9_d12 := hr9
      refine Og 10 B81 254 16 [] [] [] trivial (by simp) (fun ρ0 => ?_)
      refine Tk 0 16 1 B81 254 (VL A b.length c) QOk.ctxG ?_
      have b13 : (0 : Int) ≤ 1 := by omega
      have b14 : 1 < ((b.length : Nat) : Int) := by omega
      obtain ⟨at15, lo15, hi15⟩ := At.int [] hb_d12 1 (by omega)
      simp only [IntKind.lo, IntKind.hi] at lo15 hi15
      refine Dx 1 16 3 B81 254 22 5 1 A b.length c .i64 1 (.tmp 34) (.const (N6 1)) QOk.ctxG b13 b14 (fun _ _ => rowAt.so hb_d12 (by omega)) ?_
      refine Dl 2 16 7 B81 254 5 A (1 * 1) (.tmp 35) (N8 (b.getD 1 0)) [N8 (b.getD 1 0)] QOk.ctxG at15 ?_
      refine Tk 3 16 15 B81 254 (VL A b.length c) QOk.ctxG ?_
      refine Tk 5 16 47 B81 254 (VL A b.length c) QOk.ctxG ?_
      refine Tk 7 16 175 B81 254 (VL A b.length c) QOk.ctxG ?_
      have b16 : (0 : Int) ≤ 8 := by omega
      have b17 : 8 < ((b.length : Nat) : Int) := by omega
      obtain ⟨at18, lo18, hi18⟩ := At.int [] hb_d12 8 (by omega)
      simp only [IntKind.lo, IntKind.hi] at lo18 hi18
      refine Dx 8 16 431 B81 254 22 5 1 A b.length c .i64 8 (.tmp 41) (.const (N6 8)) QOk.ctxG b16 b17 (fun _ _ => rowAt.so hb_d12 (by omega)) ?_
      refine Dl 9 16 943 B81 254 5 A (8 * 1) (.tmp 42) (N8 (b.getD 8 0)) [N8 (b.getD 8 0)] QOk.ctxG at18 ?_
      refine Tk 10 16 1967 B81 254 (VL A b.length c) QOk.ctxG ?_
      have b19 : (0 : Int) ≤ 9 := by omega
      have b20 : 9 < ((b.length : Nat) : Int) := by omega
      obtain ⟨at21, lo21, hi21⟩ := At.int [] hb_d12 9 (by omega)
      simp only [IntKind.lo, IntKind.hi] at lo21 hi21
      refine Dx 11 16 4015 B81 254 22 5 1 A b.length c .i64 9 (.tmp 44) (.const (N6 9)) QOk.ctxG b19 b20 (fun _ _ => rowAt.so hb_d12 (by omega)) ?_
      refine Dl 12 16 8111 B81 254 5 A (9 * 1) (.tmp 45) (N8 (b.getD 9 0)) [N8 (b.getD 9 0)] QOk.ctxG at21 ?_
      refine XD.joinA (α := Unit) (fun x_ => ⟨77, [(0, VL A b.length c), (2, .own 2 0), (3, VT (⟨#[]⟩ : ByteArray)), (4, I6 0), (5, I6 ((b.getD 2 0) * 256 + (b.getD 3 0))), (6, .own 6 0), (47, .v (.agg #[N8 (b.getD 1 0), N8 (b.getD 8 0), N8 (b.getD 9 0), N1 ((b.getD 4 0) * 256 + (b.getD 5 0)), N1 ((b.getD 6 0) * 256 + (b.getD 7 0)), N8 0, N8 0, N8 0, N8 0, N8 0, N8 0, N8 0, N8 0]))], [(2, ⟨113, [I8 0, I8 0, I8 0, I1 0, I1 0, I8 0, I8 0, I8 0, I8 0, I8 0, I8 0, I8 0, I8 0]⟩), (6, ⟨113, [I8 0, I8 0, I8 0, I1 0, I1 0, I8 0, I8 0, I8 0, I8 0, I8 0, I8 0, I8 0, I8 0]⟩)]⟩) (fun x_ => []) (lb 16 32767) 1 ?_ fun hL21_32767 => ?_
      ·
       rintro _ G7222 hG7222
       replace hb := hb.mono hG7222.le
       replace hr9 := hr9.mono hG7222.le
       refine Dn ⟨77, [(0, VL A b.length c), (2, .own 2 0), (3, VT (⟨#[]⟩ : ByteArray)), (4, I6 0), (5, I6 ((b.getD 2 0) * 256 + (b.getD 3 0))), (6, .own 6 0), (47, .v (.agg #[N8 (b.getD 1 0), N8 (b.getD 8 0), N8 (b.getD 9 0), N1 ((b.getD 4 0) * 256 + (b.getD 5 0)), N1 ((b.getD 6 0) * 256 + (b.getD 7 0)), N8 0, N8 0, N8 0, N8 0, N8 0, N8 0, N8 0, N8 0]))], [(2, ⟨113, [I8 0, I8 0, I8 0, I1 0, I1 0, I8 0, I8 0, I8 0, I8 0, I8 0, I8 0, I8 0, I8 0]⟩), (6, ⟨113, [I8 0, I8 0, I8 0, I1 0, I1 0, I8 0, I8 0, I8 0, I8 0, I8 0, I8 0, I8 0, I8 0]⟩)]⟩ trivial ?_
       refine XD.rows [] (R' := []) rfl rfl ?_
       refine Dn ⟨77, [(0, VL A b.length c), (2, .own 2 0), (3, VT (⟨#[]⟩ : ByteArray)), (4, I6 0), (5, I6 ((b.getD 2 0) * 256 + (b.getD 3 0))), (6, .own 6 0), (47, .v (.agg #[N8 (b.getD 1 0), N8 (b.getD 8 0), N8 (b.getD 9 0), N1 ((b.getD 4 0) * 256 + (b.getD 5 0)), N1 ((b.getD 6 0) * 256 + (b.getD 7 0)), N8 0, N8 0, N8 0, N8 0, N8 0, N8 0, N8 0, N8 0]))], [(2, ⟨113, [I8 0, I8 0, I8 0, I1 0, I1 0, I8 0, I8 0, I8 0, I8 0, I8 0, I8 0, I8 0, I8 0]⟩), (6, ⟨113, [I8 0, I8 0, I8 0, I1 0, I1 0, I8 0, I8 0, I8 0, I8 0, I8 0, I8 0, I8 0, I8 0]⟩)]⟩ trivial ?_
       refine Do 15 16 65535 B81 254 ?_
       refine X.simple (by kernel_rfl) ?_
       refine X.back ⟨trivial, hG7222.le, rfl, ?_⟩
       refine XD.done (by kernel_rfl) ?_
       refine Rn 9 (Qc B81 1021) [Qs B81 511] ⟨77, [(0, VL A b.length c), (2, .own 2 0), (3, VT (⟨#[]⟩ : ByteArray)), (4, I6 0), (5, I6 ((b.getD 2 0) * 256 + (b.getD 3 0))), (6, .own 6 0), (50, VB (decide ((b.getD 6 0) * 256 + (b.getD 7 0) ≥ 32768)))], [(2, ⟨113, [I8 0, I8 0, I8 0, I1 0, I1 0, I8 0, I8 0, I8 0, I8 0, I8 0, I8 0, I8 0, I8 0]⟩), (6, ⟨113, [I8 (b.getD 1 0), I8 (b.getD 8 0), I8 (b.getD 9 0), I1 ((b.getD 4 0) * 256 + (b.getD 5 0)), I1 ((b.getD 6 0) * 256 + (b.getD 7 0)), I8 0, I8 0, I8 0, I8 0, I8 0, I8 0, I8 0, I8 0]⟩)]⟩ ?_
       refine X.split 50 rfl (fun h7222 => ?_) (fun h7222 => ?_)
       ·
        replace h7222 : (b.getD 6 0) * 256 + (b.getD 7 0) ≥ 32768 := of_decide_eq_true h7222
        have hx_ : (32768 ≤ fragI b) := by unfold fragI; omega
        refine Rn 11 (.ex .ret) [] ⟨77, [(2, .own 2 0), (3, VT (⟨#[]⟩ : ByteArray)), (4, I6 5)], [(2, ⟨113, [I8 0, I8 0, I8 0, I1 0, I1 0, I8 0, I8 0, I8 0, I8 0, I8 0, I8 0, I8 0, I8 0]⟩)]⟩ ?_
        refine Dg (.inl rfl) [.agg #[N8 0, N8 0, N8 0, N1 0, N1 0, N8 0, N8 0, N8 0, N8 0, N8 0, N8 0, N8 0, N8 0], .string (⟨#[]⟩ : ByteArray), N6 5] [] rfl (((hG2.trans hG10).trans hG7222)) ?_
        rw [decI_flag hs_ hf_ hc_ hk_ hx_]
        exact ⟨rfl, rfl⟩
       ·
        replace h7222 : ¬ ((b.getD 6 0) * 256 + (b.getD 7 0) ≥ 32768) := of_decide_eq_false h7222
        have hx_ : ¬ (32768 ≤ fragI b) := by unfold fragI; omega
        refine Rn 10 (Qc B81 4090) [.blk 0, Qs B81 1023] ⟨77, [(0, VL A b.length c), (2, .own 2 0), (3, VT (⟨#[]⟩ : ByteArray)), (4, I6 0), (5, I6 ((b.getD 2 0) * 256 + (b.getD 3 0))), (6, .own 6 0), (7, I6 0)], [(2, ⟨113, [I8 0, I8 0, I8 0, I1 0, I1 0, I8 0, I8 0, I8 0, I8 0, I8 0, I8 0, I8 0, I8 0]⟩), (6, ⟨113, [I8 (b.getD 1 0), I8 (b.getD 8 0), I8 (b.getD 9 0), I1 ((b.getD 4 0) * 256 + (b.getD 5 0)), I1 ((b.getD 6 0) * 256 + (b.getD 7 0)), I8 0, I8 0, I8 0, I8 0, I8 0, I8 0, I8 0, I8 0]⟩)]⟩ ?_
        refine X.rounds 5 ?_
        refine RX.succ fun J7223 hJ7223 => ?_
        refine Rn 18 (Qo B81 130888 4) [Qs B81 130889, .blk 1, Qs B81 32723, .loop J7223, .blk 0, Qs B81 1023] ⟨77, [(0, VL A b.length c), (2, .own 2 0), (3, VT (⟨#[]⟩ : ByteArray)), (4, I6 0), (5, I6 ((b.getD 2 0) * 256 + (b.getD 3 0))), (6, .own 6 0), (7, I6 0), (52, I6 0), (53, VB true), (56, I6 0), (57, VL A b.length c), (58, I6 0), (59, I6 12)], [(2, ⟨113, [I8 0, I8 0, I8 0, I1 0, I1 0, I8 0, I8 0, I8 0, I8 0, I8 0, I8 0, I8 0, I8 0]⟩), (6, ⟨113, [I8 (b.getD 1 0), I8 (b.getD 8 0), I8 (b.getD 9 0), I1 ((b.getD 4 0) * 256 + (b.getD 5 0)), I1 ((b.getD 6 0) * 256 + (b.getD 7 0)), I8 0, I8 0, I8 0, I8 0, I8 0, I8 0, I8 0, I8 0]⟩)]⟩ ?_
        have b7224 : (0 : Int) ≤ 12 := by omega
        have b7225 : 12 < ((b.length : Nat) : Int) := by omega
        refine Ix 22 5 1 A b.length c .i64 12 (.tmp 57) (.tmp 59) b7224 b7225 (fun _ _ => rowAt.so hb (by omega)) ?_
        obtain ⟨at7226, lo7226, hi7226⟩ := At.int [] hb 12 (by omega)
        simp only [IntKind.lo, IntKind.hi] at lo7226 hi7226
        refine Ld 5 A (12 * 1) (.tmp 60) (N8 (b.getD 12 0)) [N8 (b.getD 12 0)] at7226 ?_
        refine Rn 10 (Qo B81 130889 4) [.blk 1, Qs B81 32723, .loop J7223, .blk 0, Qs B81 1023] ⟨77, [(0, VL A b.length c), (2, .own 2 0), (3, VT (⟨#[]⟩ : ByteArray)), (4, I6 0), (5, I6 ((b.getD 2 0) * 256 + (b.getD 3 0))), (6, .own 6 0), (7, I6 0), (52, I6 0), (53, VB true), (56, I6 0), (57, VL A b.length c), (58, I6 0), (59, I6 12), (60, .v (elt A (12 * 1))), (61, I8 (b.getD 12 0)), (62, .own 6 5), (63, .own 6 5), (64, I6 0), (65, VL A b.length c), (66, I6 0), (67, I6 16)], [(2, ⟨113, [I8 0, I8 0, I8 0, I1 0, I1 0, I8 0, I8 0, I8 0, I8 0, I8 0, I8 0, I8 0, I8 0]⟩), (6, ⟨113, [I8 (b.getD 1 0), I8 (b.getD 8 0), I8 (b.getD 9 0), I1 ((b.getD 4 0) * 256 + (b.getD 5 0)), I1 ((b.getD 6 0) * 256 + (b.getD 7 0)), I8 (b.getD 12 0), I8 0, I8 0, I8 0, I8 0, I8 0, I8 0, I8 0]⟩)]⟩ ?_
        have b7227 : (0 : Int) ≤ 16 := by omega
        have b7228 : 16 < ((b.length : Nat) : Int) := by omega
        refine Ix 22 5 1 A b.length c .i64 16 (.tmp 65) (.tmp 67) b7227 b7228 (fun _ _ => rowAt.so hb (by omega)) ?_
        obtain ⟨at7229, lo7229, hi7229⟩ := At.int [] hb 16 (by omega)
        simp only [IntKind.lo, IntKind.hi] at lo7229 hi7229
        refine Ld 5 A (16 * 1) (.tmp 68) (N8 (b.getD 16 0)) [N8 (b.getD 16 0)] at7229 ?_
        refine Rn 11 (.ex .normal) [.loop J7223, .blk 0, Qs B81 1023] ⟨77, [(0, VL A b.length c), (2, .own 2 0), (3, VT (⟨#[]⟩ : ByteArray)), (4, I6 0), (5, I6 ((b.getD 2 0) * 256 + (b.getD 3 0))), (6, .own 6 0), (7, I6 1), (52, I6 0), (53, VB true), (54, I6 0), (55, I6 1), (56, I6 0), (57, VL A b.length c), (58, I6 0), (59, I6 12), (60, .v (elt A (12 * 1))), (61, I8 (b.getD 12 0)), (62, .own 6 5), (63, .own 6 5), (64, I6 0), (65, VL A b.length c), (66, I6 0), (67, I6 16), (68, .v (elt A (16 * 1))), (69, I8 (b.getD 16 0)), (70, .own 6 9), (71, .own 6 9)], [(2, ⟨113, [I8 0, I8 0, I8 0, I1 0, I1 0, I8 0, I8 0, I8 0, I8 0, I8 0, I8 0, I8 0, I8 0]⟩), (6, ⟨113, [I8 (b.getD 1 0), I8 (b.getD 8 0), I8 (b.getD 9 0), I1 ((b.getD 4 0) * 256 + (b.getD 5 0)), I1 ((b.getD 6 0) * 256 + (b.getD 7 0)), I8 (b.getD 12 0), I8 0, I8 0, I8 0, I8 (b.getD 16 0), I8 0, I8 0, I8 0]⟩)]⟩ ?_
        refine X.again (hJ7223 _ _ _ ?_)
        refine RX.succ fun J7230 hJ7230 => ?_
        refine Rn 18 (Qo B81 130888 4) [Qs B81 130889, .blk 1, Qs B81 32723, .loop J7230, .blk 0, Qs B81 1023] ⟨77, [(0, VL A b.length c), (2, .own 2 0), (3, VT (⟨#[]⟩ : ByteArray)), (4, I6 0), (5, I6 ((b.getD 2 0) * 256 + (b.getD 3 0))), (6, .own 6 0), (7, I6 1), (52, I6 1), (53, VB true), (54, I6 0), (55, I6 1), (56, I6 1), (57, VL A b.length c), (58, I6 1), (59, I6 13), (60, .v (elt A (12 * 1))), (61, I8 (b.getD 12 0)), (62, .own 6 5), (63, .own 6 5), (64, I6 0), (65, VL A b.length c), (66, I6 0), (67, I6 16), (68, .v (elt A (16 * 1))), (69, I8 (b.getD 16 0)), (70, .own 6 9), (71, .own 6 9)], [(2, ⟨113, [I8 0, I8 0, I8 0, I1 0, I1 0, I8 0, I8 0, I8 0, I8 0, I8 0, I8 0, I8 0, I8 0]⟩), (6, ⟨113, [I8 (b.getD 1 0), I8 (b.getD 8 0), I8 (b.getD 9 0), I1 ((b.getD 4 0) * 256 + (b.getD 5 0)), I1 ((b.getD 6 0) * 256 + (b.getD 7 0)), I8 (b.getD 12 0), I8 0, I8 0, I8 0, I8 (b.getD 16 0), I8 0, I8 0, I8 0]⟩)]⟩ ?_
        have b7231 : (0 : Int) ≤ 13 := by omega
        have b7232 : 13 < ((b.length : Nat) : Int) := by omega
        refine Ix 22 5 1 A b.length c .i64 13 (.tmp 57) (.tmp 59) b7231 b7232 (fun _ _ => rowAt.so hb (by omega)) ?_
        obtain ⟨at7233, lo7233, hi7233⟩ := At.int [] hb 13 (by omega)
        simp only [IntKind.lo, IntKind.hi] at lo7233 hi7233
        refine Ld 5 A (13 * 1) (.tmp 60) (N8 (b.getD 13 0)) [N8 (b.getD 13 0)] at7233 ?_
        refine Rn 10 (Qo B81 130889 4) [.blk 1, Qs B81 32723, .loop J7230, .blk 0, Qs B81 1023] ⟨77, [(0, VL A b.length c), (2, .own 2 0), (3, VT (⟨#[]⟩ : ByteArray)), (4, I6 0), (5, I6 ((b.getD 2 0) * 256 + (b.getD 3 0))), (6, .own 6 0), (7, I6 1), (52, I6 1), (53, VB true), (54, I6 0), (55, I6 1), (56, I6 1), (57, VL A b.length c), (58, I6 1), (59, I6 13), (60, .v (elt A (13 * 1))), (61, I8 (b.getD 13 0)), (62, .own 6 5), (63, .own 6 6), (64, I6 1), (65, VL A b.length c), (66, I6 1), (67, I6 17), (68, .v (elt A (16 * 1))), (69, I8 (b.getD 16 0)), (70, .own 6 9), (71, .own 6 9)], [(2, ⟨113, [I8 0, I8 0, I8 0, I1 0, I1 0, I8 0, I8 0, I8 0, I8 0, I8 0, I8 0, I8 0, I8 0]⟩), (6, ⟨113, [I8 (b.getD 1 0), I8 (b.getD 8 0), I8 (b.getD 9 0), I1 ((b.getD 4 0) * 256 + (b.getD 5 0)), I1 ((b.getD 6 0) * 256 + (b.getD 7 0)), I8 (b.getD 12 0), I8 (b.getD 13 0), I8 0, I8 0, I8 (b.getD 16 0), I8 0, I8 0, I8 0]⟩)]⟩ ?_
        have b7234 : (0 : Int) ≤ 17 := by omega
        have b7235 : 17 < ((b.length : Nat) : Int) := by omega
        refine Ix 22 5 1 A b.length c .i64 17 (.tmp 65) (.tmp 67) b7234 b7235 (fun _ _ => rowAt.so hb (by omega)) ?_
        obtain ⟨at7236, lo7236, hi7236⟩ := At.int [] hb 17 (by omega)
        simp only [IntKind.lo, IntKind.hi] at lo7236 hi7236
        refine Ld 5 A (17 * 1) (.tmp 68) (N8 (b.getD 17 0)) [N8 (b.getD 17 0)] at7236 ?_
        refine Rn 11 (.ex .normal) [.loop J7230, .blk 0, Qs B81 1023] ⟨77, [(0, VL A b.length c), (2, .own 2 0), (3, VT (⟨#[]⟩ : ByteArray)), (4, I6 0), (5, I6 ((b.getD 2 0) * 256 + (b.getD 3 0))), (6, .own 6 0), (7, I6 2), (52, I6 1), (53, VB true), (54, I6 1), (55, I6 2), (56, I6 1), (57, VL A b.length c), (58, I6 1), (59, I6 13), (60, .v (elt A (13 * 1))), (61, I8 (b.getD 13 0)), (62, .own 6 5), (63, .own 6 6), (64, I6 1), (65, VL A b.length c), (66, I6 1), (67, I6 17), (68, .v (elt A (17 * 1))), (69, I8 (b.getD 17 0)), (70, .own 6 9), (71, .own 6 10)], [(2, ⟨113, [I8 0, I8 0, I8 0, I1 0, I1 0, I8 0, I8 0, I8 0, I8 0, I8 0, I8 0, I8 0, I8 0]⟩), (6, ⟨113, [I8 (b.getD 1 0), I8 (b.getD 8 0), I8 (b.getD 9 0), I1 ((b.getD 4 0) * 256 + (b.getD 5 0)), I1 ((b.getD 6 0) * 256 + (b.getD 7 0)), I8 (b.getD 12 0), I8 (b.getD 13 0), I8 0, I8 0, I8 (b.getD 16 0), I8 (b.getD 17 0), I8 0, I8 0]⟩)]⟩ ?_
        refine X.again (hJ7230 _ _ _ ?_)
        refine RX.succ fun J7237 hJ7237 => ?_
        refine Rn 18 (Qo B81 130888 4) [Qs B81 130889, .blk 1, Qs B81 32723, .loop J7237, .blk 0, Qs B81 1023] ⟨77, [(0, VL A b.length c), (2, .own 2 0), (3, VT (⟨#[]⟩ : ByteArray)), (4, I6 0), (5, I6 ((b.getD 2 0) * 256 + (b.getD 3 0))), (6, .own 6 0), (7, I6 2), (52, I6 2), (53, VB true), (54, I6 1), (55, I6 2), (56, I6 2), (57, VL A b.length c), (58, I6 2), (59, I6 14), (60, .v (elt A (13 * 1))), (61, I8 (b.getD 13 0)), (62, .own 6 5), (63, .own 6 6), (64, I6 1), (65, VL A b.length c), (66, I6 1), (67, I6 17), (68, .v (elt A (17 * 1))), (69, I8 (b.getD 17 0)), (70, .own 6 9), (71, .own 6 10)], [(2, ⟨113, [I8 0, I8 0, I8 0, I1 0, I1 0, I8 0, I8 0, I8 0, I8 0, I8 0, I8 0, I8 0, I8 0]⟩), (6, ⟨113, [I8 (b.getD 1 0), I8 (b.getD 8 0), I8 (b.getD 9 0), I1 ((b.getD 4 0) * 256 + (b.getD 5 0)), I1 ((b.getD 6 0) * 256 + (b.getD 7 0)), I8 (b.getD 12 0), I8 (b.getD 13 0), I8 0, I8 0, I8 (b.getD 16 0), I8 (b.getD 17 0), I8 0, I8 0]⟩)]⟩ ?_
        have b7238 : (0 : Int) ≤ 14 := by omega
        have b7239 : 14 < ((b.length : Nat) : Int) := by omega
        refine Ix 22 5 1 A b.length c .i64 14 (.tmp 57) (.tmp 59) b7238 b7239 (fun _ _ => rowAt.so hb (by omega)) ?_
        obtain ⟨at7240, lo7240, hi7240⟩ := At.int [] hb 14 (by omega)
        simp only [IntKind.lo, IntKind.hi] at lo7240 hi7240
        refine Ld 5 A (14 * 1) (.tmp 60) (N8 (b.getD 14 0)) [N8 (b.getD 14 0)] at7240 ?_
        refine Rn 10 (Qo B81 130889 4) [.blk 1, Qs B81 32723, .loop J7237, .blk 0, Qs B81 1023] ⟨77, [(0, VL A b.length c), (2, .own 2 0), (3, VT (⟨#[]⟩ : ByteArray)), (4, I6 0), (5, I6 ((b.getD 2 0) * 256 + (b.getD 3 0))), (6, .own 6 0), (7, I6 2), (52, I6 2), (53, VB true), (54, I6 1), (55, I6 2), (56, I6 2), (57, VL A b.length c), (58, I6 2), (59, I6 14), (60, .v (elt A (14 * 1))), (61, I8 (b.getD 14 0)), (62, .own 6 5), (63, .own 6 7), (64, I6 2), (65, VL A b.length c), (66, I6 2), (67, I6 18), (68, .v (elt A (17 * 1))), (69, I8 (b.getD 17 0)), (70, .own 6 9), (71, .own 6 10)], [(2, ⟨113, [I8 0, I8 0, I8 0, I1 0, I1 0, I8 0, I8 0, I8 0, I8 0, I8 0, I8 0, I8 0, I8 0]⟩), (6, ⟨113, [I8 (b.getD 1 0), I8 (b.getD 8 0), I8 (b.getD 9 0), I1 ((b.getD 4 0) * 256 + (b.getD 5 0)), I1 ((b.getD 6 0) * 256 + (b.getD 7 0)), I8 (b.getD 12 0), I8 (b.getD 13 0), I8 (b.getD 14 0), I8 0, I8 (b.getD 16 0), I8 (b.getD 17 0), I8 0, I8 0]⟩)]⟩ ?_
        have b7241 : (0 : Int) ≤ 18 := by omega
        have b7242 : 18 < ((b.length : Nat) : Int) := by omega
        refine Ix 22 5 1 A b.length c .i64 18 (.tmp 65) (.tmp 67) b7241 b7242 (fun _ _ => rowAt.so hb (by omega)) ?_
        obtain ⟨at7243, lo7243, hi7243⟩ := At.int [] hb 18 (by omega)
        simp only [IntKind.lo, IntKind.hi] at lo7243 hi7243
        refine Ld 5 A (18 * 1) (.tmp 68) (N8 (b.getD 18 0)) [N8 (b.getD 18 0)] at7243 ?_
        refine Rn 11 (.ex .normal) [.loop J7237, .blk 0, Qs B81 1023] ⟨77, [(0, VL A b.length c), (2, .own 2 0), (3, VT (⟨#[]⟩ : ByteArray)), (4, I6 0), (5, I6 ((b.getD 2 0) * 256 + (b.getD 3 0))), (6, .own 6 0), (7, I6 3), (52, I6 2), (53, VB true), (54, I6 2), (55, I6 3), (56, I6 2), (57, VL A b.length c), (58, I6 2), (59, I6 14), (60, .v (elt A (14 * 1))), (61, I8 (b.getD 14 0)), (62, .own 6 5), (63, .own 6 7), (64, I6 2), (65, VL A b.length c), (66, I6 2), (67, I6 18), (68, .v (elt A (18 * 1))), (69, I8 (b.getD 18 0)), (70, .own 6 9), (71, .own 6 11)], [(2, ⟨113, [I8 0, I8 0, I8 0, I1 0, I1 0, I8 0, I8 0, I8 0, I8 0, I8 0, I8 0, I8 0, I8 0]⟩), (6, ⟨113, [I8 (b.getD 1 0), I8 (b.getD 8 0), I8 (b.getD 9 0), I1 ((b.getD 4 0) * 256 + (b.getD 5 0)), I1 ((b.getD 6 0) * 256 + (b.getD 7 0)), I8 (b.getD 12 0), I8 (b.getD 13 0), I8 (b.getD 14 0), I8 0, I8 (b.getD 16 0), I8 (b.getD 17 0), I8 (b.getD 18 0), I8 0]⟩)]⟩ ?_
        refine X.again (hJ7237 _ _ _ ?_)
        refine RX.succ fun J7244 hJ7244 => ?_
        refine Rn 18 (Qo B81 130888 4) [Qs B81 130889, .blk 1, Qs B81 32723, .loop J7244, .blk 0, Qs B81 1023] ⟨77, [(0, VL A b.length c), (2, .own 2 0), (3, VT (⟨#[]⟩ : ByteArray)), (4, I6 0), (5, I6 ((b.getD 2 0) * 256 + (b.getD 3 0))), (6, .own 6 0), (7, I6 3), (52, I6 3), (53, VB true), (54, I6 2), (55, I6 3), (56, I6 3), (57, VL A b.length c), (58, I6 3), (59, I6 15), (60, .v (elt A (14 * 1))), (61, I8 (b.getD 14 0)), (62, .own 6 5), (63, .own 6 7), (64, I6 2), (65, VL A b.length c), (66, I6 2), (67, I6 18), (68, .v (elt A (18 * 1))), (69, I8 (b.getD 18 0)), (70, .own 6 9), (71, .own 6 11)], [(2, ⟨113, [I8 0, I8 0, I8 0, I1 0, I1 0, I8 0, I8 0, I8 0, I8 0, I8 0, I8 0, I8 0, I8 0]⟩), (6, ⟨113, [I8 (b.getD 1 0), I8 (b.getD 8 0), I8 (b.getD 9 0), I1 ((b.getD 4 0) * 256 + (b.getD 5 0)), I1 ((b.getD 6 0) * 256 + (b.getD 7 0)), I8 (b.getD 12 0), I8 (b.getD 13 0), I8 (b.getD 14 0), I8 0, I8 (b.getD 16 0), I8 (b.getD 17 0), I8 (b.getD 18 0), I8 0]⟩)]⟩ ?_
        have b7245 : (0 : Int) ≤ 15 := by omega
        have b7246 : 15 < ((b.length : Nat) : Int) := by omega
        refine Ix 22 5 1 A b.length c .i64 15 (.tmp 57) (.tmp 59) b7245 b7246 (fun _ _ => rowAt.so hb (by omega)) ?_
        obtain ⟨at7247, lo7247, hi7247⟩ := At.int [] hb 15 (by omega)
        simp only [IntKind.lo, IntKind.hi] at lo7247 hi7247
        refine Ld 5 A (15 * 1) (.tmp 60) (N8 (b.getD 15 0)) [N8 (b.getD 15 0)] at7247 ?_
        refine Rn 10 (Qo B81 130889 4) [.blk 1, Qs B81 32723, .loop J7244, .blk 0, Qs B81 1023] ⟨77, [(0, VL A b.length c), (2, .own 2 0), (3, VT (⟨#[]⟩ : ByteArray)), (4, I6 0), (5, I6 ((b.getD 2 0) * 256 + (b.getD 3 0))), (6, .own 6 0), (7, I6 3), (52, I6 3), (53, VB true), (54, I6 2), (55, I6 3), (56, I6 3), (57, VL A b.length c), (58, I6 3), (59, I6 15), (60, .v (elt A (15 * 1))), (61, I8 (b.getD 15 0)), (62, .own 6 5), (63, .own 6 8), (64, I6 3), (65, VL A b.length c), (66, I6 3), (67, I6 19), (68, .v (elt A (18 * 1))), (69, I8 (b.getD 18 0)), (70, .own 6 9), (71, .own 6 11)], [(2, ⟨113, [I8 0, I8 0, I8 0, I1 0, I1 0, I8 0, I8 0, I8 0, I8 0, I8 0, I8 0, I8 0, I8 0]⟩), (6, ⟨113, [I8 (b.getD 1 0), I8 (b.getD 8 0), I8 (b.getD 9 0), I1 ((b.getD 4 0) * 256 + (b.getD 5 0)), I1 ((b.getD 6 0) * 256 + (b.getD 7 0)), I8 (b.getD 12 0), I8 (b.getD 13 0), I8 (b.getD 14 0), I8 (b.getD 15 0), I8 (b.getD 16 0), I8 (b.getD 17 0), I8 (b.getD 18 0), I8 0]⟩)]⟩ ?_
        have b7248 : (0 : Int) ≤ 19 := by omega
        have b7249 : 19 < ((b.length : Nat) : Int) := by omega
        refine Ix 22 5 1 A b.length c .i64 19 (.tmp 65) (.tmp 67) b7248 b7249 (fun _ _ => rowAt.so hb (by omega)) ?_
        obtain ⟨at7250, lo7250, hi7250⟩ := At.int [] hb 19 (by omega)
        simp only [IntKind.lo, IntKind.hi] at lo7250 hi7250
        refine Ld 5 A (19 * 1) (.tmp 68) (N8 (b.getD 19 0)) [N8 (b.getD 19 0)] at7250 ?_
        refine Rn 11 (.ex .normal) [.loop J7244, .blk 0, Qs B81 1023] ⟨77, [(0, VL A b.length c), (2, .own 2 0), (3, VT (⟨#[]⟩ : ByteArray)), (4, I6 0), (5, I6 ((b.getD 2 0) * 256 + (b.getD 3 0))), (6, .own 6 0), (7, I6 4), (52, I6 3), (53, VB true), (54, I6 3), (55, I6 4), (56, I6 3), (57, VL A b.length c), (58, I6 3), (59, I6 15), (60, .v (elt A (15 * 1))), (61, I8 (b.getD 15 0)), (62, .own 6 5), (63, .own 6 8), (64, I6 3), (65, VL A b.length c), (66, I6 3), (67, I6 19), (68, .v (elt A (19 * 1))), (69, I8 (b.getD 19 0)), (70, .own 6 9), (71, .own 6 12)], [(2, ⟨113, [I8 0, I8 0, I8 0, I1 0, I1 0, I8 0, I8 0, I8 0, I8 0, I8 0, I8 0, I8 0, I8 0]⟩), (6, ⟨113, [I8 (b.getD 1 0), I8 (b.getD 8 0), I8 (b.getD 9 0), I1 ((b.getD 4 0) * 256 + (b.getD 5 0)), I1 ((b.getD 6 0) * 256 + (b.getD 7 0)), I8 (b.getD 12 0), I8 (b.getD 13 0), I8 (b.getD 14 0), I8 (b.getD 15 0), I8 (b.getD 16 0), I8 (b.getD 17 0), I8 (b.getD 18 0), I8 (b.getD 19 0)]⟩)]⟩ ?_
        refine X.again (hJ7244 _ _ _ ?_)
        refine RX.succ fun J7251 hJ7251 => ?_
        refine Rn 14 (Qc B81 2046) [Qs B81 2047] ⟨77, [(0, VL A b.length c), (2, .own 2 0), (3, VT (⟨#[]⟩ : ByteArray)), (4, I6 0), (5, I6 ((b.getD 2 0) * 256 + (b.getD 3 0))), (6, .own 6 0)], [(2, ⟨113, [I8 0, I8 0, I8 0, I1 0, I1 0, I8 0, I8 0, I8 0, I8 0, I8 0, I8 0, I8 0, I8 0]⟩), (6, ⟨113, [I8 (b.getD 1 0), I8 (b.getD 8 0), I8 (b.getD 9 0), I1 ((b.getD 4 0) * 256 + (b.getD 5 0)), I1 ((b.getD 6 0) * 256 + (b.getD 7 0)), I8 (b.getD 12 0), I8 (b.getD 13 0), I8 (b.getD 14 0), I8 (b.getD 15 0), I8 (b.getD 16 0), I8 (b.getD 17 0), I8 (b.getD 18 0), I8 (b.getD 19 0)]⟩)]⟩ ?_
        have hb_d7252 := hb
        have hr9_d7252 := hr9
        refine Og 18 B81 2046 8 [⟨some 6, 6, 113, [I8 (b.getD 1 0), I8 (b.getD 8 0), I8 (b.getD 9 0), I1 ((b.getD 4 0) * 256 + (b.getD 5 0)), I1 ((b.getD 6 0) * 256 + (b.getD 7 0)), I8 (b.getD 12 0), I8 (b.getD 13 0), I8 (b.getD 14 0), I8 (b.getD 15 0), I8 (b.getD 16 0), I8 (b.getD 17 0), I8 (b.getD 18 0), I8 (b.getD 19 0)]⟩] [] [] ⟨⟨fun _ h => (by cases h; rfl), rfl⟩, trivial⟩ (by intro p hp hn; simp only [List.mem_cons, List.not_mem_nil, or_false] at hp; rcases hp with rfl <;> first | (cases hn; done) | exact absurd _ (Nat.le_of_ble_eq_true rfl)) (fun ρ0 => ?_)
        refine Tk 0 8 1 B81 2046 (.v (.agg #[N8 (b.getD 1 0), N8 (b.getD 8 0), N8 (b.getD 9 0), N1 ((b.getD 4 0) * 256 + (b.getD 5 0)), N1 ((b.getD 6 0) * 256 + (b.getD 7 0)), N8 (b.getD 12 0), N8 (b.getD 13 0), N8 (b.getD 14 0), N8 (b.getD 15 0), N8 (b.getD 16 0), N8 (b.getD 17 0), N8 (b.getD 18 0), N8 (b.getD 19 0)])) QOk.ctxG ?_
        refine Tk 1 8 3 B81 2046 (VL A b.length c) QOk.ctxG ?_
        refine Tk 2 8 7 B81 2046 (I6 ((b.getD 2 0) * 256 + (b.getD 3 0))) QOk.ctxG ?_
        have hlo7253 : 20 ≤ ((b.getD 2 0) * 256 + (b.getD 3 0)).toNat := by omega
        have hhi7253 : ((b.getD 2 0) * 256 + (b.getD 3 0)).toNat ≤ b.length := by omega
        refine XD.cut (i := 3) (l' := (lb 8 15)) (o := (oA B81 (pa 2046) 3)) (t := 22) (e := 5) (sz := 1) (n := b.length) (c := c) (A := A) (x := .tmp 73) (l0 := (some (.const (N6 20)))) (h := (some (.tmp 74))) (lv := (some (N6 20))) (hv := (some (N6 ((b.getD 2 0) * 256 + (b.getD 3 0))))) 20 (((b.getD 2 0) * 256 + (b.getD 3 0)).toNat) QOk.ctxG (by kernel_rfl) (by kernel_rfl) (by kernel_rfl) (by kernel_rfl) (by kernel_rfl) (by kernel_rfl) (by kernel_rfl) (by kernel_rfl) (by kernel_rfl) (⟨_, _, rfl, by omega, rfl⟩) (⟨_, _, rfl, by omega, rfl⟩) hlo7253 (Nat.le_trans hhi7253 hle) (by kernel_rfl) ?_
        obtain ⟨A7253, hA7253⟩ : ∃ A_, cutA A c 20 1 = A_ := ⟨_, rfl⟩
        obtain ⟨ys7253, hys7253⟩ : ∃ l_, (b.take (((b.getD 2 0) * 256 + (b.getD 3 0)).toNat)).drop 20 = l_ := ⟨_, rfl⟩
        have hr7253 : rowAt (D.int .u8) G7222 (cutA A c 20 1) ((b.take (((b.getD 2 0) * 256 + (b.getD 3 0)).toNat)).drop 20) := rowAt_cut hb hlo7253 hhi7253 hle
        have hl7253 : (((b.getD 2 0) * 256 + (b.getD 3 0)).toNat) - 20 = ys7253.length := by rw [← hys7253, List.length_drop, List.length_take]; omega
        have hc7253 : ys7253.length ≤ c - 20 := by omega
        have hm7253 : c - 20 ≤ maxLen := Nat.le_trans (Nat.sub_le _ _) hmx
        rw [hys7253, show cutA A c 20 _ = A7253 from hA7253] at hr7253
        rw [hA7253, hl7253]
        refine XD.joinA (α := Unit) (fun x_ => ⟨77, [(2, .own 2 0), (3, VT (strOf ys7253)), (4, I6 0), (6, .own 6 0)], [(2, ⟨113, [I8 (b.getD 1 0), I8 (b.getD 8 0), I8 (b.getD 9 0), I1 ((b.getD 4 0) * 256 + (b.getD 5 0)), I1 ((b.getD 6 0) * 256 + (b.getD 7 0)), I8 (b.getD 12 0), I8 (b.getD 13 0), I8 (b.getD 14 0), I8 (b.getD 15 0), I8 (b.getD 16 0), I8 (b.getD 17 0), I8 (b.getD 18 0), I8 (b.getD 19 0)]⟩), (6, ⟨113, [I8 (b.getD 1 0), I8 (b.getD 8 0), I8 (b.getD 9 0), I1 ((b.getD 4 0) * 256 + (b.getD 5 0)), I1 ((b.getD 6 0) * 256 + (b.getD 7 0)), I8 (b.getD 12 0), I8 (b.getD 13 0), I8 (b.getD 14 0), I8 (b.getD 15 0), I8 (b.getD 16 0), I8 (b.getD 17 0), I8 (b.getD 18 0), I8 (b.getD 19 0)]⟩)]⟩) (fun x_ => []) (lb 8 255) 0 ?_ fun hL7253_255 => ?_
        ·
         rintro _ G11254 hG11254
         replace hb := hb.mono hG11254.le
         replace hr9 := hr9.mono hG11254.le
         replace hr7253 := hr7253.mono hG11254.le
         refine Dn ⟨77, [(2, .own 2 0), (3, VT (strOf ys7253)), (4, I6 0), (6, .own 6 0)], [(2, ⟨113, [I8 (b.getD 1 0), I8 (b.getD 8 0), I8 (b.getD 9 0), I1 ((b.getD 4 0) * 256 + (b.getD 5 0)), I1 ((b.getD 6 0) * 256 + (b.getD 7 0)), I8 (b.getD 12 0), I8 (b.getD 13 0), I8 (b.getD 14 0), I8 (b.getD 15 0), I8 (b.getD 16 0), I8 (b.getD 17 0), I8 (b.getD 18 0), I8 (b.getD 19 0)]⟩), (6, ⟨113, [I8 (b.getD 1 0), I8 (b.getD 8 0), I8 (b.getD 9 0), I1 ((b.getD 4 0) * 256 + (b.getD 5 0)), I1 ((b.getD 6 0) * 256 + (b.getD 7 0)), I8 (b.getD 12 0), I8 (b.getD 13 0), I8 (b.getD 14 0), I8 (b.getD 15 0), I8 (b.getD 16 0), I8 (b.getD 17 0), I8 (b.getD 18 0), I8 (b.getD 19 0)]⟩)]⟩ ⟨⟨fun _ h => (by cases h; rfl), rfl⟩, trivial⟩ ?_
         refine XD.rows [] (R' := []) rfl rfl ?_
         refine XD.done (by kernel_rfl) ?_
         refine Rn 2 (.ex .ret) [] ⟨77, [(2, .own 2 0), (3, VT (strOf ys7253)), (4, I6 0)], [(2, ⟨113, [I8 (b.getD 1 0), I8 (b.getD 8 0), I8 (b.getD 9 0), I1 ((b.getD 4 0) * 256 + (b.getD 5 0)), I1 ((b.getD 6 0) * 256 + (b.getD 7 0)), I8 (b.getD 12 0), I8 (b.getD 13 0), I8 (b.getD 14 0), I8 (b.getD 15 0), I8 (b.getD 16 0), I8 (b.getD 17 0), I8 (b.getD 18 0), I8 (b.getD 19 0)]⟩)]⟩ ?_
         refine Dg (.inl rfl) [.agg #[N8 (b.getD 1 0), N8 (b.getD 8 0), N8 (b.getD 9 0), N1 ((b.getD 4 0) * 256 + (b.getD 5 0)), N1 ((b.getD 6 0) * 256 + (b.getD 7 0)), N8 (b.getD 12 0), N8 (b.getD 13 0), N8 (b.getD 14 0), N8 (b.getD 15 0), N8 (b.getD 16 0), N8 (b.getD 17 0), N8 (b.getD 18 0), N8 (b.getD 19 0)], .string (strOf ys7253), N6 0] [] rfl ((((hG2.trans hG10).trans hG7222).trans hG11254)) ?_
         rw [decI_fine hs_ hf_ hc_ hk_ hx_]
         subst hys7253
         exact ⟨rfl, rfl⟩
        refine Dn ⟨77, [(2, .own 2 0), (3, VT (⟨#[]⟩ : ByteArray)), (4, I6 0), (6, .own 6 0), (72, .v (.agg #[N8 (b.getD 1 0), N8 (b.getD 8 0), N8 (b.getD 9 0), N1 ((b.getD 4 0) * 256 + (b.getD 5 0)), N1 ((b.getD 6 0) * 256 + (b.getD 7 0)), N8 (b.getD 12 0), N8 (b.getD 13 0), N8 (b.getD 14 0), N8 (b.getD 15 0), N8 (b.getD 16 0), N8 (b.getD 17 0), N8 (b.getD 18 0), N8 (b.getD 19 0)])), (75, VL A7253 ys7253.length (c - 20))], [(2, ⟨113, [I8 0, I8 0, I8 0, I1 0, I1 0, I8 0, I8 0, I8 0, I8 0, I8 0, I8 0, I8 0, I8 0]⟩), (6, ⟨113, [I8 (b.getD 1 0), I8 (b.getD 8 0), I8 (b.getD 9 0), I1 ((b.getD 4 0) * 256 + (b.getD 5 0)), I1 ((b.getD 6 0) * 256 + (b.getD 7 0)), I8 (b.getD 12 0), I8 (b.getD 13 0), I8 (b.getD 14 0), I8 (b.getD 15 0), I8 (b.getD 16 0), I8 (b.getD 17 0), I8 (b.getD 18 0), I8 (b.getD 19 0)]⟩)]⟩ ⟨⟨fun _ h => (by cases h; rfl), rfl⟩, trivial⟩ ?_
        refine XD.two (i := 4) (j := 5) (li := (lb 8 31)) (lj := (lb 8 47)) (oA B81 (pa 2046) 4) (oA B81 (pa 2046) 5) (by kernel_rfl) (by kernel_rfl) (by kernel_rfl) (by kernel_rfl) (by kernel_rfl) ?_ ?_
        ·
         refine X.toStrW (src := 22) (dst := 9) (e := 5) (n := ys7253.length) (c := c - 20) (A := A7253) (x := .tmp 75) ys7253 (by kernel_rfl) (by kernel_rfl) (by kernel_rfl) (by kernel_rfl) (by kernel_rfl) rfl (at_ints [] hr7253) (fun w hw e => rowAt.none hr7253 e) (by kernel_rfl) ?_
         refine X.back ⟨⟨⟨fun _ h => (by cases h; rfl), rfl⟩, trivial⟩, Le.refl _, rfl, ?_⟩
         refine Dn ⟨77, [(2, .own 2 0), (3, VT (⟨#[]⟩ : ByteArray)), (4, I6 0), (6, .own 6 0), (72, .v (.agg #[N8 (b.getD 1 0), N8 (b.getD 8 0), N8 (b.getD 9 0), N1 ((b.getD 4 0) * 256 + (b.getD 5 0)), N1 ((b.getD 6 0) * 256 + (b.getD 7 0)), N8 (b.getD 12 0), N8 (b.getD 13 0), N8 (b.getD 14 0), N8 (b.getD 15 0), N8 (b.getD 16 0), N8 (b.getD 17 0), N8 (b.getD 18 0), N8 (b.getD 19 0)])), (76, VT (strOf ys7253))], [(2, ⟨113, [I8 0, I8 0, I8 0, I1 0, I1 0, I8 0, I8 0, I8 0, I8 0, I8 0, I8 0, I8 0, I8 0]⟩), (6, ⟨113, [I8 (b.getD 1 0), I8 (b.getD 8 0), I8 (b.getD 9 0), I1 ((b.getD 4 0) * 256 + (b.getD 5 0)), I1 ((b.getD 6 0) * 256 + (b.getD 7 0)), I8 (b.getD 12 0), I8 (b.getD 13 0), I8 (b.getD 14 0), I8 (b.getD 15 0), I8 (b.getD 16 0), I8 (b.getD 17 0), I8 (b.getD 18 0), I8 (b.getD 19 0)]⟩)]⟩ ⟨⟨fun _ h => (by cases h; rfl), rfl⟩, trivial⟩ ?_
         refine Do 5 8 63 B81 2046 ?_
         refine X.simple (by kernel_rfl) ?_
         refine X.back ⟨⟨⟨fun _ h => (by cases h; rfl), rfl⟩, trivial⟩, Le.refl _, rfl, ?_⟩
         refine Ts [6, 7] 8 255 0 2 QOk.ctxG ?_
         refine Dn ⟨77, [(2, .own 2 0), (3, VT (strOf ys7253)), (4, I6 0), (6, .own 6 0)], [(2, ⟨113, [I8 (b.getD 1 0), I8 (b.getD 8 0), I8 (b.getD 9 0), I1 ((b.getD 4 0) * 256 + (b.getD 5 0)), I1 ((b.getD 6 0) * 256 + (b.getD 7 0)), I8 (b.getD 12 0), I8 (b.getD 13 0), I8 (b.getD 14 0), I8 (b.getD 15 0), I8 (b.getD 16 0), I8 (b.getD 17 0), I8 (b.getD 18 0), I8 (b.getD 19 0)]⟩), (6, ⟨113, [I8 (b.getD 1 0), I8 (b.getD 8 0), I8 (b.getD 9 0), I1 ((b.getD 4 0) * 256 + (b.getD 5 0)), I1 ((b.getD 6 0) * 256 + (b.getD 7 0)), I8 (b.getD 12 0), I8 (b.getD 13 0), I8 (b.getD 14 0), I8 (b.getD 15 0), I8 (b.getD 16 0), I8 (b.getD 17 0), I8 (b.getD 18 0), I8 (b.getD 19 0)]⟩)]⟩ ⟨⟨fun _ h => (by cases h; rfl), rfl⟩, trivial⟩ ?_
         refine XD.rows [] (R' := []) rfl rfl ?_
         exact hL7253_255 () _ (Ge.refl _ _)
        ·
         refine X.simple (by kernel_rfl) ?_
         refine X.back ⟨⟨⟨fun _ h => (by cases h; rfl), rfl⟩, trivial⟩, Le.refl _, rfl, ?_⟩
         refine Dn ⟨77, [(2, .own 2 0), (3, VT (⟨#[]⟩ : ByteArray)), (4, I6 0), (6, .own 6 0), (75, VL A7253 ys7253.length (c - 20))], [(2, ⟨113, [I8 (b.getD 1 0), I8 (b.getD 8 0), I8 (b.getD 9 0), I1 ((b.getD 4 0) * 256 + (b.getD 5 0)), I1 ((b.getD 6 0) * 256 + (b.getD 7 0)), I8 (b.getD 12 0), I8 (b.getD 13 0), I8 (b.getD 14 0), I8 (b.getD 15 0), I8 (b.getD 16 0), I8 (b.getD 17 0), I8 (b.getD 18 0), I8 (b.getD 19 0)]⟩), (6, ⟨113, [I8 (b.getD 1 0), I8 (b.getD 8 0), I8 (b.getD 9 0), I1 ((b.getD 4 0) * 256 + (b.getD 5 0)), I1 ((b.getD 6 0) * 256 + (b.getD 7 0)), I8 (b.getD 12 0), I8 (b.getD 13 0), I8 (b.getD 14 0), I8 (b.getD 15 0), I8 (b.getD 16 0), I8 (b.getD 17 0), I8 (b.getD 18 0), I8 (b.getD 19 0)]⟩)]⟩ ⟨⟨fun _ h => (by cases h; rfl), rfl⟩, trivial⟩ ?_
         refine Do 4 8 63 B81 2046 ?_
         refine X.toStrW (src := 22) (dst := 9) (e := 5) (n := ys7253.length) (c := c - 20) (A := A7253) (x := .tmp 75) ys7253 (by kernel_rfl) (by kernel_rfl) (by kernel_rfl) (by kernel_rfl) (by kernel_rfl) rfl (at_ints [] hr7253) (fun w hw e => rowAt.none hr7253 e) (by kernel_rfl) ?_
         refine X.back ⟨⟨⟨fun _ h => (by cases h; rfl), rfl⟩, trivial⟩, Le.refl _, rfl, ?_⟩
         refine Ts [6, 7] 8 255 0 2 QOk.ctxG ?_
         refine Dn ⟨77, [(2, .own 2 0), (3, VT (strOf ys7253)), (4, I6 0), (6, .own 6 0)], [(2, ⟨113, [I8 (b.getD 1 0), I8 (b.getD 8 0), I8 (b.getD 9 0), I1 ((b.getD 4 0) * 256 + (b.getD 5 0)), I1 ((b.getD 6 0) * 256 + (b.getD 7 0)), I8 (b.getD 12 0), I8 (b.getD 13 0), I8 (b.getD 14 0), I8 (b.getD 15 0), I8 (b.getD 16 0), I8 (b.getD 17 0), I8 (b.getD 18 0), I8 (b.getD 19 0)]⟩), (6, ⟨113, [I8 (b.getD 1 0), I8 (b.getD 8 0), I8 (b.getD 9 0), I1 ((b.getD 4 0) * 256 + (b.getD 5 0)), I1 ((b.getD 6 0) * 256 + (b.getD 7 0)), I8 (b.getD 12 0), I8 (b.getD 13 0), I8 (b.getD 14 0), I8 (b.getD 15 0), I8 (b.getD 16 0), I8 (b.getD 17 0), I8 (b.getD 18 0), I8 (b.getD 19 0)]⟩)]⟩ ⟨⟨fun _ h => (by cases h; rfl), rfl⟩, trivial⟩ ?_
         refine XD.rows [] (R' := []) rfl rfl ?_
         exact hL7253_255 () _ (Ge.refl _ _)
      refine XD.joinA (α := Unit) (fun x_ => ⟨77, [(0, VL A b.length c), (2, .own 2 0), (3, VT (⟨#[]⟩ : ByteArray)), (4, I6 0), (5, I6 ((b.getD 2 0) * 256 + (b.getD 3 0))), (6, .own 6 0), (36, I8 (b.getD 1 0)), (38, I1 ((b.getD 4 0) * 256 + (b.getD 5 0))), (39, VL A b.length c), (43, I8 (b.getD 8 0)), (46, I8 (b.getD 9 0))], [(2, ⟨113, [I8 0, I8 0, I8 0, I1 0, I1 0, I8 0, I8 0, I8 0, I8 0, I8 0, I8 0, I8 0, I8 0]⟩), (6, ⟨113, [I8 0, I8 0, I8 0, I1 0, I1 0, I8 0, I8 0, I8 0, I8 0, I8 0, I8 0, I8 0, I8 0]⟩)]⟩) (fun x_ => []) (lb 16 24511) 3 ?_ fun hL21_24511 => ?_
      ·
       rintro _ G7223 hG7223
       replace hb := hb.mono hG7223.le
       replace hr9 := hr9.mono hG7223.le
       refine Dn ⟨77, [(0, VL A b.length c), (2, .own 2 0), (3, VT (⟨#[]⟩ : ByteArray)), (4, I6 0), (5, I6 ((b.getD 2 0) * 256 + (b.getD 3 0))), (6, .own 6 0), (36, I8 (b.getD 1 0)), (38, I1 ((b.getD 4 0) * 256 + (b.getD 5 0))), (39, VL A b.length c), (43, I8 (b.getD 8 0)), (46, I8 (b.getD 9 0))], [(2, ⟨113, [I8 0, I8 0, I8 0, I1 0, I1 0, I8 0, I8 0, I8 0, I8 0, I8 0, I8 0, I8 0, I8 0]⟩), (6, ⟨113, [I8 0, I8 0, I8 0, I1 0, I1 0, I8 0, I8 0, I8 0, I8 0, I8 0, I8 0, I8 0, I8 0]⟩)]⟩ trivial ?_
       refine XD.rows [] (R' := []) rfl rfl ?_
       refine Dn ⟨77, [(0, VL A b.length c), (2, .own 2 0), (3, VT (⟨#[]⟩ : ByteArray)), (4, I6 0), (5, I6 ((b.getD 2 0) * 256 + (b.getD 3 0))), (6, .own 6 0), (36, I8 (b.getD 1 0)), (38, I1 ((b.getD 4 0) * 256 + (b.getD 5 0))), (39, VL A b.length c), (43, I8 (b.getD 8 0)), (46, I8 (b.getD 9 0))], [(2, ⟨113, [I8 0, I8 0, I8 0, I1 0, I1 0, I8 0, I8 0, I8 0, I8 0, I8 0, I8 0, I8 0, I8 0]⟩), (6, ⟨113, [I8 0, I8 0, I8 0, I1 0, I1 0, I8 0, I8 0, I8 0, I8 0, I8 0, I8 0, I8 0, I8 0]⟩)]⟩ trivial ?_
       refine Do 6 16 24575 B81 254 ?_
       refine Cg 135 [.slice A b.length c, N6 6] 0 (twoR_ok A c b 6 _ hb hle hmx (by omega)) ?_
       rintro v2822 G2822 rows2822 hG2822 ⟨rfl, rfl⟩
       replace hb := hb.mono hG2822.le
       replace hr9 := hr9.mono hG2822.le
       have hgb6_ := hg_ 6
       have hgb7_ := hg_ 7
       refine X.back ⟨trivial, (hG7223.trans hG2822).le, rfl, ?_⟩
       refine Ts [13] 16 32767 1 2 QOk.ctxG ?_
       refine Dn ⟨77, [(0, VL A b.length c), (2, .own 2 0), (3, VT (⟨#[]⟩ : ByteArray)), (4, I6 0), (5, I6 ((b.getD 2 0) * 256 + (b.getD 3 0))), (6, .own 6 0), (47, .v (.agg #[N8 (b.getD 1 0), N8 (b.getD 8 0), N8 (b.getD 9 0), N1 ((b.getD 4 0) * 256 + (b.getD 5 0)), N1 ((b.getD 6 0) * 256 + (b.getD 7 0)), N8 0, N8 0, N8 0, N8 0, N8 0, N8 0, N8 0, N8 0]))], [(2, ⟨113, [I8 0, I8 0, I8 0, I1 0, I1 0, I8 0, I8 0, I8 0, I8 0, I8 0, I8 0, I8 0, I8 0]⟩), (6, ⟨113, [I8 0, I8 0, I8 0, I1 0, I1 0, I8 0, I8 0, I8 0, I8 0, I8 0, I8 0, I8 0, I8 0]⟩)]⟩ trivial ?_
       refine XD.rows [] (R' := []) rfl rfl ?_
       exact hL21_32767 () _ (hG7223.trans hG2822)
      refine Dn ⟨77, [(0, VL A b.length c), (2, .own 2 0), (3, VT (⟨#[]⟩ : ByteArray)), (4, I6 0), (5, I6 ((b.getD 2 0) * 256 + (b.getD 3 0))), (36, I8 (b.getD 1 0)), (37, VL A b.length c), (39, VL A b.length c), (43, I8 (b.getD 8 0)), (46, I8 (b.getD 9 0))], [(2, ⟨113, [I8 0, I8 0, I8 0, I1 0, I1 0, I8 0, I8 0, I8 0, I8 0, I8 0, I8 0, I8 0, I8 0]⟩)]⟩ trivial ?_
      refine XD.two (i := 4) (j := 14) (li := (lb 16 8127)) (lj := (lb 16 24495)) (oA B81 (pa 254) 4) (oA B81 (pa 254) 14) (by kernel_rfl) (by kernel_rfl) (by kernel_rfl) (by kernel_rfl) (by kernel_rfl) ?_ ?_
      ·
       refine Cg 135 [.slice A b.length c, N6 4] 0 (twoR_ok A c b 4 _ hb hle hmx (by omega)) ?_
       rintro v2022 G2022 rows2022 hG2022 ⟨rfl, rfl⟩
       replace hb := hb.mono hG2022.le
       replace hr9 := hr9.mono hG2022.le
       have hgb4_ := hg_ 4
       have hgb5_ := hg_ 5
       refine X.back ⟨trivial, hG2022.le, rfl, ?_⟩
       refine Dn ⟨77, [(0, VL A b.length c), (2, .own 2 0), (3, VT (⟨#[]⟩ : ByteArray)), (4, I6 0), (5, I6 ((b.getD 2 0) * 256 + (b.getD 3 0))), (36, I8 (b.getD 1 0)), (38, I1 ((b.getD 4 0) * 256 + (b.getD 5 0))), (39, VL A b.length c), (43, I8 (b.getD 8 0)), (46, I8 (b.getD 9 0))], [(2, ⟨113, [I8 0, I8 0, I8 0, I1 0, I1 0, I8 0, I8 0, I8 0, I8 0, I8 0, I8 0, I8 0, I8 0]⟩)]⟩ trivial ?_
       refine XD.two (i := 6) (j := 14) (li := (lb 16 8191)) (lj := (lb 16 24511)) (oA B81 (pa 254) 6) (oA B81 (pa 254) 14) (by kernel_rfl) (by kernel_rfl) (by kernel_rfl) (by kernel_rfl) (by kernel_rfl) ?_ ?_
       ·
        refine Cg 135 [.slice A b.length c, N6 6] 0 (twoR_ok A c b 6 _ hb hle hmx (by omega)) ?_
        rintro v2822 G2822 rows2822 hG2822 ⟨rfl, rfl⟩
        replace hb := hb.mono hG2822.le
        replace hr9 := hr9.mono hG2822.le
        have hgb6_ := hg_ 6
        have hgb7_ := hg_ 7
        refine X.back ⟨trivial, (hG2022.trans hG2822).le, rfl, ?_⟩
        refine Ts [13] 16 16383 2 3 QOk.ctxG ?_
        refine Dn ⟨77, [(0, VL A b.length c), (2, .own 2 0), (3, VT (⟨#[]⟩ : ByteArray)), (4, I6 0), (5, I6 ((b.getD 2 0) * 256 + (b.getD 3 0))), (47, .v (.agg #[N8 (b.getD 1 0), N8 (b.getD 8 0), N8 (b.getD 9 0), N1 ((b.getD 4 0) * 256 + (b.getD 5 0)), N1 ((b.getD 6 0) * 256 + (b.getD 7 0)), N8 0, N8 0, N8 0, N8 0, N8 0, N8 0, N8 0, N8 0]))], [(2, ⟨113, [I8 0, I8 0, I8 0, I1 0, I1 0, I8 0, I8 0, I8 0, I8 0, I8 0, I8 0, I8 0, I8 0]⟩)]⟩ trivial ?_
        refine Do 14 16 32767 B81 254 ?_
        refine X.simple (by kernel_rfl) ?_
        refine X.back ⟨trivial, (hG2022.trans hG2822).le, rfl, ?_⟩
        refine Dn ⟨77, [(0, VL A b.length c), (2, .own 2 0), (3, VT (⟨#[]⟩ : ByteArray)), (4, I6 0), (5, I6 ((b.getD 2 0) * 256 + (b.getD 3 0))), (6, .own 6 0), (47, .v (.agg #[N8 (b.getD 1 0), N8 (b.getD 8 0), N8 (b.getD 9 0), N1 ((b.getD 4 0) * 256 + (b.getD 5 0)), N1 ((b.getD 6 0) * 256 + (b.getD 7 0)), N8 0, N8 0, N8 0, N8 0, N8 0, N8 0, N8 0, N8 0]))], [(2, ⟨113, [I8 0, I8 0, I8 0, I1 0, I1 0, I8 0, I8 0, I8 0, I8 0, I8 0, I8 0, I8 0, I8 0]⟩), (6, ⟨113, [I8 0, I8 0, I8 0, I1 0, I1 0, I8 0, I8 0, I8 0, I8 0, I8 0, I8 0, I8 0, I8 0]⟩)]⟩ trivial ?_
        refine XD.rows [] (R' := []) rfl rfl ?_
        exact hL21_32767 () _ (hG2022.trans hG2822)
       ·
        refine X.simple (by kernel_rfl) ?_
        refine X.back ⟨trivial, hG2022.le, rfl, ?_⟩
        refine Dn ⟨77, [(0, VL A b.length c), (2, .own 2 0), (3, VT (⟨#[]⟩ : ByteArray)), (4, I6 0), (5, I6 ((b.getD 2 0) * 256 + (b.getD 3 0))), (6, .own 6 0), (36, I8 (b.getD 1 0)), (38, I1 ((b.getD 4 0) * 256 + (b.getD 5 0))), (39, VL A b.length c), (43, I8 (b.getD 8 0)), (46, I8 (b.getD 9 0))], [(2, ⟨113, [I8 0, I8 0, I8 0, I1 0, I1 0, I8 0, I8 0, I8 0, I8 0, I8 0, I8 0, I8 0, I8 0]⟩), (6, ⟨113, [I8 0, I8 0, I8 0, I1 0, I1 0, I8 0, I8 0, I8 0, I8 0, I8 0, I8 0, I8 0, I8 0]⟩)]⟩ trivial ?_
        refine XD.rows [] (R' := []) rfl rfl ?_
        exact hL21_24511 () _ hG2022
      ·
       refine X.simple (by kernel_rfl) ?_
       refine X.back ⟨trivial, Le.refl _, rfl, ?_⟩
       refine Dn ⟨77, [(0, VL A b.length c), (2, .own 2 0), (3, VT (⟨#[]⟩ : ByteArray)), (4, I6 0), (5, I6 ((b.getD 2 0) * 256 + (b.getD 3 0))), (6, .own 6 0), (36, I8 (b.getD 1 0)), (37, VL A b.length c), (39, VL A b.length c), (43, I8 (b.getD 8 0)), (46, I8 (b.getD 9 0))], [(2, ⟨113, [I8 0, I8 0, I8 0, I1 0, I1 0, I8 0, I8 0, I8 0, I8 0, I8 0, I8 0, I8 0, I8 0]⟩), (6, ⟨113, [I8 0, I8 0, I8 0, I1 0, I1 0, I8 0, I8 0, I8 0, I8 0, I8 0, I8 0, I8 0, I8 0]⟩)]⟩ trivial ?_
       refine Do 4 16 24511 B81 254 ?_
       refine Cg 135 [.slice A b.length c, N6 4] 0 (twoR_ok A c b 4 _ hb hle hmx (by omega)) ?_
       rintro v2022 G2022 rows2022 hG2022 ⟨rfl, rfl⟩
       replace hb := hb.mono hG2022.le
       replace hr9 := hr9.mono hG2022.le
       have hgb4_ := hg_ 4
       have hgb5_ := hg_ 5
       refine X.back ⟨trivial, hG2022.le, rfl, ?_⟩
       refine Dn ⟨77, [(0, VL A b.length c), (2, .own 2 0), (3, VT (⟨#[]⟩ : ByteArray)), (4, I6 0), (5, I6 ((b.getD 2 0) * 256 + (b.getD 3 0))), (6, .own 6 0), (36, I8 (b.getD 1 0)), (38, I1 ((b.getD 4 0) * 256 + (b.getD 5 0))), (39, VL A b.length c), (43, I8 (b.getD 8 0)), (46, I8 (b.getD 9 0))], [(2, ⟨113, [I8 0, I8 0, I8 0, I1 0, I1 0, I8 0, I8 0, I8 0, I8 0, I8 0, I8 0, I8 0, I8 0]⟩), (6, ⟨113, [I8 0, I8 0, I8 0, I1 0, I1 0, I8 0, I8 0, I8 0, I8 0, I8 0, I8 0, I8 0, I8 0]⟩)]⟩ trivial ?_
       refine XD.rows [] (R' := []) rfl rfl ?_
       exact hL21_24511 () _ hG2022
end Go.Proofs.YtjgpdbkkpomhjaaX
