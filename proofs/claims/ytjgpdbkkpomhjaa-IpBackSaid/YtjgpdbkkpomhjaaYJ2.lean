/- ip.Encode. Walked; printed by a small program of this session. Conditions: none. -/
import Derived.Test.YtjgpdbkkpomhjaaProg
import Derived.KernelRfl
import Derived.Test.YtjgpdbkkpomhjaaYJ1
namespace Go.Proofs.YtjgpdbkkpomhjaaX
open Go.RowKit
open Go.Proofs.YtjgpdbkkpomhjaaW.PrintLast
set_option linter.unusedVariables false
set_option linter.unusedSimpArgs false
set_option maxRecDepth 100000
/-- leat/ip.Encode -/
noncomputable def B78 : Code := bodyOf Try.f78
set_option maxHeartbeats 1000000 in
theorem EncI_ok (h : Ih) (d : ByteArray) (G : Mem) (hh : h.ok) (hd : d.size ≤ maxLen) : CallsG Try.prog 78 [.agg #[.int .u8 h.x0, .int .u8 h.x1, .int .u8 h.x2, .int .u16 h.x3, .int .u16 h.x4, .int .u8 h.x5, .int .u8 h.x6, .int .u8 h.x7, .int .u8 h.x8, .int .u8 h.x9, .int .u8 h.y0, .int .u8 h.y1, .int .u8 h.y2], .string d] G (fun _ v rows => ∃ A' c', v = .tuple #[.slice A' (encI h d).1.length c', .int .i64 (encI h d).2] ∧ rows = [⟨5, 1, .slice A' (encI h d).1.length c', (encI h d).1.length, (encI h d).1.map (Value.int .u8)⟩]) := by
 obtain ⟨h0, h1, h2, h3, h4, h5, h6, h7, h8, h9, k0, k1, k2⟩ := hh
 have hh : h.ok := ⟨h0, h1, h2, h3, h4, h5, h6, h7, h8, h9, k0, k1, k2⟩
 refine CallsG.enter Try.func78 rfl rfl ?_
 intro w
 refine Rn 17 (Qc B78 25) [.blk 0, Qs B78 7] ⟨29, [(1, VT d), (2, .own 2 0), (4, VL none 0 0), (5, I6 0), (8, VB (decide ((d.size : Int) > 65515)))], [(2, ⟨113, [I8 h.x0, I8 h.x1, I8 h.x2, I1 h.x3, I1 h.x4, I8 h.x5, I8 h.x6, I8 h.x7, I8 h.x8, I8 h.x9, I8 h.y0, I8 h.y1, I8 h.y2]⟩)]⟩ ?_
 refine X.split 8 rfl (fun h1 => ?_) (fun h1 => ?_)
 ·
  replace h1 : (d.size : Int) > 65515 := of_decide_eq_true h1
  have hl_ :  65515 < d.size := by omega
  refine X.nilRow 390 5 1 rfl ?_
  refine Rn 10 (.ex .ret) [] ⟨29, [(4, VL none 0 0), (5, I6 4)], []⟩ ?_
  refine Dg (.inl rfl) [.slice none 0 0, N6 4] [390] rfl (Ge.refl _ _) ?_
  rw [encI_long hl_]
  exact ⟨none, 0, rfl, rfl⟩
 ·
  replace h1 : ¬ ((d.size : Int) > 65515) := of_decide_eq_false h1
  have hl_ : ¬ 65515 < d.size := by omega
  refine Rn 10 (Qc B78 103) [.blk 0, Qs B78 7] ⟨29, [(1, VT d), (2, .own 2 0), (4, VL none 0 0), (5, I6 0), (12, VB ((band .u16 h.x4 32768) != 0))], [(2, ⟨113, [I8 h.x0, I8 h.x1, I8 h.x2, I1 h.x3, I1 h.x4, I8 h.x5, I8 h.x6, I8 h.x7, I8 h.x8, I8 h.x9, I8 h.y0, I8 h.y1, I8 h.y2]⟩)]⟩ ?_
  refine X.split 12 rfl (fun h2 => ?_) (fun h2 => ?_)
  ·
   replace h2 : (band .u16 h.x4 32768) ≠ 0 := by simpa using h2
   have hf_ :  32768 ≤ h.x4 := by have hb_ := bit_none (n := h.x4) (by omega); omega
   refine X.nilRow 390 5 1 rfl ?_
   refine Rn 10 (.ex .ret) [] ⟨29, [(4, VL none 0 0), (5, I6 5)], []⟩ ?_
   refine Dg (.inl rfl) [.slice none 0 0, N6 5] [390] rfl (Ge.refl _ _) ?_
   rw [encI_form hl_ hf_]
   exact ⟨none, 0, rfl, rfl⟩
  ·
   replace h2 : (band .u16 h.x4 32768) = 0 := by simpa using h2
   have hf_ : ¬ 32768 ≤ h.x4 := by have hb_ := bit_none (n := h.x4) (by omega); omega
   refine Rn 10 (Qo B78 14 4) [Qs B78 15] ⟨29, [(1, VT d), (4, VL none 0 0), (5, I6 0), (18, .v (.agg #[N8 h.x0, N8 h.x1, N8 h.x2, N1 h.x3, N1 h.x4, N8 h.x5, N8 h.x6, N8 h.x7, N8 h.x8, N8 h.x9, N8 h.y0, N8 h.y1, N8 h.y2])), (21, I6 (IntKind.i64.wrap (20 + (d.size : Int))))], []⟩ ?_
   refine Kn 21 .i64 (20 + (d.size : Int)) rfl (wi64 (by omega) (by omega)) ?_
   refine Cg 133 [.agg #[N8 h.x0, N8 h.x1, N8 h.x2, N1 h.x3, N1 h.x4, N8 h.x5, N8 h.x6, N8 h.x7, N8 h.x8, N8 h.x9, N8 h.y0, N8 h.y1, N8 h.y2], N6 (20 + (d.size : Int))] 610 (header_ok h (20 + (d.size : Int)) _ hh (by omega)) ?_
   rintro v3 G3 rows3 hG3 ⟨A3, c3, rfl, rfl⟩
   refine X.asR (R' := [(610, RR 5 1 A3 20 c3 ((rawI h (20 + (d.size : Int)) 0).map (Value.int .u8)))]) rfl ?_
   refine X.tellR [610] (R' := [(610, RR 5 1 A3 20 c3 ((rawI h (20 + (d.size : Int)) 0).map (Value.int .u8)))]) rfl ?_
   refine X.capLe (i := 610) (q := (RR 5 1 A3 20 c3 ((rawI h (20 + (d.size : Int)) 0).map (Value.int .u8)))) (n := 20) (c := c3) (A := A3) rfl rfl ?_
   intro hle4 hmx4
   refine X.freezeHd (i := 610) (n := 20) (c := c3) (A := A3) (kd := .u8) (rawI h (20 + (d.size : Int)) 0) rfl rfl (fun x_ hx_ => by have h_ := rawI_bytes hh (n := (20 + (d.size : Int))) (by omega) (by omega) x_ hx_; simp only [IntKind.lo, IntKind.hi]; omega) (by kernel_rfl) (fun _ h => h) ?_
   intro G4 hG4 hr4
   refine Rn 0 (Qo B78 14 5) [Qs B78 15] ⟨29, [(1, VT d), (4, VL none 0 0), (5, I6 0), (22, VL A3 20 c3)], []⟩ ?_
   refine Cg 40 [.slice A3 20 c3, N6 10] 611 (Fill_ok A3 c3 (rawI h (20 + (d.size : Int)) 0) 10 _ hr4 hle4 (show 20 ≤ 300 by decide) (by decide)) ?_
   rintro v5 G5 rows5 hG5 ⟨_, h5⟩
   replace hr4 := hr4.mono hG5.le
   obtain ⟨A5, c5, rfl, hc5, rfl⟩ := h5 ⟨by decide, by decide, show (10 : Int) + 2 ≤ ((20 : Nat) : Int) by decide⟩
   rw [show filled (rawI h (20 + (d.size : Int)) 0) 10 = rawI h (20 + (d.size : Int)) (sumI h (20 + (d.size : Int))) from filled_raw hh (by omega)]
   refine X.asR (R' := [(611, RR 5 1 A5 20 c5 ((rawI h (20 + (d.size : Int)) (sumI h (20 + (d.size : Int)))).map (Value.int .u8)))]) rfl ?_
   refine Rn 11 (Qo B78 30 2) [Qs B78 31] ⟨29, [(4, VL none 0 0), (5, I6 0), (26, VL A5 20 c5), (27, VT d)], []⟩ ?_
   refine X.appendStr 611 (RR 5 1 A5 20 c5 ((rawI h (20 + (d.size : Int)) (sumI h (20 + (d.size : Int)))).map (Value.int .u8))) 22 9 (x := .tmp 26) (y := .tmp 27) (n := 20) (c := c5) (A := A5) (b := d) (by kernel_rfl) (by kernel_rfl) (by kernel_rfl) (by kernel_rfl) (by kernel_rfl) (by kernel_rfl) rfl (by kernel_rfl) (.inl rfl) rfl rfl (by simp only [maxLen] at hd; omega) ?_
   intro A6 c6 hc6
   refine X.tellR [611] (R' := [(611, RR 5 1 A6 (20 + d.size) c6 (((rawI h (20 + (d.size : Int)) (sumI h (20 + (d.size : Int)))) ++ bytesL d).map (Value.int .u8)))]) (congrArg (fun cs_ => (611, (RR 5 1 A6 (20 + d.size) c6 cs_ : Row)) :: []) (show (rawI h (20 + (d.size : Int)) (sumI h (20 + (d.size : Int)))).map (Value.int .u8) ++ (bytesL d).map (Value.int .u8) = ((rawI h (20 + (d.size : Int)) (sumI h (20 + (d.size : Int)))) ++ bytesL d).map (Value.int .u8) by simp)) ?_
   refine Rn 5 (.ex .ret) [] ⟨29, [(4, VL A6 (20 + d.size) c6), (5, I6 0)], []⟩ ?_
   refine Dg (.inl rfl) [.slice A6 (20 + d.size) c6, N6 0] [611] rfl (((hG3.trans hG4).trans hG5)) ?_
   rw [encI_fine hl_ hf_]
   have hlen_ : (rawI h (20 + (d.size : Int)) (sumI h (20 + (d.size : Int))) ++ bytesL d).length = 20 + d.size := by rw [List.length_append, bytesL_length]; rfl
   simp only [hlen_]
   exact ⟨_, _, rfl, rfl⟩
end Go.Proofs.YtjgpdbkkpomhjaaX
