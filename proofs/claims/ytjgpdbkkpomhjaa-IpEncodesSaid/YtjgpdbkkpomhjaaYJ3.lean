/- leatref46.Encode. Walked; printed by a small program of this session. Conditions: none. -/
import Derived.Test.YtjgpdbkkpomhjaaProg
import Derived.KernelRfl
import Derived.Test.YtjgpdbkkpomhjaaYJ0
namespace Go.Proofs.YtjgpdbkkpomhjaaX
open Go.RowKit
open Go.Proofs.YtjgpdbkkpomhjaaW.PrintLast
set_option linter.unusedVariables false
set_option linter.unusedSimpArgs false
set_option maxRecDepth 100000
/-- leat/leatref46.Encode -/
noncomputable def B79 : Code := bodyOf Try.f79
set_option maxHeartbeats 4000000 in
theorem REncI_ok (h : Ih) (d : ByteArray) (G : Mem) (hh : h.ok) (hd : d.size ≤ maxLen) : CallsG Try.prog 79 [.agg #[.int .u8 h.x0, .int .u8 h.x1, .int .u8 h.x2, .int .u16 h.x3, .int .u16 h.x4, .int .u8 h.x5, .int .u8 h.x6, .int .u8 h.x7, .int .u8 h.x8, .int .u8 h.x9, .int .u8 h.y0, .int .u8 h.y1, .int .u8 h.y2], .string d] G (fun _ v rows => ∃ A' c', v = .tuple #[.slice A' (encI h d).1.length c', .int .i64 (encI h d).2] ∧ rows = [⟨5, 1, .slice A' (encI h d).1.length c', (encI h d).1.length, (encI h d).1.map (Value.int .u8)⟩]) := by
 obtain ⟨h0, h1, h2, h3, h4, h5, h6, h7, h8, h9, k0, k1, k2⟩ := hh
 have hh : h.ok := ⟨h0, h1, h2, h3, h4, h5, h6, h7, h8, h9, k0, k1, k2⟩
 refine CallsG.enter Try.func79 rfl rfl ?_
 intro w
 refine Rn 15 (Qc B79 13) [Qs B79 7] ⟨86, [(1, VT d), (2, .own 2 0), (4, VL none 0 0), (5, I6 0), (13, VB (decide ((d.size : Int) > 65515)))], [(2, ⟨113, [I8 h.x0, I8 h.x1, I8 h.x2, I1 h.x3, I1 h.x4, I8 h.x5, I8 h.x6, I8 h.x7, I8 h.x8, I8 h.x9, I8 h.y0, I8 h.y1, I8 h.y2]⟩)]⟩ ?_
 refine X.split 13 rfl (fun h1 => ?_) (fun h1 => ?_)
 ·
  replace h1 : (d.size : Int) > 65515 := of_decide_eq_true h1
  have hl_ :  65515 < d.size := by omega
  refine X.nilRow 390 5 1 rfl ?_
  refine Rn 9 (.ex .ret) [] ⟨86, [(4, VL none 0 0), (5, I6 4)], []⟩ ?_
  refine Dg (.inl rfl) [.slice none 0 0, N6 4] [390] rfl (Ge.refl _ _) ?_
  rw [encI_long hl_]
  exact ⟨none, 0, rfl, rfl⟩
 ·
  replace h1 : ¬ ((d.size : Int) > 65515) := of_decide_eq_false h1
  have hl_ : ¬ 65515 < d.size := by omega
  refine Rn 11 (Qc B79 29) [Qs B79 15] ⟨86, [(1, VT d), (2, .own 2 0), (4, VL none 0 0), (5, I6 0), (16, VB (decide (h.x4 ≥ 32768)))], [(2, ⟨113, [I8 h.x0, I8 h.x1, I8 h.x2, I1 h.x3, I1 h.x4, I8 h.x5, I8 h.x6, I8 h.x7, I8 h.x8, I8 h.x9, I8 h.y0, I8 h.y1, I8 h.y2]⟩)]⟩ ?_
  refine X.split 16 rfl (fun h2 => ?_) (fun h2 => ?_)
  ·
   replace h2 : h.x4 ≥ 32768 := of_decide_eq_true h2
   have hf_ :  32768 ≤ h.x4 := by omega
   refine X.nilRow 390 5 1 rfl ?_
   refine Rn 9 (.ex .ret) [] ⟨86, [(4, VL none 0 0), (5, I6 5)], []⟩ ?_
   refine Dg (.inl rfl) [.slice none 0 0, N6 5] [390] rfl (Ge.refl _ _) ?_
   rw [encI_form hl_ hf_]
   exact ⟨none, 0, rfl, rfl⟩
  ·
   replace h2 : ¬ (h.x4 ≥ 32768) := of_decide_eq_false h2
   have hf_ : ¬ 32768 ≤ h.x4 := by omega
   refine Rn 8 (Qo B79 30 3) [Qs B79 31] ⟨86, [(1, VT d), (2, .own 2 0), (4, VL none 0 0), (5, I6 0), (19, I6 (IntKind.i64.wrap (20 + (d.size : Int))))], [(2, ⟨113, [I8 h.x0, I8 h.x1, I8 h.x2, I1 h.x3, I1 h.x4, I8 h.x5, I8 h.x6, I8 h.x7, I8 h.x8, I8 h.x9, I8 h.y0, I8 h.y1, I8 h.y2]⟩)]⟩ ?_
   refine Kn 19 .i64 (20 + (d.size : Int)) rfl (wi64 (by omega) (by omega)) ?_
   refine Rn 9 (Qo B79 62 4) [Qs B79 63] ⟨86, [(1, VT d), (2, .own 2 0), (4, VL none 0 0), (5, I6 0), (6, I6 (20 + (d.size : Int))), (21, I8 h.x0), (23, I6 (IntKind.i64.wrap (Int.tdiv (20 + (d.size : Int)) 256)))], [(2, ⟨113, [I8 h.x0, I8 h.x1, I8 h.x2, I1 h.x3, I1 h.x4, I8 h.x5, I8 h.x6, I8 h.x7, I8 h.x8, I8 h.x9, I8 h.y0, I8 h.y1, I8 h.y2]⟩)]⟩ ?_
   refine Kn 23 .i64 ((20 + (d.size : Int)) / 256) rfl (wdiv_i64 (by omega) (by omega) (by omega)) ?_
   refine Rn 1 (Qo B79 62 5) [Qs B79 63] ⟨86, [(1, VT d), (2, .own 2 0), (4, VL none 0 0), (5, I6 0), (6, I6 (20 + (d.size : Int))), (21, I8 h.x0), (24, I8 (IntKind.u8.wrap ((20 + (d.size : Int)) / 256)))], [(2, ⟨113, [I8 h.x0, I8 h.x1, I8 h.x2, I1 h.x3, I1 h.x4, I8 h.x5, I8 h.x6, I8 h.x7, I8 h.x8, I8 h.x9, I8 h.y0, I8 h.y1, I8 h.y2]⟩)]⟩ ?_
   refine Kn 24 .u8 ((20 + (d.size : Int)) / 256) rfl (wu8 (by omega) (by omega)) ?_
   refine Rn 2 (Qo B79 62 7) [Qs B79 63] ⟨86, [(1, VT d), (2, .own 2 0), (4, VL none 0 0), (5, I6 0), (21, I8 h.x0), (24, I8 ((20 + (d.size : Int)) / 256)), (26, I6 (Int.tmod (20 + (d.size : Int)) 256))], [(2, ⟨113, [I8 h.x0, I8 h.x1, I8 h.x2, I1 h.x3, I1 h.x4, I8 h.x5, I8 h.x6, I8 h.x7, I8 h.x8, I8 h.x9, I8 h.y0, I8 h.y1, I8 h.y2]⟩)]⟩ ?_
   refine Kn 26 .i64 ((20 + (d.size : Int)) % 256) rfl (Int.tmod_eq_emod_of_nonneg (by omega)) ?_
   refine Rn 1 (Qo B79 62 8) [Qs B79 63] ⟨86, [(1, VT d), (2, .own 2 0), (4, VL none 0 0), (5, I6 0), (21, I8 h.x0), (24, I8 ((20 + (d.size : Int)) / 256)), (27, I8 (IntKind.u8.wrap ((20 + (d.size : Int)) % 256)))], [(2, ⟨113, [I8 h.x0, I8 h.x1, I8 h.x2, I1 h.x3, I1 h.x4, I8 h.x5, I8 h.x6, I8 h.x7, I8 h.x8, I8 h.x9, I8 h.y0, I8 h.y1, I8 h.y2]⟩)]⟩ ?_
   refine Kn 27 .u8 ((20 + (d.size : Int)) % 256) rfl (wu8 (by omega) (by omega)) ?_
   refine Rn 3 (Qo B79 62 11) [Qs B79 63] ⟨86, [(1, VT d), (2, .own 2 0), (4, VL none 0 0), (5, I6 0), (21, I8 h.x0), (24, I8 ((20 + (d.size : Int)) / 256)), (27, I8 ((20 + (d.size : Int)) % 256)), (30, I1 (IntKind.u16.wrap (Int.tdiv h.x3 256)))], [(2, ⟨113, [I8 h.x0, I8 h.x1, I8 h.x2, I1 h.x3, I1 h.x4, I8 h.x5, I8 h.x6, I8 h.x7, I8 h.x8, I8 h.x9, I8 h.y0, I8 h.y1, I8 h.y2]⟩)]⟩ ?_
   refine Kn 30 .u16 (h.x3 / 256) rfl (wdiv_u16 (by omega) (by omega) (by omega)) ?_
   refine Rn 1 (Qo B79 62 12) [Qs B79 63] ⟨86, [(1, VT d), (2, .own 2 0), (4, VL none 0 0), (5, I6 0), (21, I8 h.x0), (24, I8 ((20 + (d.size : Int)) / 256)), (27, I8 ((20 + (d.size : Int)) % 256)), (31, I8 (IntKind.u8.wrap (h.x3 / 256)))], [(2, ⟨113, [I8 h.x0, I8 h.x1, I8 h.x2, I1 h.x3, I1 h.x4, I8 h.x5, I8 h.x6, I8 h.x7, I8 h.x8, I8 h.x9, I8 h.y0, I8 h.y1, I8 h.y2]⟩)]⟩ ?_
   refine Kn 31 .u8 (h.x3 / 256) rfl (wu8 (by omega) (by omega)) ?_
   refine Rn 3 (Qo B79 62 15) [Qs B79 63] ⟨86, [(1, VT d), (2, .own 2 0), (4, VL none 0 0), (5, I6 0), (21, I8 h.x0), (24, I8 ((20 + (d.size : Int)) / 256)), (27, I8 ((20 + (d.size : Int)) % 256)), (31, I8 (h.x3 / 256)), (34, I1 (Int.tmod h.x3 256))], [(2, ⟨113, [I8 h.x0, I8 h.x1, I8 h.x2, I1 h.x3, I1 h.x4, I8 h.x5, I8 h.x6, I8 h.x7, I8 h.x8, I8 h.x9, I8 h.y0, I8 h.y1, I8 h.y2]⟩)]⟩ ?_
   refine Kn 34 .u16 (h.x3 % 256) rfl (Int.tmod_eq_emod_of_nonneg (by omega)) ?_
   refine Rn 1 (Qo B79 62 16) [Qs B79 63] ⟨86, [(1, VT d), (2, .own 2 0), (4, VL none 0 0), (5, I6 0), (21, I8 h.x0), (24, I8 ((20 + (d.size : Int)) / 256)), (27, I8 ((20 + (d.size : Int)) % 256)), (31, I8 (h.x3 / 256)), (35, I8 (IntKind.u8.wrap (h.x3 % 256)))], [(2, ⟨113, [I8 h.x0, I8 h.x1, I8 h.x2, I1 h.x3, I1 h.x4, I8 h.x5, I8 h.x6, I8 h.x7, I8 h.x8, I8 h.x9, I8 h.y0, I8 h.y1, I8 h.y2]⟩)]⟩ ?_
   refine Kn 35 .u8 (h.x3 % 256) rfl (wu8 (by omega) (by omega)) ?_
   refine Rn 3 (Qo B79 62 19) [Qs B79 63] ⟨86, [(1, VT d), (2, .own 2 0), (4, VL none 0 0), (5, I6 0), (21, I8 h.x0), (24, I8 ((20 + (d.size : Int)) / 256)), (27, I8 ((20 + (d.size : Int)) % 256)), (31, I8 (h.x3 / 256)), (35, I8 (h.x3 % 256)), (38, I1 (IntKind.u16.wrap (Int.tdiv h.x4 256)))], [(2, ⟨113, [I8 h.x0, I8 h.x1, I8 h.x2, I1 h.x3, I1 h.x4, I8 h.x5, I8 h.x6, I8 h.x7, I8 h.x8, I8 h.x9, I8 h.y0, I8 h.y1, I8 h.y2]⟩)]⟩ ?_
   refine Kn 38 .u16 (h.x4 / 256) rfl (wdiv_u16 (by omega) (by omega) (by omega)) ?_
   refine Rn 1 (Qo B79 62 20) [Qs B79 63] ⟨86, [(1, VT d), (2, .own 2 0), (4, VL none 0 0), (5, I6 0), (21, I8 h.x0), (24, I8 ((20 + (d.size : Int)) / 256)), (27, I8 ((20 + (d.size : Int)) % 256)), (31, I8 (h.x3 / 256)), (35, I8 (h.x3 % 256)), (39, I8 (IntKind.u8.wrap (h.x4 / 256)))], [(2, ⟨113, [I8 h.x0, I8 h.x1, I8 h.x2, I1 h.x3, I1 h.x4, I8 h.x5, I8 h.x6, I8 h.x7, I8 h.x8, I8 h.x9, I8 h.y0, I8 h.y1, I8 h.y2]⟩)]⟩ ?_
   refine Kn 39 .u8 (h.x4 / 256) rfl (wu8 (by omega) (by omega)) ?_
   refine Rn 3 (Qo B79 62 23) [Qs B79 63] ⟨86, [(1, VT d), (2, .own 2 0), (4, VL none 0 0), (5, I6 0), (21, I8 h.x0), (24, I8 ((20 + (d.size : Int)) / 256)), (27, I8 ((20 + (d.size : Int)) % 256)), (31, I8 (h.x3 / 256)), (35, I8 (h.x3 % 256)), (39, I8 (h.x4 / 256)), (42, I1 (Int.tmod h.x4 256))], [(2, ⟨113, [I8 h.x0, I8 h.x1, I8 h.x2, I1 h.x3, I1 h.x4, I8 h.x5, I8 h.x6, I8 h.x7, I8 h.x8, I8 h.x9, I8 h.y0, I8 h.y1, I8 h.y2]⟩)]⟩ ?_
   refine Kn 42 .u16 (h.x4 % 256) rfl (Int.tmod_eq_emod_of_nonneg (by omega)) ?_
   refine Rn 1 (Qo B79 62 24) [Qs B79 63] ⟨86, [(1, VT d), (2, .own 2 0), (4, VL none 0 0), (5, I6 0), (21, I8 h.x0), (24, I8 ((20 + (d.size : Int)) / 256)), (27, I8 ((20 + (d.size : Int)) % 256)), (31, I8 (h.x3 / 256)), (35, I8 (h.x3 % 256)), (39, I8 (h.x4 / 256)), (43, I8 (IntKind.u8.wrap (h.x4 % 256)))], [(2, ⟨113, [I8 h.x0, I8 h.x1, I8 h.x2, I1 h.x3, I1 h.x4, I8 h.x5, I8 h.x6, I8 h.x7, I8 h.x8, I8 h.x9, I8 h.y0, I8 h.y1, I8 h.y2]⟩)]⟩ ?_
   refine Kn 43 .u8 (h.x4 % 256) rfl (wu8 (by omega) (by omega)) ?_
   refine Rn 4 (Qo B79 62 28) [Qs B79 63] ⟨86, [(1, VT d), (2, .own 2 0), (4, VL none 0 0), (5, I6 0), (21, I8 h.x0), (24, I8 ((20 + (d.size : Int)) / 256)), (27, I8 ((20 + (d.size : Int)) % 256)), (31, I8 (h.x3 / 256)), (35, I8 (h.x3 % 256)), (39, I8 (h.x4 / 256)), (43, I8 (h.x4 % 256)), (45, I8 h.x1), (47, I8 h.x2)], [(2, ⟨113, [I8 h.x0, I8 h.x1, I8 h.x2, I1 h.x3, I1 h.x4, I8 h.x5, I8 h.x6, I8 h.x7, I8 h.x8, I8 h.x9, I8 h.y0, I8 h.y1, I8 h.y2]⟩)]⟩ ?_
   refine Lt 48 5 1 12 [N8 69, N8 h.x0, N8 ((20 + (d.size : Int)) / 256), N8 ((20 + (d.size : Int)) % 256), N8 (h.x3 / 256), N8 (h.x3 % 256), N8 (h.x4 / 256), N8 (h.x4 % 256), N8 h.x1, N8 h.x2, N8 0, N8 0] ?_
   intro A3
   refine Rn 10 (Qc B79 506) [.blk 0, Qs B79 127] ⟨86, [(1, VT d), (2, .own 2 0), (4, VL none 0 0), (5, I6 0), (7, VL A3 12 12), (8, I6 0)], [(2, ⟨113, [I8 h.x0, I8 h.x1, I8 h.x2, I1 h.x3, I1 h.x4, I8 h.x5, I8 h.x6, I8 h.x7, I8 h.x8, I8 h.x9, I8 h.y0, I8 h.y1, I8 h.y2]⟩)]⟩ ?_
   refine X.rounds 5 ?_
   refine RX.succ fun J4 hJ4 => ?_
   refine Rn 18 (Qo B79 8100 5) [.blk 1, Qs B79 4051, .loop J4, .blk 0, Qs B79 127] ⟨86, [(1, VT d), (2, .own 2 0), (4, VL none 0 0), (5, I6 0), (7, VL A3 12 12), (8, I6 0), (49, I6 0), (50, VB true), (53, VL A3 12 12), (54, I6 0), (55, .own 2 5), (56, .own 2 5), (57, I8 h.x5)], [(2, ⟨113, [I8 h.x0, I8 h.x1, I8 h.x2, I1 h.x3, I1 h.x4, I8 h.x5, I8 h.x6, I8 h.x7, I8 h.x8, I8 h.x9, I8 h.y0, I8 h.y1, I8 h.y2]⟩)]⟩ ?_
   refine Lt 58 5 1 1 [N8 h.x5] ?_
   intro A5
   refine Ap 48 (RR 5 1 A3 12 12 [N8 69, N8 h.x0, N8 ((20 + (d.size : Int)) / 256), N8 ((20 + (d.size : Int)) % 256), N8 (h.x3 / 256), N8 (h.x3 % 256), N8 (h.x4 / 256), N8 (h.x4 % 256), N8 h.x1, N8 h.x2, N8 0, N8 0]) 22 1 (N8 0) (.tmp 53) (.tmp 58) 12 12 1 1 A3 A5 [N8 h.x5] (.inl rfl) (by kernel_rfl) (At.of_row (i := 58) (r := (RR 5 1 A5 1 1 [N8 h.x5])) rfl rfl) (fun w hw e => absurd (rowSome (i := 58) (q := (RR 5 1 A5 1 1 [N8 h.x5])) rfl rfl (Nat.succ_pos _) w hw) (by rw [e]; decide)) (ones (by kernel_rfl)) (by decide) ?_
   intro A6 c6 hc6
   refine X.tellR [48, 58] (R' := [(48, RR 5 1 A6 13 c6 [N8 69, N8 h.x0, N8 ((20 + (d.size : Int)) / 256), N8 ((20 + (d.size : Int)) % 256), N8 (h.x3 / 256), N8 (h.x3 % 256), N8 (h.x4 / 256), N8 (h.x4 % 256), N8 h.x1, N8 h.x2, N8 0, N8 0, N8 h.x5]), (58, RR 5 1 A5 1 1 [N8 h.x5])]) rfl ?_
   refine Rn 9 (.ex .normal) [.loop J4, .blk 0, Qs B79 127] ⟨86, [(1, VT d), (2, .own 2 0), (4, VL none 0 0), (5, I6 0), (7, VL A6 13 c6), (8, I6 1), (49, I6 0), (50, VB true), (51, I6 0), (52, I6 1), (53, VL A3 12 12), (54, I6 0), (55, .own 2 5), (56, .own 2 5), (57, I8 h.x5), (58, VL A5 1 1), (59, VL A6 13 c6)], [(2, ⟨113, [I8 h.x0, I8 h.x1, I8 h.x2, I1 h.x3, I1 h.x4, I8 h.x5, I8 h.x6, I8 h.x7, I8 h.x8, I8 h.x9, I8 h.y0, I8 h.y1, I8 h.y2]⟩)]⟩ ?_
   refine X.again (hJ4 _ _ _ ?_)
   refine RX.succ fun J7 hJ7 => ?_
   refine Rn 18 (Qo B79 8100 5) [.blk 1, Qs B79 4051, .loop J7, .blk 0, Qs B79 127] ⟨86, [(1, VT d), (2, .own 2 0), (4, VL none 0 0), (5, I6 0), (7, VL A6 13 c6), (8, I6 1), (49, I6 1), (50, VB true), (51, I6 0), (52, I6 1), (53, VL A6 13 c6), (54, I6 1), (55, .own 2 5), (56, .own 2 6), (57, I8 h.x6), (58, VL A5 1 1), (59, VL A6 13 c6)], [(2, ⟨113, [I8 h.x0, I8 h.x1, I8 h.x2, I1 h.x3, I1 h.x4, I8 h.x5, I8 h.x6, I8 h.x7, I8 h.x8, I8 h.x9, I8 h.y0, I8 h.y1, I8 h.y2]⟩)]⟩ ?_
   refine Lt 58 5 1 1 [N8 h.x6] ?_
   intro A8
   refine Ap 48 (RR 5 1 A6 13 c6 [N8 69, N8 h.x0, N8 ((20 + (d.size : Int)) / 256), N8 ((20 + (d.size : Int)) % 256), N8 (h.x3 / 256), N8 (h.x3 % 256), N8 (h.x4 / 256), N8 (h.x4 % 256), N8 h.x1, N8 h.x2, N8 0, N8 0, N8 h.x5]) 22 1 (N8 0) (.tmp 53) (.tmp 58) 13 c6 1 1 A6 A8 [N8 h.x6] (.inl rfl) (by kernel_rfl) (At.of_row (i := 58) (r := (RR 5 1 A8 1 1 [N8 h.x6])) rfl rfl) (fun w hw e => absurd (rowSome (i := 58) (q := (RR 5 1 A8 1 1 [N8 h.x6])) rfl rfl (Nat.succ_pos _) w hw) (by rw [e]; decide)) (ones (by kernel_rfl)) (by decide) ?_
   intro A9 c9 hc9
   refine X.tellR [48, 58] (R' := [(48, RR 5 1 A9 14 c9 [N8 69, N8 h.x0, N8 ((20 + (d.size : Int)) / 256), N8 ((20 + (d.size : Int)) % 256), N8 (h.x3 / 256), N8 (h.x3 % 256), N8 (h.x4 / 256), N8 (h.x4 % 256), N8 h.x1, N8 h.x2, N8 0, N8 0, N8 h.x5, N8 h.x6]), (58, RR 5 1 A8 1 1 [N8 h.x6])]) rfl ?_
   refine Rn 9 (.ex .normal) [.loop J7, .blk 0, Qs B79 127] ⟨86, [(1, VT d), (2, .own 2 0), (4, VL none 0 0), (5, I6 0), (7, VL A9 14 c9), (8, I6 2), (49, I6 1), (50, VB true), (51, I6 1), (52, I6 2), (53, VL A6 13 c6), (54, I6 1), (55, .own 2 5), (56, .own 2 6), (57, I8 h.x6), (58, VL A8 1 1), (59, VL A9 14 c9)], [(2, ⟨113, [I8 h.x0, I8 h.x1, I8 h.x2, I1 h.x3, I1 h.x4, I8 h.x5, I8 h.x6, I8 h.x7, I8 h.x8, I8 h.x9, I8 h.y0, I8 h.y1, I8 h.y2]⟩)]⟩ ?_
   refine X.again (hJ7 _ _ _ ?_)
   refine RX.succ fun J10 hJ10 => ?_
   refine Rn 18 (Qo B79 8100 5) [.blk 1, Qs B79 4051, .loop J10, .blk 0, Qs B79 127] ⟨86, [(1, VT d), (2, .own 2 0), (4, VL none 0 0), (5, I6 0), (7, VL A9 14 c9), (8, I6 2), (49, I6 2), (50, VB true), (51, I6 1), (52, I6 2), (53, VL A9 14 c9), (54, I6 2), (55, .own 2 5), (56, .own 2 7), (57, I8 h.x7), (58, VL A8 1 1), (59, VL A9 14 c9)], [(2, ⟨113, [I8 h.x0, I8 h.x1, I8 h.x2, I1 h.x3, I1 h.x4, I8 h.x5, I8 h.x6, I8 h.x7, I8 h.x8, I8 h.x9, I8 h.y0, I8 h.y1, I8 h.y2]⟩)]⟩ ?_
   refine Lt 58 5 1 1 [N8 h.x7] ?_
   intro A11
   refine Ap 48 (RR 5 1 A9 14 c9 [N8 69, N8 h.x0, N8 ((20 + (d.size : Int)) / 256), N8 ((20 + (d.size : Int)) % 256), N8 (h.x3 / 256), N8 (h.x3 % 256), N8 (h.x4 / 256), N8 (h.x4 % 256), N8 h.x1, N8 h.x2, N8 0, N8 0, N8 h.x5, N8 h.x6]) 22 1 (N8 0) (.tmp 53) (.tmp 58) 14 c9 1 1 A9 A11 [N8 h.x7] (.inl rfl) (by kernel_rfl) (At.of_row (i := 58) (r := (RR 5 1 A11 1 1 [N8 h.x7])) rfl rfl) (fun w hw e => absurd (rowSome (i := 58) (q := (RR 5 1 A11 1 1 [N8 h.x7])) rfl rfl (Nat.succ_pos _) w hw) (by rw [e]; decide)) (ones (by kernel_rfl)) (by decide) ?_
   intro A12 c12 hc12
   refine X.tellR [48, 58] (R' := [(48, RR 5 1 A12 15 c12 [N8 69, N8 h.x0, N8 ((20 + (d.size : Int)) / 256), N8 ((20 + (d.size : Int)) % 256), N8 (h.x3 / 256), N8 (h.x3 % 256), N8 (h.x4 / 256), N8 (h.x4 % 256), N8 h.x1, N8 h.x2, N8 0, N8 0, N8 h.x5, N8 h.x6, N8 h.x7]), (58, RR 5 1 A11 1 1 [N8 h.x7])]) rfl ?_
   refine Rn 9 (.ex .normal) [.loop J10, .blk 0, Qs B79 127] ⟨86, [(1, VT d), (2, .own 2 0), (4, VL none 0 0), (5, I6 0), (7, VL A12 15 c12), (8, I6 3), (49, I6 2), (50, VB true), (51, I6 2), (52, I6 3), (53, VL A9 14 c9), (54, I6 2), (55, .own 2 5), (56, .own 2 7), (57, I8 h.x7), (58, VL A11 1 1), (59, VL A12 15 c12)], [(2, ⟨113, [I8 h.x0, I8 h.x1, I8 h.x2, I1 h.x3, I1 h.x4, I8 h.x5, I8 h.x6, I8 h.x7, I8 h.x8, I8 h.x9, I8 h.y0, I8 h.y1, I8 h.y2]⟩)]⟩ ?_
   refine X.again (hJ10 _ _ _ ?_)
   refine RX.succ fun J13 hJ13 => ?_
   refine Rn 18 (Qo B79 8100 5) [.blk 1, Qs B79 4051, .loop J13, .blk 0, Qs B79 127] ⟨86, [(1, VT d), (2, .own 2 0), (4, VL none 0 0), (5, I6 0), (7, VL A12 15 c12), (8, I6 3), (49, I6 3), (50, VB true), (51, I6 2), (52, I6 3), (53, VL A12 15 c12), (54, I6 3), (55, .own 2 5), (56, .own 2 8), (57, I8 h.x8), (58, VL A11 1 1), (59, VL A12 15 c12)], [(2, ⟨113, [I8 h.x0, I8 h.x1, I8 h.x2, I1 h.x3, I1 h.x4, I8 h.x5, I8 h.x6, I8 h.x7, I8 h.x8, I8 h.x9, I8 h.y0, I8 h.y1, I8 h.y2]⟩)]⟩ ?_
   refine Lt 58 5 1 1 [N8 h.x8] ?_
   intro A14
   refine Ap 48 (RR 5 1 A12 15 c12 [N8 69, N8 h.x0, N8 ((20 + (d.size : Int)) / 256), N8 ((20 + (d.size : Int)) % 256), N8 (h.x3 / 256), N8 (h.x3 % 256), N8 (h.x4 / 256), N8 (h.x4 % 256), N8 h.x1, N8 h.x2, N8 0, N8 0, N8 h.x5, N8 h.x6, N8 h.x7]) 22 1 (N8 0) (.tmp 53) (.tmp 58) 15 c12 1 1 A12 A14 [N8 h.x8] (.inl rfl) (by kernel_rfl) (At.of_row (i := 58) (r := (RR 5 1 A14 1 1 [N8 h.x8])) rfl rfl) (fun w hw e => absurd (rowSome (i := 58) (q := (RR 5 1 A14 1 1 [N8 h.x8])) rfl rfl (Nat.succ_pos _) w hw) (by rw [e]; decide)) (ones (by kernel_rfl)) (by decide) ?_
   intro A15 c15 hc15
   refine X.tellR [48, 58] (R' := [(48, RR 5 1 A15 16 c15 [N8 69, N8 h.x0, N8 ((20 + (d.size : Int)) / 256), N8 ((20 + (d.size : Int)) % 256), N8 (h.x3 / 256), N8 (h.x3 % 256), N8 (h.x4 / 256), N8 (h.x4 % 256), N8 h.x1, N8 h.x2, N8 0, N8 0, N8 h.x5, N8 h.x6, N8 h.x7, N8 h.x8]), (58, RR 5 1 A14 1 1 [N8 h.x8])]) rfl ?_
   refine Rn 9 (.ex .normal) [.loop J13, .blk 0, Qs B79 127] ⟨86, [(1, VT d), (2, .own 2 0), (4, VL none 0 0), (5, I6 0), (7, VL A15 16 c15), (8, I6 4), (49, I6 3), (50, VB true), (51, I6 3), (52, I6 4), (53, VL A12 15 c12), (54, I6 3), (55, .own 2 5), (56, .own 2 8), (57, I8 h.x8), (58, VL A14 1 1), (59, VL A15 16 c15)], [(2, ⟨113, [I8 h.x0, I8 h.x1, I8 h.x2, I1 h.x3, I1 h.x4, I8 h.x5, I8 h.x6, I8 h.x7, I8 h.x8, I8 h.x9, I8 h.y0, I8 h.y1, I8 h.y2]⟩)]⟩ ?_
   refine X.again (hJ13 _ _ _ ?_)
   refine RX.succ fun J16 hJ16 => ?_
   refine Rn 20 (Qc B79 1018) [.blk 2, Qs B79 255] ⟨86, [(1, VT d), (2, .own 2 0), (4, VL none 0 0), (5, I6 0), (7, VL A15 16 c15), (9, I6 0)], [(2, ⟨113, [I8 h.x0, I8 h.x1, I8 h.x2, I1 h.x3, I1 h.x4, I8 h.x5, I8 h.x6, I8 h.x7, I8 h.x8, I8 h.x9, I8 h.y0, I8 h.y1, I8 h.y2]⟩)]⟩ ?_
   refine X.rounds 5 ?_
   refine RX.succ fun J17 hJ17 => ?_
   refine Rn 18 (Qo B79 16292 5) [.blk 3, Qs B79 8147, .loop J17, .blk 2, Qs B79 255] ⟨86, [(1, VT d), (2, .own 2 0), (4, VL none 0 0), (5, I6 0), (7, VL A15 16 c15), (9, I6 0), (60, I6 0), (61, VB true), (64, VL A15 16 c15), (65, I6 0), (66, .own 2 9), (67, .own 2 9), (68, I8 h.x9)], [(2, ⟨113, [I8 h.x0, I8 h.x1, I8 h.x2, I1 h.x3, I1 h.x4, I8 h.x5, I8 h.x6, I8 h.x7, I8 h.x8, I8 h.x9, I8 h.y0, I8 h.y1, I8 h.y2]⟩)]⟩ ?_
   refine Lt 69 5 1 1 [N8 h.x9] ?_
   intro A18
   refine Ap 48 (RR 5 1 A15 16 c15 [N8 69, N8 h.x0, N8 ((20 + (d.size : Int)) / 256), N8 ((20 + (d.size : Int)) % 256), N8 (h.x3 / 256), N8 (h.x3 % 256), N8 (h.x4 / 256), N8 (h.x4 % 256), N8 h.x1, N8 h.x2, N8 0, N8 0, N8 h.x5, N8 h.x6, N8 h.x7, N8 h.x8]) 22 1 (N8 0) (.tmp 64) (.tmp 69) 16 c15 1 1 A15 A18 [N8 h.x9] (.inl rfl) (by kernel_rfl) (At.of_row (i := 69) (r := (RR 5 1 A18 1 1 [N8 h.x9])) rfl rfl) (fun w hw e => absurd (rowSome (i := 69) (q := (RR 5 1 A18 1 1 [N8 h.x9])) rfl rfl (Nat.succ_pos _) w hw) (by rw [e]; decide)) (ones (by kernel_rfl)) (by decide) ?_
   intro A19 c19 hc19
   refine X.tellR [48, 69] (R' := [(48, RR 5 1 A19 17 c19 [N8 69, N8 h.x0, N8 ((20 + (d.size : Int)) / 256), N8 ((20 + (d.size : Int)) % 256), N8 (h.x3 / 256), N8 (h.x3 % 256), N8 (h.x4 / 256), N8 (h.x4 % 256), N8 h.x1, N8 h.x2, N8 0, N8 0, N8 h.x5, N8 h.x6, N8 h.x7, N8 h.x8, N8 h.x9]), (69, RR 5 1 A18 1 1 [N8 h.x9])]) rfl ?_
   refine Rn 9 (.ex .normal) [.loop J17, .blk 2, Qs B79 255] ⟨86, [(1, VT d), (2, .own 2 0), (4, VL none 0 0), (5, I6 0), (7, VL A19 17 c19), (9, I6 1), (60, I6 0), (61, VB true), (62, I6 0), (63, I6 1), (64, VL A15 16 c15), (65, I6 0), (66, .own 2 9), (67, .own 2 9), (68, I8 h.x9), (69, VL A18 1 1), (70, VL A19 17 c19)], [(2, ⟨113, [I8 h.x0, I8 h.x1, I8 h.x2, I1 h.x3, I1 h.x4, I8 h.x5, I8 h.x6, I8 h.x7, I8 h.x8, I8 h.x9, I8 h.y0, I8 h.y1, I8 h.y2]⟩)]⟩ ?_
   refine X.again (hJ17 _ _ _ ?_)
   refine RX.succ fun J20 hJ20 => ?_
   refine Rn 18 (Qo B79 16292 5) [.blk 3, Qs B79 8147, .loop J20, .blk 2, Qs B79 255] ⟨86, [(1, VT d), (2, .own 2 0), (4, VL none 0 0), (5, I6 0), (7, VL A19 17 c19), (9, I6 1), (60, I6 1), (61, VB true), (62, I6 0), (63, I6 1), (64, VL A19 17 c19), (65, I6 1), (66, .own 2 9), (67, .own 2 10), (68, I8 h.y0), (69, VL A18 1 1), (70, VL A19 17 c19)], [(2, ⟨113, [I8 h.x0, I8 h.x1, I8 h.x2, I1 h.x3, I1 h.x4, I8 h.x5, I8 h.x6, I8 h.x7, I8 h.x8, I8 h.x9, I8 h.y0, I8 h.y1, I8 h.y2]⟩)]⟩ ?_
   refine Lt 69 5 1 1 [N8 h.y0] ?_
   intro A21
   refine Ap 48 (RR 5 1 A19 17 c19 [N8 69, N8 h.x0, N8 ((20 + (d.size : Int)) / 256), N8 ((20 + (d.size : Int)) % 256), N8 (h.x3 / 256), N8 (h.x3 % 256), N8 (h.x4 / 256), N8 (h.x4 % 256), N8 h.x1, N8 h.x2, N8 0, N8 0, N8 h.x5, N8 h.x6, N8 h.x7, N8 h.x8, N8 h.x9]) 22 1 (N8 0) (.tmp 64) (.tmp 69) 17 c19 1 1 A19 A21 [N8 h.y0] (.inl rfl) (by kernel_rfl) (At.of_row (i := 69) (r := (RR 5 1 A21 1 1 [N8 h.y0])) rfl rfl) (fun w hw e => absurd (rowSome (i := 69) (q := (RR 5 1 A21 1 1 [N8 h.y0])) rfl rfl (Nat.succ_pos _) w hw) (by rw [e]; decide)) (ones (by kernel_rfl)) (by decide) ?_
   intro A22 c22 hc22
   refine X.tellR [48, 69] (R' := [(48, RR 5 1 A22 18 c22 [N8 69, N8 h.x0, N8 ((20 + (d.size : Int)) / 256), N8 ((20 + (d.size : Int)) % 256), N8 (h.x3 / 256), N8 (h.x3 % 256), N8 (h.x4 / 256), N8 (h.x4 % 256), N8 h.x1, N8 h.x2, N8 0, N8 0, N8 h.x5, N8 h.x6, N8 h.x7, N8 h.x8, N8 h.x9, N8 h.y0]), (69, RR 5 1 A21 1 1 [N8 h.y0])]) rfl ?_
   refine Rn 9 (.ex .normal) [.loop J20, .blk 2, Qs B79 255] ⟨86, [(1, VT d), (2, .own 2 0), (4, VL none 0 0), (5, I6 0), (7, VL A22 18 c22), (9, I6 2), (60, I6 1), (61, VB true), (62, I6 1), (63, I6 2), (64, VL A19 17 c19), (65, I6 1), (66, .own 2 9), (67, .own 2 10), (68, I8 h.y0), (69, VL A21 1 1), (70, VL A22 18 c22)], [(2, ⟨113, [I8 h.x0, I8 h.x1, I8 h.x2, I1 h.x3, I1 h.x4, I8 h.x5, I8 h.x6, I8 h.x7, I8 h.x8, I8 h.x9, I8 h.y0, I8 h.y1, I8 h.y2]⟩)]⟩ ?_
   refine X.again (hJ20 _ _ _ ?_)
   refine RX.succ fun J23 hJ23 => ?_
   refine Rn 18 (Qo B79 16292 5) [.blk 3, Qs B79 8147, .loop J23, .blk 2, Qs B79 255] ⟨86, [(1, VT d), (2, .own 2 0), (4, VL none 0 0), (5, I6 0), (7, VL A22 18 c22), (9, I6 2), (60, I6 2), (61, VB true), (62, I6 1), (63, I6 2), (64, VL A22 18 c22), (65, I6 2), (66, .own 2 9), (67, .own 2 11), (68, I8 h.y1), (69, VL A21 1 1), (70, VL A22 18 c22)], [(2, ⟨113, [I8 h.x0, I8 h.x1, I8 h.x2, I1 h.x3, I1 h.x4, I8 h.x5, I8 h.x6, I8 h.x7, I8 h.x8, I8 h.x9, I8 h.y0, I8 h.y1, I8 h.y2]⟩)]⟩ ?_
   refine Lt 69 5 1 1 [N8 h.y1] ?_
   intro A24
   refine Ap 48 (RR 5 1 A22 18 c22 [N8 69, N8 h.x0, N8 ((20 + (d.size : Int)) / 256), N8 ((20 + (d.size : Int)) % 256), N8 (h.x3 / 256), N8 (h.x3 % 256), N8 (h.x4 / 256), N8 (h.x4 % 256), N8 h.x1, N8 h.x2, N8 0, N8 0, N8 h.x5, N8 h.x6, N8 h.x7, N8 h.x8, N8 h.x9, N8 h.y0]) 22 1 (N8 0) (.tmp 64) (.tmp 69) 18 c22 1 1 A22 A24 [N8 h.y1] (.inl rfl) (by kernel_rfl) (At.of_row (i := 69) (r := (RR 5 1 A24 1 1 [N8 h.y1])) rfl rfl) (fun w hw e => absurd (rowSome (i := 69) (q := (RR 5 1 A24 1 1 [N8 h.y1])) rfl rfl (Nat.succ_pos _) w hw) (by rw [e]; decide)) (ones (by kernel_rfl)) (by decide) ?_
   intro A25 c25 hc25
   refine X.tellR [48, 69] (R' := [(48, RR 5 1 A25 19 c25 [N8 69, N8 h.x0, N8 ((20 + (d.size : Int)) / 256), N8 ((20 + (d.size : Int)) % 256), N8 (h.x3 / 256), N8 (h.x3 % 256), N8 (h.x4 / 256), N8 (h.x4 % 256), N8 h.x1, N8 h.x2, N8 0, N8 0, N8 h.x5, N8 h.x6, N8 h.x7, N8 h.x8, N8 h.x9, N8 h.y0, N8 h.y1]), (69, RR 5 1 A24 1 1 [N8 h.y1])]) rfl ?_
   refine Rn 9 (.ex .normal) [.loop J23, .blk 2, Qs B79 255] ⟨86, [(1, VT d), (2, .own 2 0), (4, VL none 0 0), (5, I6 0), (7, VL A25 19 c25), (9, I6 3), (60, I6 2), (61, VB true), (62, I6 2), (63, I6 3), (64, VL A22 18 c22), (65, I6 2), (66, .own 2 9), (67, .own 2 11), (68, I8 h.y1), (69, VL A24 1 1), (70, VL A25 19 c25)], [(2, ⟨113, [I8 h.x0, I8 h.x1, I8 h.x2, I1 h.x3, I1 h.x4, I8 h.x5, I8 h.x6, I8 h.x7, I8 h.x8, I8 h.x9, I8 h.y0, I8 h.y1, I8 h.y2]⟩)]⟩ ?_
   refine X.again (hJ23 _ _ _ ?_)
   refine RX.succ fun J26 hJ26 => ?_
   refine Rn 18 (Qo B79 16292 5) [.blk 3, Qs B79 8147, .loop J26, .blk 2, Qs B79 255] ⟨86, [(1, VT d), (2, .own 2 0), (4, VL none 0 0), (5, I6 0), (7, VL A25 19 c25), (9, I6 3), (60, I6 3), (61, VB true), (62, I6 2), (63, I6 3), (64, VL A25 19 c25), (65, I6 3), (66, .own 2 9), (67, .own 2 12), (68, I8 h.y2), (69, VL A24 1 1), (70, VL A25 19 c25)], [(2, ⟨113, [I8 h.x0, I8 h.x1, I8 h.x2, I1 h.x3, I1 h.x4, I8 h.x5, I8 h.x6, I8 h.x7, I8 h.x8, I8 h.x9, I8 h.y0, I8 h.y1, I8 h.y2]⟩)]⟩ ?_
   refine Lt 69 5 1 1 [N8 h.y2] ?_
   intro A27
   refine Ap 48 (RR 5 1 A25 19 c25 [N8 69, N8 h.x0, N8 ((20 + (d.size : Int)) / 256), N8 ((20 + (d.size : Int)) % 256), N8 (h.x3 / 256), N8 (h.x3 % 256), N8 (h.x4 / 256), N8 (h.x4 % 256), N8 h.x1, N8 h.x2, N8 0, N8 0, N8 h.x5, N8 h.x6, N8 h.x7, N8 h.x8, N8 h.x9, N8 h.y0, N8 h.y1]) 22 1 (N8 0) (.tmp 64) (.tmp 69) 19 c25 1 1 A25 A27 [N8 h.y2] (.inl rfl) (by kernel_rfl) (At.of_row (i := 69) (r := (RR 5 1 A27 1 1 [N8 h.y2])) rfl rfl) (fun w hw e => absurd (rowSome (i := 69) (q := (RR 5 1 A27 1 1 [N8 h.y2])) rfl rfl (Nat.succ_pos _) w hw) (by rw [e]; decide)) (ones (by kernel_rfl)) (by decide) ?_
   intro A28 c28 hc28
   refine X.tellR [48, 69] (R' := [(48, RR 5 1 A28 20 c28 [N8 69, N8 h.x0, N8 ((20 + (d.size : Int)) / 256), N8 ((20 + (d.size : Int)) % 256), N8 (h.x3 / 256), N8 (h.x3 % 256), N8 (h.x4 / 256), N8 (h.x4 % 256), N8 h.x1, N8 h.x2, N8 0, N8 0, N8 h.x5, N8 h.x6, N8 h.x7, N8 h.x8, N8 h.x9, N8 h.y0, N8 h.y1, N8 h.y2]), (69, RR 5 1 A27 1 1 [N8 h.y2])]) rfl ?_
   refine Rn 9 (.ex .normal) [.loop J26, .blk 2, Qs B79 255] ⟨86, [(1, VT d), (2, .own 2 0), (4, VL none 0 0), (5, I6 0), (7, VL A28 20 c28), (9, I6 4), (60, I6 3), (61, VB true), (62, I6 3), (63, I6 4), (64, VL A25 19 c25), (65, I6 3), (66, .own 2 9), (67, .own 2 12), (68, I8 h.y2), (69, VL A27 1 1), (70, VL A28 20 c28)], [(2, ⟨113, [I8 h.x0, I8 h.x1, I8 h.x2, I1 h.x3, I1 h.x4, I8 h.x5, I8 h.x6, I8 h.x7, I8 h.x8, I8 h.x9, I8 h.y0, I8 h.y1, I8 h.y2]⟩)]⟩ ?_
   refine X.again (hJ26 _ _ _ ?_)
   refine RX.succ fun J29 hJ29 => ?_
   refine Rn 16 (Qo B79 510 1) [Qs B79 511] ⟨86, [(1, VT d), (4, VL none 0 0), (5, I6 0), (7, VL A28 20 c28), (71, VL A28 20 c28)], []⟩ ?_
   refine X.capLe (i := 48) (q := (RR 5 1 A28 20 c28 [N8 69, N8 h.x0, N8 ((20 + (d.size : Int)) / 256), N8 ((20 + (d.size : Int)) % 256), N8 (h.x3 / 256), N8 (h.x3 % 256), N8 (h.x4 / 256), N8 (h.x4 % 256), N8 h.x1, N8 h.x2, N8 0, N8 0, N8 h.x5, N8 h.x6, N8 h.x7, N8 h.x8, N8 h.x9, N8 h.y0, N8 h.y1, N8 h.y2])) (n := 20) (c := c28) (A := A28) rfl rfl ?_
   intro hle30 hmx30
   refine X.callV (f := 29) (l := [VL A28 20 c28]) (Q := fun v_ => v_ = N1 (sumI h (20 + (d.size : Int)))) [.slice A28 20 c28] (by kernel_rfl) (by kernel_rfl) (by kernel_rfl) (fun G1_ hl_ hr_ => (SumRef_ok A28 c28 (rawI h (20 + (d.size : Int)) 0) G1_ (rowLit (hr_ 48 _ rfl) (reps_ints (xs := rawI h (20 + (d.size : Int)) 0) (fun x_ hx_ => by have h_ := rawI_bytes hh (n := 20 + (d.size : Int)) (by omega) (k := 0) (by omega) x_ hx_; simp only [IntKind.lo, IntKind.hi]; omega)) (by decide)) hle30 hmx30 (show 20 ≤ 1000000000 by decide)).mono (fun _ _ _ _ h_ => h_.1)) ?_
   rintro _ rfl
   have hsr_ := sumI_range hh (n := 20 + (d.size : Int)) (by omega)
   obtain ⟨sm_, hsm_⟩ : ∃ z_, sumI h (20 + (d.size : Int)) = z_ := ⟨_, rfl⟩
   rw [hsm_] at hsr_
   rw [hsm_]
   refine Rn 8 (Qo B79 1022 3) [Qs B79 1023] ⟨86, [(1, VT d), (4, VL none 0 0), (5, I6 0), (7, VL A28 20 c28), (10, I1 sm_), (73, VL A28 20 c28), (75, I1 (IntKind.u16.wrap (Int.tdiv sm_ 256)))], []⟩ ?_
   refine Kn 75 .u16 (sm_ / 256) rfl (wdiv_u16 (by omega) (by omega) (by omega)) ?_
   refine Rn 1 (Qo B79 1022 4) [Qs B79 1023] ⟨86, [(1, VT d), (4, VL none 0 0), (5, I6 0), (7, VL A28 20 c28), (10, I1 sm_), (73, VL A28 20 c28), (76, I8 (IntKind.u8.wrap (sm_ / 256)))], []⟩ ?_
   refine Kn 76 .u8 (sm_ / 256) rfl (wu8 (by omega) (by omega)) ?_
   have b31 : (0 : Int) ≤ 10 := by omega
   have b32 : 10 < ((20 : Nat) : Int) := by omega
   refine Ix 22 5 1 A28 20 c28 .i64 10 (.tmp 73) (.const (N6 10)) b31 b32 (rowSome (i := 48) (q := (RR 5 1 A28 20 c28 [N8 69, N8 h.x0, N8 ((20 + (d.size : Int)) / 256), N8 ((20 + (d.size : Int)) % 256), N8 (h.x3 / 256), N8 (h.x3 % 256), N8 (h.x4 / 256), N8 (h.x4 % 256), N8 h.x1, N8 h.x2, N8 0, N8 0, N8 h.x5, N8 h.x6, N8 h.x7, N8 h.x8, N8 h.x9, N8 h.y0, N8 h.y1, N8 h.y2])) rfl rfl (Nat.succ_pos _)) ?_
   have at33 : At G [(48, ⟨5, 1, .slice A28 20 c28, 20, [.int .u8 69, .int .u8 h.x0, .int .u8 ((20 + (d.size : Int)) / 256), .int .u8 ((20 + (d.size : Int)) % 256), .int .u8 (h.x3 / 256), .int .u8 (h.x3 % 256), .int .u8 (h.x4 / 256), .int .u8 (h.x4 % 256), .int .u8 h.x1, .int .u8 h.x2, .int .u8 0, .int .u8 0, .int .u8 h.x5, .int .u8 h.x6, .int .u8 h.x7, .int .u8 h.x8, .int .u8 h.x9, .int .u8 h.y0, .int .u8 h.y1, .int .u8 h.y2]⟩), (69, ⟨5, 1, .slice A27 1 1, 1, [.int .u8 h.y2]⟩)] A28 (10 * 1) [.int .u8 0] := (At.of_row (i := 48) (r := ⟨5, 1, .slice A28 20 c28, 20, [.int .u8 69, .int .u8 h.x0, .int .u8 ((20 + (d.size : Int)) / 256), .int .u8 ((20 + (d.size : Int)) % 256), .int .u8 (h.x3 / 256), .int .u8 (h.x3 % 256), .int .u8 (h.x4 / 256), .int .u8 (h.x4 % 256), .int .u8 h.x1, .int .u8 h.x2, .int .u8 0, .int .u8 0, .int .u8 h.x5, .int .u8 h.x6, .int .u8 h.x7, .int .u8 h.x8, .int .u8 h.x9, .int .u8 h.y0, .int .u8 h.y1, .int .u8 h.y2]⟩) rfl rfl).part 10 1
   refine Rn 0 (Qo B79 1022 5) [Qs B79 1023] ⟨86, [(1, VT d), (4, VL none 0 0), (5, I6 0), (7, VL A28 20 c28), (10, I1 sm_), (76, I8 (sm_ / 256)), (77, .v (elt A28 (10 * 1)))], []⟩ ?_
   refine X.storeElem (i := 48) (t := 5) (j := 10 * 1) (n := 20) (c := c28) (q := (RR 5 1 A28 20 c28 [N8 69, N8 h.x0, N8 ((20 + (d.size : Int)) / 256), N8 ((20 + (d.size : Int)) % 256), N8 (h.x3 / 256), N8 (h.x3 % 256), N8 (h.x4 / 256), N8 (h.x4 % 256), N8 h.x1, N8 h.x2, N8 0, N8 0, N8 h.x5, N8 h.x6, N8 h.x7, N8 h.x8, N8 h.x9, N8 h.y0, N8 h.y1, N8 h.y2])) (A := A28) (x := .tmp 77) (y := .tmp 76) (z := N8 (sm_ / 256)) (by kernel_rfl) (by kernel_rfl) (by kernel_rfl) rfl rfl (by kernel_rfl) (Nat.le_of_ble_eq_true rfl) (by kernel_rfl) (Nat.succ_pos _) (by kernel_rfl) ?_
   refine X.tellR [48, 69] (R' := [(48, RR 5 1 A28 20 c28 [N8 69, N8 h.x0, N8 ((20 + (d.size : Int)) / 256), N8 ((20 + (d.size : Int)) % 256), N8 (h.x3 / 256), N8 (h.x3 % 256), N8 (h.x4 / 256), N8 (h.x4 % 256), N8 h.x1, N8 h.x2, N8 (sm_ / 256), N8 0, N8 h.x5, N8 h.x6, N8 h.x7, N8 h.x8, N8 h.x9, N8 h.y0, N8 h.y1, N8 h.y2]), (69, RR 5 1 A27 1 1 [N8 h.y2])]) rfl ?_
   refine Rn 7 (Qo B79 2046 3) [Qs B79 2047] ⟨86, [(1, VT d), (4, VL none 0 0), (5, I6 0), (7, VL A28 20 c28), (78, VL A28 20 c28), (80, I1 (Int.tmod sm_ 256))], []⟩ ?_
   refine Kn 80 .u16 (sm_ % 256) rfl (Int.tmod_eq_emod_of_nonneg (by omega)) ?_
   refine Rn 1 (Qo B79 2046 4) [Qs B79 2047] ⟨86, [(1, VT d), (4, VL none 0 0), (5, I6 0), (7, VL A28 20 c28), (78, VL A28 20 c28), (81, I8 (IntKind.u8.wrap (sm_ % 256)))], []⟩ ?_
   refine Kn 81 .u8 (sm_ % 256) rfl (wu8 (by omega) (by omega)) ?_
   have b34 : (0 : Int) ≤ 11 := by omega
   have b35 : 11 < ((20 : Nat) : Int) := by omega
   refine Ix 22 5 1 A28 20 c28 .i64 11 (.tmp 78) (.const (N6 11)) b34 b35 (rowSome (i := 48) (q := (RR 5 1 A28 20 c28 [N8 69, N8 h.x0, N8 ((20 + (d.size : Int)) / 256), N8 ((20 + (d.size : Int)) % 256), N8 (h.x3 / 256), N8 (h.x3 % 256), N8 (h.x4 / 256), N8 (h.x4 % 256), N8 h.x1, N8 h.x2, N8 (sm_ / 256), N8 0, N8 h.x5, N8 h.x6, N8 h.x7, N8 h.x8, N8 h.x9, N8 h.y0, N8 h.y1, N8 h.y2])) rfl rfl (Nat.succ_pos _)) ?_
   have at36 : At G [(48, ⟨5, 1, .slice A28 20 c28, 20, [.int .u8 69, .int .u8 h.x0, .int .u8 ((20 + (d.size : Int)) / 256), .int .u8 ((20 + (d.size : Int)) % 256), .int .u8 (h.x3 / 256), .int .u8 (h.x3 % 256), .int .u8 (h.x4 / 256), .int .u8 (h.x4 % 256), .int .u8 h.x1, .int .u8 h.x2, .int .u8 (sm_ / 256), .int .u8 0, .int .u8 h.x5, .int .u8 h.x6, .int .u8 h.x7, .int .u8 h.x8, .int .u8 h.x9, .int .u8 h.y0, .int .u8 h.y1, .int .u8 h.y2]⟩), (69, ⟨5, 1, .slice A27 1 1, 1, [.int .u8 h.y2]⟩)] A28 (11 * 1) [.int .u8 0] := (At.of_row (i := 48) (r := ⟨5, 1, .slice A28 20 c28, 20, [.int .u8 69, .int .u8 h.x0, .int .u8 ((20 + (d.size : Int)) / 256), .int .u8 ((20 + (d.size : Int)) % 256), .int .u8 (h.x3 / 256), .int .u8 (h.x3 % 256), .int .u8 (h.x4 / 256), .int .u8 (h.x4 % 256), .int .u8 h.x1, .int .u8 h.x2, .int .u8 (sm_ / 256), .int .u8 0, .int .u8 h.x5, .int .u8 h.x6, .int .u8 h.x7, .int .u8 h.x8, .int .u8 h.x9, .int .u8 h.y0, .int .u8 h.y1, .int .u8 h.y2]⟩) rfl rfl).part 11 1
   refine Rn 0 (Qo B79 2046 5) [Qs B79 2047] ⟨86, [(1, VT d), (4, VL none 0 0), (5, I6 0), (7, VL A28 20 c28), (81, I8 (sm_ % 256)), (82, .v (elt A28 (11 * 1)))], []⟩ ?_
   refine X.storeElem (i := 48) (t := 5) (j := 11 * 1) (n := 20) (c := c28) (q := (RR 5 1 A28 20 c28 [N8 69, N8 h.x0, N8 ((20 + (d.size : Int)) / 256), N8 ((20 + (d.size : Int)) % 256), N8 (h.x3 / 256), N8 (h.x3 % 256), N8 (h.x4 / 256), N8 (h.x4 % 256), N8 h.x1, N8 h.x2, N8 (sm_ / 256), N8 0, N8 h.x5, N8 h.x6, N8 h.x7, N8 h.x8, N8 h.x9, N8 h.y0, N8 h.y1, N8 h.y2])) (A := A28) (x := .tmp 82) (y := .tmp 81) (z := N8 (sm_ % 256)) (by kernel_rfl) (by kernel_rfl) (by kernel_rfl) rfl rfl (by kernel_rfl) (Nat.le_of_ble_eq_true rfl) (by kernel_rfl) (Nat.succ_pos _) (by kernel_rfl) ?_
   refine X.tellR [48, 69] (R' := [(48, RR 5 1 A28 20 c28 [N8 69, N8 h.x0, N8 ((20 + (d.size : Int)) / 256), N8 ((20 + (d.size : Int)) % 256), N8 (h.x3 / 256), N8 (h.x3 % 256), N8 (h.x4 / 256), N8 (h.x4 % 256), N8 h.x1, N8 h.x2, N8 (sm_ / 256), N8 (sm_ % 256), N8 h.x5, N8 h.x6, N8 h.x7, N8 h.x8, N8 h.x9, N8 h.y0, N8 h.y1, N8 h.y2]), (69, RR 5 1 A27 1 1 [N8 h.y2])]) rfl ?_
   refine Rn 6 (Qo B79 4094 2) [Qs B79 4095] ⟨86, [(4, VL none 0 0), (5, I6 0), (83, VL A28 20 c28), (84, VT d)], []⟩ ?_
   refine X.appendStr 48 (RR 5 1 A28 20 c28 [N8 69, N8 h.x0, N8 ((20 + (d.size : Int)) / 256), N8 ((20 + (d.size : Int)) % 256), N8 (h.x3 / 256), N8 (h.x3 % 256), N8 (h.x4 / 256), N8 (h.x4 % 256), N8 h.x1, N8 h.x2, N8 (sm_ / 256), N8 (sm_ % 256), N8 h.x5, N8 h.x6, N8 h.x7, N8 h.x8, N8 h.x9, N8 h.y0, N8 h.y1, N8 h.y2]) 22 9 (x := .tmp 83) (y := .tmp 84) (n := 20) (c := c28) (A := A28) (b := d) (by kernel_rfl) (by kernel_rfl) (by kernel_rfl) (by kernel_rfl) (by kernel_rfl) (by kernel_rfl) rfl (by kernel_rfl) (.inl rfl) rfl rfl (by simp only [maxLen] at hd; omega) ?_
   intro A37 c37 hc37
   refine X.tellR [48] (R' := [(48, RR 5 1 A37 (20 + d.size) c37 (([69, h.x0, (20 + (d.size : Int)) / 256, (20 + (d.size : Int)) % 256, h.x3 / 256, h.x3 % 256, h.x4 / 256, h.x4 % 256, h.x1, h.x2, sm_ / 256, sm_ % 256, h.x5, h.x6, h.x7, h.x8, h.x9, h.y0, h.y1, h.y2] ++ bytesL d).map (Value.int .u8)))]) (congrArg (fun cs_ => (48, (RR 5 1 A37 (20 + d.size) c37 cs_ : Row)) :: []) (show [N8 69, N8 h.x0, N8 ((20 + (d.size : Int)) / 256), N8 ((20 + (d.size : Int)) % 256), N8 (h.x3 / 256), N8 (h.x3 % 256), N8 (h.x4 / 256), N8 (h.x4 % 256), N8 h.x1, N8 h.x2, N8 (sm_ / 256), N8 (sm_ % 256), N8 h.x5, N8 h.x6, N8 h.x7, N8 h.x8, N8 h.x9, N8 h.y0, N8 h.y1, N8 h.y2] ++ (bytesL d).map (Value.int .u8) = ([69, h.x0, (20 + (d.size : Int)) / 256, (20 + (d.size : Int)) % 256, h.x3 / 256, h.x3 % 256, h.x4 / 256, h.x4 % 256, h.x1, h.x2, sm_ / 256, sm_ % 256, h.x5, h.x6, h.x7, h.x8, h.x9, h.y0, h.y1, h.y2] ++ bytesL d).map (Value.int .u8) by simp)) ?_
   refine Rn 5 (.ex .ret) [] ⟨86, [(4, VL A37 (20 + d.size) c37), (5, I6 0)], []⟩ ?_
   refine Dg (.inl rfl) [.slice A37 (20 + d.size) c37, N6 0] [48] rfl (Ge.refl _ _) ?_
   rw [encI_fine hl_ hf_, hsm_]
   have hlen_ : (rawI h (20 + (d.size : Int)) sm_ ++ bytesL d).length = 20 + d.size := by rw [List.length_append, bytesL_length]; rfl
   simp only [hlen_]
   exact ⟨_, _, rfl, rfl⟩
end Go.Proofs.YtjgpdbkkpomhjaaX
