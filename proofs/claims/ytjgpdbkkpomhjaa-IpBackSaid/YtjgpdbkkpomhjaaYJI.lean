/- ip.row, ip.codes. Walked; printed by a small program of this session. Conditions: none. -/
import Derived.Test.YtjgpdbkkpomhjaaProg
import Derived.KernelRfl
import Derived.Test.YtjgpdbkkpomhjaaYJ8
import Derived.Test.YtjgpdbkkpomhjaaYJG
import Derived.Test.YtjgpdbkkpomhjaaYSC
namespace Go.Proofs.YtjgpdbkkpomhjaaX
open Go.RowKit
open Go.Proofs.YtjgpdbkkpomhjaaW.PrintLast
set_option linter.unusedVariables false
set_option linter.unusedSimpArgs false
set_option maxRecDepth 100000
/-- leat/ip.row -/
noncomputable def B141 : Code := bodyOf Try.f141
noncomputable def C141 : Code := scopeOf (cA B141 [1])
set_option maxHeartbeats 4000000 in
theorem Row_ok (A : Option Addr) (c : Nat) (xs : List Pk) (G : Mem) (hr : rowAt pkD G A xs) (hle : xs.length ≤ c) (hmx : c ≤ maxLen) (hn : xs.length ≤ 1000) (h0 : 0 < xs.length) (hok : ∀ x ∈ xs, okP x) : CallsG Try.prog 141 [.slice A xs.length c] G (fun _ v rows => ∃ A' c', v = .tuple #[.slice A' (rowI [] xs).1.length c', .bool (rowI [] xs).2] ∧ rows = [⟨5, 1, .slice A' (rowI [] xs).1.length c', (rowI [] xs).1.length, (rowI [] xs).1.map (Value.int .u8)⟩]) := by
 simp only [maxLen] at hmx
 refine CallsG.enter Try.func141 rfl rfl ?_
 intro w
 refine Rn 6 (Qc B141 3) [] ⟨46, [(0, VL A xs.length c), (2, VL none 0 0), (3, VB false)], []⟩ ?_
 refine X.scope (c' := C141) (by kernel_rfl) ?_
 refine Rn 17 (.code (cA C141 [1, 1, 0, 1, 0])) [.blk 0, .seq (cA C141 [1, 1, 1])] ⟨46, [(0, VL A xs.length c), (2, VL none 0 0), (3, VB false), (4, VL none 0 0), (7, VL A xs.length c), (8, I6 (xs.length : Int)), (9, I6 0)], []⟩ ?_
 refine X.nilRow 300 5 1 rfl ?_
 refine Rn 0 (.code (cA C141 [1, 1, 0, 1, 0])) [.blk 0, .seq (cA C141 [1, 1, 1])] ⟨46, [(0, VL A xs.length c), (4, VL none 0 0), (7, VL A xs.length c), (8, I6 (xs.length : Int)), (9, I6 0)], []⟩ ?_
 refine X.loopJ (fun m s R' G' => ∃ (B_ : Option Addr) (c_ n_ : Nat) (r_ : List Int) (i_ : Nat), s = ⟨46, [(0, VL A xs.length c), (4, VL B_ n_ c_), (7, VL A xs.length c), (8, I6 (xs.length : Int)), (9, I6 (i_ : Int))], []⟩ ∧ R' = [(300, RR 5 1 B_ n_ c_ ((r_).map (Value.int .u8)))] ∧ Ge G w.heap.size G' ∧ (i_ < xs.length ∧ n_ = r_.length ∧ rowI r_ (xs.drop i_) = rowI [] xs ∧ r_.length ≤ 65515 * i_) ∧ m = (xs.length - i_)) _ ⟨none, 0, 0, [], 0, rfl, rfl, Ge.refl _ _, ⟨h0, rfl, rfl, Nat.zero_le _⟩, rfl⟩ ?_
 rintro m1 s1 R1 G1 ⟨B_, c_, n_, r_, i_, rfl, rfl, hG1, hF1, rfl⟩ J1 hJ1
 replace hr := hr.mono hG1.le
 obtain ⟨hi_, hnr_, hr_, hrl_⟩ := hF1
 have hoki_ : okP (xs.getD i_ pk0) := hok _ (getD_mem (by omega))
 have hoz_ : (xs.getD i_ pk0).2.size ≤ 65515 := hoki_.2.1
 have hoz2_ : (xs.getD ((i_ : Int)).toNat pk0).2.size ≤ 65515 := hoki_.2.1
 have hox_ := hoki_.1.h4
 refine Rn 6 (.code (cA C141 [1, 1, 0, 1, 0, 0, 1, 0])) [.seq (cA C141 [1, 1, 0, 1, 0, 0, 1, 1]), .loop J1, .blk 0, .seq (cA C141 [1, 1, 1])] ⟨46, [(0, VL A xs.length c), (4, VL B_ n_ c_), (7, VL A xs.length c), (8, I6 (xs.length : Int)), (9, I6 (i_ : Int)), (10, VB (decide ((i_ : Int) < (xs.length : Int))))], []⟩ ?_
 refine X.isTrue 10 rfl (decide_eq_true (by omega)) ?_
 refine Rn 8 (.ops (aA C141 [1, 1, 0, 1, 0, 0, 1, 1, 0, 0, 0]) (oA C141 [1, 1, 0, 1, 0, 0, 1, 1, 0, 0, 0] 1 :: lA C141 [1, 1, 0, 1, 0, 0, 1, 1, 0, 0, 0] 2)) [.seq (cA C141 [1, 1, 0, 1, 0, 0, 1, 1, 0, 0, 1]), .blk 1, .seq (cA C141 [1, 1, 0, 1, 0, 0, 1, 1, 1]), .loop J1, .blk 0, .seq (cA C141 [1, 1, 1])] ⟨46, [(0, VL A xs.length c), (4, VL B_ n_ c_), (7, VL A xs.length c), (8, I6 (xs.length : Int)), (9, I6 (i_ : Int)), (11, I6 (i_ : Int))], []⟩ ?_
 have b2 : (0 : Int) ≤ (i_ : Int) := by omega
 have b3 : (i_ : Int) < ((xs.length : Nat) : Int) := by omega
 refine Ix 179 184 14 A xs.length c .i64 (i_ : Int) (.tmp 7) (.tmp 9) b2 b3 (fun _ _ => rowAt.so hr (by omega)) ?_
 have at4 := At.pk [(300, ⟨5, 1, .slice B_ n_ c_, n_, (r_).map (Value.int .u8)⟩)] hr (((i_ : Int)).toNat) (by omega)
 simp only [pkC] at at4
 refine Ld 184 A (((i_ : Int)).toNat * 14) (.tmp 12) (.agg #[N8 ((xs.getD (((i_ : Int)).toNat) pk0).1.x0), N8 ((xs.getD (((i_ : Int)).toNat) pk0).1.x1), N8 ((xs.getD (((i_ : Int)).toNat) pk0).1.x2), N1 ((xs.getD (((i_ : Int)).toNat) pk0).1.x3), N1 ((xs.getD (((i_ : Int)).toNat) pk0).1.x4), N8 ((xs.getD (((i_ : Int)).toNat) pk0).1.x5), N8 ((xs.getD (((i_ : Int)).toNat) pk0).1.x6), N8 ((xs.getD (((i_ : Int)).toNat) pk0).1.x7), N8 ((xs.getD (((i_ : Int)).toNat) pk0).1.x8), N8 ((xs.getD (((i_ : Int)).toNat) pk0).1.x9), N8 ((xs.getD (((i_ : Int)).toNat) pk0).1.y0), N8 ((xs.getD (((i_ : Int)).toNat) pk0).1.y1), N8 ((xs.getD (((i_ : Int)).toNat) pk0).1.y2), .string ((xs.getD (((i_ : Int)).toNat) pk0).2)]) [N8 ((xs.getD (((i_ : Int)).toNat) pk0).1.x0), N8 ((xs.getD (((i_ : Int)).toNat) pk0).1.x1), N8 ((xs.getD (((i_ : Int)).toNat) pk0).1.x2), N1 ((xs.getD (((i_ : Int)).toNat) pk0).1.x3), N1 ((xs.getD (((i_ : Int)).toNat) pk0).1.x4), N8 ((xs.getD (((i_ : Int)).toNat) pk0).1.x5), N8 ((xs.getD (((i_ : Int)).toNat) pk0).1.x6), N8 ((xs.getD (((i_ : Int)).toNat) pk0).1.x7), N8 ((xs.getD (((i_ : Int)).toNat) pk0).1.x8), N8 ((xs.getD (((i_ : Int)).toNat) pk0).1.x9), N8 ((xs.getD (((i_ : Int)).toNat) pk0).1.y0), N8 ((xs.getD (((i_ : Int)).toNat) pk0).1.y1), N8 ((xs.getD (((i_ : Int)).toNat) pk0).1.y2), .string ((xs.getD (((i_ : Int)).toNat) pk0).2)] at4 ?_
 refine Rn 9 (.ops (aA C141 [1, 1, 0, 1, 0, 0, 1, 1, 0, 0, 1, 0, 0]) (oA C141 [1, 1, 0, 1, 0, 0, 1, 1, 0, 0, 1, 0, 0] 1 :: lA C141 [1, 1, 0, 1, 0, 0, 1, 1, 0, 0, 1, 0, 0] 2)) [.seq (cA C141 [1, 1, 0, 1, 0, 0, 1, 1, 0, 0, 1, 0, 1]), .seq (cA C141 [1, 1, 0, 1, 0, 0, 1, 1, 0, 0, 1, 1]), .blk 1, .seq (cA C141 [1, 1, 0, 1, 0, 0, 1, 1, 1]), .loop J1, .blk 0, .seq (cA C141 [1, 1, 1])] ⟨46, [(0, VL A xs.length c), (4, VL B_ n_ c_), (5, I6 (i_ : Int)), (6, .own 6 0), (7, VL A xs.length c), (8, I6 (xs.length : Int)), (9, I6 (i_ : Int)), (14, .v (.agg #[N8 ((xs.getD (((i_ : Int)).toNat) pk0).1.x0), N8 ((xs.getD (((i_ : Int)).toNat) pk0).1.x1), N8 ((xs.getD (((i_ : Int)).toNat) pk0).1.x2), N1 ((xs.getD (((i_ : Int)).toNat) pk0).1.x3), N1 ((xs.getD (((i_ : Int)).toNat) pk0).1.x4), N8 ((xs.getD (((i_ : Int)).toNat) pk0).1.x5), N8 ((xs.getD (((i_ : Int)).toNat) pk0).1.x6), N8 ((xs.getD (((i_ : Int)).toNat) pk0).1.x7), N8 ((xs.getD (((i_ : Int)).toNat) pk0).1.x8), N8 ((xs.getD (((i_ : Int)).toNat) pk0).1.x9), N8 ((xs.getD (((i_ : Int)).toNat) pk0).1.y0), N8 ((xs.getD (((i_ : Int)).toNat) pk0).1.y1), N8 ((xs.getD (((i_ : Int)).toNat) pk0).1.y2), .string ((xs.getD (((i_ : Int)).toNat) pk0).2)]))], [(6, ⟨184, [I8 ((xs.getD (((i_ : Int)).toNat) pk0).1.x0), I8 ((xs.getD (((i_ : Int)).toNat) pk0).1.x1), I8 ((xs.getD (((i_ : Int)).toNat) pk0).1.x2), I1 ((xs.getD (((i_ : Int)).toNat) pk0).1.x3), I1 ((xs.getD (((i_ : Int)).toNat) pk0).1.x4), I8 ((xs.getD (((i_ : Int)).toNat) pk0).1.x5), I8 ((xs.getD (((i_ : Int)).toNat) pk0).1.x6), I8 ((xs.getD (((i_ : Int)).toNat) pk0).1.x7), I8 ((xs.getD (((i_ : Int)).toNat) pk0).1.x8), I8 ((xs.getD (((i_ : Int)).toNat) pk0).1.x9), I8 ((xs.getD (((i_ : Int)).toNat) pk0).1.y0), I8 ((xs.getD (((i_ : Int)).toNat) pk0).1.y1), I8 ((xs.getD (((i_ : Int)).toNat) pk0).1.y2), VT ((xs.getD (((i_ : Int)).toNat) pk0).2)]⟩)]⟩ ?_
 refine Cg 140 [.agg #[N8 ((xs.getD (((i_ : Int)).toNat) pk0).1.x0), N8 ((xs.getD (((i_ : Int)).toNat) pk0).1.x1), N8 ((xs.getD (((i_ : Int)).toNat) pk0).1.x2), N1 ((xs.getD (((i_ : Int)).toNat) pk0).1.x3), N1 ((xs.getD (((i_ : Int)).toNat) pk0).1.x4), N8 ((xs.getD (((i_ : Int)).toNat) pk0).1.x5), N8 ((xs.getD (((i_ : Int)).toNat) pk0).1.x6), N8 ((xs.getD (((i_ : Int)).toNat) pk0).1.x7), N8 ((xs.getD (((i_ : Int)).toNat) pk0).1.x8), N8 ((xs.getD (((i_ : Int)).toNat) pk0).1.x9), N8 ((xs.getD (((i_ : Int)).toNat) pk0).1.y0), N8 ((xs.getD (((i_ : Int)).toNat) pk0).1.y1), N8 ((xs.getD (((i_ : Int)).toNat) pk0).1.y2), .string ((xs.getD (((i_ : Int)).toNat) pk0).2)]] 0 (place_ok (xs.getD (((i_ : Int)).toNat) pk0).1 (xs.getD (((i_ : Int)).toNat) pk0).2 _ hoki_.1) ?_
 rintro v5 G5 rows5 hG5 ⟨rfl, rfl⟩
 replace hr := hr.mono hG5.le
 refine Rn 1 (.ops (aA C141 [1, 1, 0, 1, 0, 0, 1, 1, 0, 0, 1, 0, 0]) (oA C141 [1, 1, 0, 1, 0, 0, 1, 1, 0, 0, 1, 0, 0] 3 :: lA C141 [1, 1, 0, 1, 0, 0, 1, 1, 0, 0, 1, 0, 0] 4)) [.seq (cA C141 [1, 1, 0, 1, 0, 0, 1, 1, 0, 0, 1, 0, 1]), .seq (cA C141 [1, 1, 0, 1, 0, 0, 1, 1, 0, 0, 1, 1]), .blk 1, .seq (cA C141 [1, 1, 0, 1, 0, 0, 1, 1, 1]), .loop J1, .blk 0, .seq (cA C141 [1, 1, 1])] ⟨46, [(0, VL A xs.length c), (4, VL B_ n_ c_), (5, I6 (i_ : Int)), (6, .own 6 0), (7, VL A xs.length c), (8, I6 (xs.length : Int)), (9, I6 (i_ : Int)), (16, I6 (IntKind.i64.wrap (((xs.getD (((i_ : Int)).toNat) pk0).1.x4 % 8192) * 8)))], [(6, ⟨184, [I8 ((xs.getD (((i_ : Int)).toNat) pk0).1.x0), I8 ((xs.getD (((i_ : Int)).toNat) pk0).1.x1), I8 ((xs.getD (((i_ : Int)).toNat) pk0).1.x2), I1 ((xs.getD (((i_ : Int)).toNat) pk0).1.x3), I1 ((xs.getD (((i_ : Int)).toNat) pk0).1.x4), I8 ((xs.getD (((i_ : Int)).toNat) pk0).1.x5), I8 ((xs.getD (((i_ : Int)).toNat) pk0).1.x6), I8 ((xs.getD (((i_ : Int)).toNat) pk0).1.x7), I8 ((xs.getD (((i_ : Int)).toNat) pk0).1.x8), I8 ((xs.getD (((i_ : Int)).toNat) pk0).1.x9), I8 ((xs.getD (((i_ : Int)).toNat) pk0).1.y0), I8 ((xs.getD (((i_ : Int)).toNat) pk0).1.y1), I8 ((xs.getD (((i_ : Int)).toNat) pk0).1.y2), VT ((xs.getD (((i_ : Int)).toNat) pk0).2)]⟩)]⟩ ?_
 refine Kn 16 .i64 (((xs.getD (((i_ : Int)).toNat) pk0).1.x4 % 8192) * 8) rfl (wi64 (by omega) (by omega)) ?_
 refine Rn 5 (.code (cA C141 [1, 1, 0, 1, 0, 0, 1, 1, 0, 0, 1, 0, 1])) [.seq (cA C141 [1, 1, 0, 1, 0, 0, 1, 1, 0, 0, 1, 1]), .blk 1, .seq (cA C141 [1, 1, 0, 1, 0, 0, 1, 1, 1]), .loop J1, .blk 0, .seq (cA C141 [1, 1, 1])] ⟨46, [(0, VL A xs.length c), (4, VL B_ n_ c_), (5, I6 (i_ : Int)), (6, .own 6 0), (7, VL A xs.length c), (8, I6 (xs.length : Int)), (9, I6 (i_ : Int)), (19, VB ((((xs.getD (((i_ : Int)).toNat) pk0).1.x4 % 8192) * 8) != ((n_ : Nat) : Int)))], [(6, ⟨184, [I8 ((xs.getD (((i_ : Int)).toNat) pk0).1.x0), I8 ((xs.getD (((i_ : Int)).toNat) pk0).1.x1), I8 ((xs.getD (((i_ : Int)).toNat) pk0).1.x2), I1 ((xs.getD (((i_ : Int)).toNat) pk0).1.x3), I1 ((xs.getD (((i_ : Int)).toNat) pk0).1.x4), I8 ((xs.getD (((i_ : Int)).toNat) pk0).1.x5), I8 ((xs.getD (((i_ : Int)).toNat) pk0).1.x6), I8 ((xs.getD (((i_ : Int)).toNat) pk0).1.x7), I8 ((xs.getD (((i_ : Int)).toNat) pk0).1.x8), I8 ((xs.getD (((i_ : Int)).toNat) pk0).1.x9), I8 ((xs.getD (((i_ : Int)).toNat) pk0).1.y0), I8 ((xs.getD (((i_ : Int)).toNat) pk0).1.y1), I8 ((xs.getD (((i_ : Int)).toNat) pk0).1.y2), VT ((xs.getD (((i_ : Int)).toNat) pk0).2)]⟩)]⟩ ?_
 refine X.split 19 rfl (fun h6 => ?_) (fun h6 => ?_)
 ·
  replace h6 : (((xs.getD (((i_ : Int)).toNat) pk0).1.x4 % 8192) * 8) ≠ ((n_ : Nat) : Int) := by simpa using h6
  have hpc_ : plI (xs.getD i_ pk0) * 8 ≠ (r_.length : Int) := by
   have h_ := h6
   rw [← hnr_]; exact h_
  have hst_ := rowI_step (acc := r_) (l := xs) (i := i_) (by omega)
  rw [if_pos hpc_] at hst_
  refine X.nilRow 390 5 1 rfl ?_
  refine Rn 14 (.ex .ret) [] ⟨46, [(2, VL none 0 0), (3, VB false)], []⟩ ?_
  refine X.scopeEnd (fun _ h => by cases h) ?_
  refine Rn 0 (.ex .ret) [] ⟨46, [(2, VL none 0 0), (3, VB false)], []⟩ ?_
  refine Dg (.inl rfl) [.slice none 0 0, .bool false] [390] rfl ((hG1.trans hG5)) ?_
  rw [← hr_, hst_]
  exact ⟨none, 0, rfl, rfl⟩
 ·
  replace h6 : (((xs.getD (((i_ : Int)).toNat) pk0).1.x4 % 8192) * 8) = ((n_ : Nat) : Int) := by simpa using h6
  have hpc_ : plI (xs.getD i_ pk0) * 8 = (r_.length : Int) := by
   have h_ := h6
   rw [← hnr_]; exact h_
  refine Rn 8 (.ops (aA C141 [1, 1, 0, 1, 0, 0, 1, 1, 0, 0, 1, 1, 0]) (oA C141 [1, 1, 0, 1, 0, 0, 1, 1, 0, 0, 1, 1, 0] 3 :: lA C141 [1, 1, 0, 1, 0, 0, 1, 1, 0, 0, 1, 1, 0] 4)) [.seq (cA C141 [1, 1, 0, 1, 0, 0, 1, 1, 0, 0, 1, 1, 1]), .blk 1, .seq (cA C141 [1, 1, 0, 1, 0, 0, 1, 1, 1]), .loop J1, .blk 0, .seq (cA C141 [1, 1, 1])] ⟨46, [(0, VL A xs.length c), (4, VL B_ n_ c_), (5, I6 (i_ : Int)), (6, .own 6 0), (7, VL A xs.length c), (8, I6 (xs.length : Int)), (9, I6 (i_ : Int)), (20, VL B_ n_ c_), (22, VT ((xs.getD (((i_ : Int)).toNat) pk0).2))], [(6, ⟨184, [I8 ((xs.getD (((i_ : Int)).toNat) pk0).1.x0), I8 ((xs.getD (((i_ : Int)).toNat) pk0).1.x1), I8 ((xs.getD (((i_ : Int)).toNat) pk0).1.x2), I1 ((xs.getD (((i_ : Int)).toNat) pk0).1.x3), I1 ((xs.getD (((i_ : Int)).toNat) pk0).1.x4), I8 ((xs.getD (((i_ : Int)).toNat) pk0).1.x5), I8 ((xs.getD (((i_ : Int)).toNat) pk0).1.x6), I8 ((xs.getD (((i_ : Int)).toNat) pk0).1.x7), I8 ((xs.getD (((i_ : Int)).toNat) pk0).1.x8), I8 ((xs.getD (((i_ : Int)).toNat) pk0).1.x9), I8 ((xs.getD (((i_ : Int)).toNat) pk0).1.y0), I8 ((xs.getD (((i_ : Int)).toNat) pk0).1.y1), I8 ((xs.getD (((i_ : Int)).toNat) pk0).1.y2), VT ((xs.getD (((i_ : Int)).toNat) pk0).2)]⟩)]⟩ ?_
  refine X.appendStr 300 (RR 5 1 B_ n_ c_ ((r_).map (Value.int .u8))) 22 9 (x := .tmp 20) (y := .tmp 22) (n := n_) (c := c_) (A := B_) (b := (xs.getD (((i_ : Int)).toNat) pk0).2) (by kernel_rfl) (by kernel_rfl) (by kernel_rfl) (by kernel_rfl) (by kernel_rfl) (by kernel_rfl) rfl (by kernel_rfl) (.inl rfl) rfl rfl (by omega) ?_
  intro A7 c7 hc7
  refine X.tellR [300] (R' := [(300, RR 5 1 A7 (n_ + ((xs.getD (((i_ : Int)).toNat) pk0).2).size) c7 ((r_ ++ bytesL ((xs.getD (((i_ : Int)).toNat) pk0).2)).map (Value.int .u8)))]) (congrArg (fun cs_ => (300, (RR 5 1 A7 (n_ + ((xs.getD (((i_ : Int)).toNat) pk0).2).size) c7 cs_ : Row)) :: []) (show (r_).map (Value.int .u8) ++ (bytesL ((xs.getD (((i_ : Int)).toNat) pk0).2)).map (Value.int .u8) = (r_ ++ bytesL ((xs.getD (((i_ : Int)).toNat) pk0).2)).map (Value.int .u8) by simp)) ?_
  refine Rn 10 (.ops (aA C141 [1, 1, 0, 1, 0, 0, 1, 1, 0, 0, 1, 1, 1, 0, 0]) (oA C141 [1, 1, 0, 1, 0, 0, 1, 1, 0, 0, 1, 1, 1, 0, 0] 4 :: lA C141 [1, 1, 0, 1, 0, 0, 1, 1, 0, 0, 1, 1, 1, 0, 0] 5)) [.seq (cA C141 [1, 1, 0, 1, 0, 0, 1, 1, 0, 0, 1, 1, 1, 0, 1]), .seq (cA C141 [1, 1, 0, 1, 0, 0, 1, 1, 0, 0, 1, 1, 1, 1]), .blk 1, .seq (cA C141 [1, 1, 0, 1, 0, 0, 1, 1, 1]), .loop J1, .blk 0, .seq (cA C141 [1, 1, 1])] ⟨46, [(0, VL A xs.length c), (4, VL A7 (n_ + ((xs.getD (((i_ : Int)).toNat) pk0).2).size) c7), (6, .own 6 0), (7, VL A xs.length c), (8, I6 (xs.length : Int)), (9, I6 (i_ : Int)), (24, I6 (i_ : Int)), (27, I6 (IntKind.i64.wrap ((xs.length : Int) - 1)))], [(6, ⟨184, [I8 ((xs.getD (((i_ : Int)).toNat) pk0).1.x0), I8 ((xs.getD (((i_ : Int)).toNat) pk0).1.x1), I8 ((xs.getD (((i_ : Int)).toNat) pk0).1.x2), I1 ((xs.getD (((i_ : Int)).toNat) pk0).1.x3), I1 ((xs.getD (((i_ : Int)).toNat) pk0).1.x4), I8 ((xs.getD (((i_ : Int)).toNat) pk0).1.x5), I8 ((xs.getD (((i_ : Int)).toNat) pk0).1.x6), I8 ((xs.getD (((i_ : Int)).toNat) pk0).1.x7), I8 ((xs.getD (((i_ : Int)).toNat) pk0).1.x8), I8 ((xs.getD (((i_ : Int)).toNat) pk0).1.x9), I8 ((xs.getD (((i_ : Int)).toNat) pk0).1.y0), I8 ((xs.getD (((i_ : Int)).toNat) pk0).1.y1), I8 ((xs.getD (((i_ : Int)).toNat) pk0).1.y2), VT ((xs.getD (((i_ : Int)).toNat) pk0).2)]⟩)]⟩ ?_
  refine Kn 27 .i64 ((xs.length : Int) - 1) rfl (wi64 (by omega) (by omega)) ?_
  refine Rn 3 (.code (cA C141 [1, 1, 0, 1, 0, 0, 1, 1, 0, 0, 1, 1, 1, 0, 1])) [.seq (cA C141 [1, 1, 0, 1, 0, 0, 1, 1, 0, 0, 1, 1, 1, 1]), .blk 1, .seq (cA C141 [1, 1, 0, 1, 0, 0, 1, 1, 1]), .loop J1, .blk 0, .seq (cA C141 [1, 1, 1])] ⟨46, [(0, VL A xs.length c), (4, VL A7 (n_ + ((xs.getD (((i_ : Int)).toNat) pk0).2).size) c7), (6, .own 6 0), (7, VL A xs.length c), (8, I6 (xs.length : Int)), (9, I6 (i_ : Int)), (28, VB ((i_ : Int) == ((xs.length : Int) - 1)))], [(6, ⟨184, [I8 ((xs.getD (((i_ : Int)).toNat) pk0).1.x0), I8 ((xs.getD (((i_ : Int)).toNat) pk0).1.x1), I8 ((xs.getD (((i_ : Int)).toNat) pk0).1.x2), I1 ((xs.getD (((i_ : Int)).toNat) pk0).1.x3), I1 ((xs.getD (((i_ : Int)).toNat) pk0).1.x4), I8 ((xs.getD (((i_ : Int)).toNat) pk0).1.x5), I8 ((xs.getD (((i_ : Int)).toNat) pk0).1.x6), I8 ((xs.getD (((i_ : Int)).toNat) pk0).1.x7), I8 ((xs.getD (((i_ : Int)).toNat) pk0).1.x8), I8 ((xs.getD (((i_ : Int)).toNat) pk0).1.x9), I8 ((xs.getD (((i_ : Int)).toNat) pk0).1.y0), I8 ((xs.getD (((i_ : Int)).toNat) pk0).1.y1), I8 ((xs.getD (((i_ : Int)).toNat) pk0).1.y2), VT ((xs.getD (((i_ : Int)).toNat) pk0).2)]⟩)]⟩ ?_
  refine X.split 28 rfl (fun h8 => ?_) (fun h8 => ?_)
  ·
   replace h8 : (i_ : Int) = (((xs.length : Nat) : Int) - 1) := by simpa using h8
   refine Rn 9 (.code (cA C141 [1, 1, 1, 0])) [.seq (cA C141 [1, 1, 1, 1])] ⟨46, [(0, VL A xs.length c), (4, VL A7 (n_ + ((xs.getD (((i_ : Int)).toNat) pk0).2).size) c7)], []⟩ ?_
   have hle_ : xs.length - 1 = i_ := by omega
   have hmo_ : (band .u16 (xs.getD i_ pk0).1.x4 8192 == 0) = !moreI (xs.getD i_ pk0).1 := by
    have h_ := bit_more (n := (xs.getD i_ pk0).1.x4) (by omega)
    rw [h_]
    unfold moreI
    rcases (show (xs.getD i_ pk0).1.x4 / 8192 % 2 = 0 ∨ (xs.getD i_ pk0).1.x4 / 8192 % 2 = 1 by omega) with e_ | e_ <;> rw [e_] <;> rfl
   have hr_d9 := hr
   refine XD.open (id := 12) (arr := aA C141 [1, 1, 1, 0]) 13 [] [] [] (by kernel_rfl) (by kernel_rfl) (by kernel_rfl) (by kernel_rfl) (by kernel_rfl) trivial (by simp) rfl (fun ρ0 => ?_)
   refine XD.take (i := 0) (l' := (lb 13 1)) (oA C141 [1, 1, 1, 0] 0) (VL A7 (n_ + ((xs.getD (((i_ : Int)).toNat) pk0).2).size) c7) (QOk.scope QOk.ctxG) (by kernel_rfl) (by kernel_rfl) (by kernel_rfl) (by kernel_rfl) (by kernel_rfl) ?_
   refine XD.take (i := 1) (l' := (lb 13 3)) (oA C141 [1, 1, 1, 0] 1) (VL A xs.length c) (QOk.scope QOk.ctxG) (by kernel_rfl) (by kernel_rfl) (by kernel_rfl) (by kernel_rfl) (by kernel_rfl) ?_
   refine XD.take (i := 2) (l' := (lb 13 7)) (oA C141 [1, 1, 1, 0] 2) (VL A xs.length c) (QOk.scope QOk.ctxG) (by kernel_rfl) (by kernel_rfl) (by kernel_rfl) (by kernel_rfl) (by kernel_rfl) ?_
   refine XD.take (i := 3) (l' := (lb 13 15)) (oA C141 [1, 1, 1, 0] 3) (I6 (xs.length : Int)) (QOk.scope QOk.ctxG) (by kernel_rfl) (by kernel_rfl) (by kernel_rfl) (by kernel_rfl) (by kernel_rfl) ?_
   refine XD.take (i := 4) (l' := (lb 13 31)) (oA C141 [1, 1, 1, 0] 4) (I6 (IntKind.i64.wrap ((xs.length : Int) - 1))) (QOk.scope QOk.ctxG) (by kernel_rfl) (by kernel_rfl) (by kernel_rfl) (by kernel_rfl) (by kernel_rfl) ?_
   refine Dk 39 .i64 (i_ : Int) rfl (by rw [wi64 (by omega) (by omega)]; omega) ?_
   have b10 : (0 : Int) ≤ (i_ : Int) := by omega
   have b11 : (i_ : Int) < ((xs.length : Nat) : Int) := by omega
   have at12 := At.pk [] hr_d9 (((i_ : Int)).toNat) (by omega)
   simp only [pkC] at at12
   refine XD.index (i := 5) (l' := (lb 13 63)) (o := (oA C141 [1, 1, 1, 0] 5)) (t := 179) (e := 184) (sz := 14) (A := A) (n := xs.length) (c := c) (ki := .i64) (j := (i_ : Int)) (x := .tmp 36) (ix := .tmp 39) (QOk.scope QOk.ctxG) (by kernel_rfl) (by kernel_rfl) (by kernel_rfl) (by kernel_rfl) (by kernel_rfl) (by kernel_rfl) (by kernel_rfl) (by kernel_rfl) b10 b11 (fun _ _ => rowAt.so hr_d9 (by omega)) (by kernel_rfl) ?_
   refine XD.field (i := 6) (l' := (lb 13 127)) (o := (oA C141 [1, 1, 1, 0] 6)) (t := 184) (f := 0) (n := 0) (A := A) (j := ((i_ : Int)).toNat * 14) (x := .tmp 40) (QOk.scope QOk.ctxG) (by kernel_rfl) (by kernel_rfl) (by kernel_rfl) (by kernel_rfl) (by kernel_rfl) (by kernel_rfl) (by kernel_rfl) ?_
   refine XD.field (i := 7) (l' := (lb 13 255)) (o := (oA C141 [1, 1, 1, 0] 7)) (t := 113) (f := 4) (n := 4) (A := A) (j := ((i_ : Int)).toNat * 14 + 0) (x := .tmp 41) (QOk.scope QOk.ctxG) (by kernel_rfl) (by kernel_rfl) (by kernel_rfl) (by kernel_rfl) (by kernel_rfl) (by kernel_rfl) (by kernel_rfl) ?_
   refine XD.load (i := 8) (l' := (lb 13 511)) (o := (oA C141 [1, 1, 1, 0] 8)) (t := 23) (A := A) (j := ((i_ : Int)).toNat * 14 + 0 + 4) (x := .tmp 42) (z := N1 ((xs.getD (((i_ : Int)).toNat) pk0).1.x4)) [N1 ((xs.getD (((i_ : Int)).toNat) pk0).1.x4)] (QOk.scope QOk.ctxG) (by kernel_rfl) (by kernel_rfl) (by kernel_rfl) (by kernel_rfl) (by kernel_rfl) (at12.part 4 1) (by kernel_rfl) (by kernel_rfl) ?_
   refine Ts [9, 10, 11, 12] 13 8191 0 4 (QOk.scope QOk.ctxG) ?_
   refine XD.done (by kernel_rfl) ?_
   refine Rn 2 (.ex .ret) [] ⟨46, [(2, VL A7 (n_ + ((xs.getD (((i_ : Int)).toNat) pk0).2).size) c7), (3, VB ((band .u16 ((xs.getD (((i_ : Int)).toNat) pk0).1.x4) 8192) == 0))], []⟩ ?_
   refine X.scopeEnd (fun _ h => by cases h) ?_
   refine Rn 0 (.ex .ret) [] ⟨46, [(2, VL A7 (n_ + ((xs.getD (((i_ : Int)).toNat) pk0).2).size) c7), (3, VB ((band .u16 ((xs.getD (((i_ : Int)).toNat) pk0).1.x4) 8192) == 0))], []⟩ ?_
   refine Dg (.inl rfl) [.slice A7 (n_ + ((xs.getD (((i_ : Int)).toNat) pk0).2).size) c7, .bool ((band .u16 ((xs.getD (((i_ : Int)).toNat) pk0).1.x4) 8192) == 0)] [300] rfl ((hG1.trans hG5)) ?_
   have hst_ := rowI_step (acc := r_) (l := xs) (i := i_) (by omega)
   rw [if_neg (fun h_ => h_ hpc_), if_pos (by omega)] at hst_
   rw [← hr_, hst_, ← hmo_]
   simp only [List.length_append, bytesL_length, ← hnr_]
   exact ⟨_, _, rfl, rfl⟩
  ·
   replace h8 : (i_ : Int) ≠ (((xs.length : Nat) : Int) - 1) := by simpa using h8
   refine Rn 12 (.code (cA C141 [1, 1, 0, 1, 0, 0, 1, 1, 0, 0, 1, 1, 1, 1, 1])) [.blk 1, .seq (cA C141 [1, 1, 0, 1, 0, 0, 1, 1, 1]), .loop J1, .blk 0, .seq (cA C141 [1, 1, 1])] ⟨46, [(0, VL A xs.length c), (4, VL A7 (n_ + ((xs.getD (((i_ : Int)).toNat) pk0).2).size) c7), (7, VL A xs.length c), (8, I6 (xs.length : Int)), (9, I6 (i_ : Int)), (33, VB ((band .u16 ((xs.getD (((i_ : Int)).toNat) pk0).1.x4) 8192) == 0))], []⟩ ?_
   refine X.split 33 rfl (fun h13 => ?_) (fun h13 => ?_)
   ·
    replace h13 : (band .u16 ((xs.getD (((i_ : Int)).toNat) pk0).1.x4) 8192) = 0 := by simpa using h13
    have hmo_ : moreI (xs.getD i_ pk0).1 = false := by
     have h_ := bit_more (n := (xs.getD i_ pk0).1.x4) (by omega)
     have h2_ : band .u16 (xs.getD i_ pk0).1.x4 8192 = 0 := h13
     rw [h_] at h2_
     unfold moreI
     simp only [beq_iff_eq, beq_eq_false_iff_ne, ne_eq]
     omega
    have hst_ := rowI_step (acc := r_) (l := xs) (i := i_) (by omega)
    rw [if_neg (fun h_ => h_ hpc_), if_neg (by omega), if_pos hmo_] at hst_
    refine X.nilRow 390 5 1 rfl ?_
    refine Rn 13 (.ex .ret) [] ⟨46, [(2, VL none 0 0), (3, VB false)], []⟩ ?_
    refine X.scopeEnd (fun _ h => by cases h) ?_
    refine Rn 0 (.ex .ret) [] ⟨46, [(2, VL none 0 0), (3, VB false)], []⟩ ?_
    refine Dg (.inl rfl) [.slice none 0 0, .bool false] [390] rfl ((hG1.trans hG5)) ?_
    rw [← hr_, hst_]
    exact ⟨none, 0, rfl, rfl⟩
   ·
    replace h13 : (band .u16 ((xs.getD (((i_ : Int)).toNat) pk0).1.x4) 8192) ≠ 0 := by simpa using h13
    have hmo_ : moreI (xs.getD i_ pk0).1 = true := by
     have h_ := bit_more (n := (xs.getD i_ pk0).1.x4) (by omega)
     have h2_ : band .u16 (xs.getD i_ pk0).1.x4 8192 ≠ 0 := h13
     rw [h_] at h2_
     unfold moreI
     simp only [beq_iff_eq, beq_eq_false_iff_ne, ne_eq]
     omega
    refine Rn 6 (.ops (aA C141 [1, 1, 0, 1, 0, 0, 1, 1, 1]) (oA C141 [1, 1, 0, 1, 0, 0, 1, 1, 1] 1 :: lA C141 [1, 1, 0, 1, 0, 0, 1, 1, 1] 2)) [.loop J1, .blk 0, .seq (cA C141 [1, 1, 1])] ⟨46, [(0, VL A xs.length c), (4, VL A7 (n_ + ((xs.getD (((i_ : Int)).toNat) pk0).2).size) c7), (7, VL A xs.length c), (8, I6 (xs.length : Int)), (9, I6 (i_ : Int)), (34, I6 (IntKind.i64.wrap ((i_ : Int) + 1)))], []⟩ ?_
    refine Kn 34 .i64 ((i_ : Int) + 1) rfl (wi64 (by omega) (by omega)) ?_
    refine Rn 2 (.ex .normal) [.loop J1, .blk 0, .seq (cA C141 [1, 1, 1])] ⟨46, [(0, VL A xs.length c), (4, VL A7 (n_ + ((xs.getD (((i_ : Int)).toNat) pk0).2).size) c7), (7, VL A xs.length c), (8, I6 (xs.length : Int)), (9, I6 ((i_ : Int) + 1))], []⟩ ?_
    have hst_ := rowI_step (acc := r_) (l := xs) (i := i_) (by omega)
    rw [if_neg (fun h_ => h_ hpc_), if_neg (by omega), if_neg (by rw [hmo_]; decide)] at hst_
    exact X.again (hJ1 _ _ _ _ ⟨A7, c7, (n_ + ((xs.getD (((i_ : Int)).toNat) pk0).2).size), (r_ ++ bytesL (xs.getD i_ pk0).2), (i_ + 1), rfl, rfl, (hG1.trans hG5), ⟨by omega, by rw [List.length_append, bytesL_length, hnr_] <;> rfl, by rw [← hst_]; exact hr_, by rw [List.length_append, bytesL_length]; show _ + (xs.getD i_ pk0).2.size ≤ _; omega⟩, rfl⟩ (by omega))
theorem had_step {xs : List Pk} {i : Nat} {b : Bool} {k z : Int} (hi : i < xs.length) (hb : b = hadI (xs.take i) k) (hz : (xs.getD i pk0).1.x0 % 4 = z) {b' : Bool} (h : b' = if z = k then true else b) : b' = hadI (xs.take (i + 1)) k := by
 rw [h, List.take_succ_eq_append_getElem hi]
 have e : xs[i] = xs.getD i pk0 := by simp [List.getD, hi]
 unfold hadI
 rw [e, List.any_append, List.any_cons, List.any_nil, Bool.or_false, hz, hb]
 unfold hadI
 by_cases hk : z = k
 · rw [if_pos hk, hk]; simp
 · rw [if_neg hk, beq_false_of_ne hk, Bool.or_false]
/-- leat/ip.codes -/
noncomputable def B142 : Code := bodyOf Try.f142
set_option maxHeartbeats 4000000 in
theorem codes_ok (A : Option Addr) (c : Nat) (xs : List Pk) (G : Mem) (hr : rowAt pkD G A xs) (hle : xs.length ≤ c) (hmx : c ≤ maxLen) (hn : xs.length ≤ 1000) (h0 : 0 < xs.length) (hok : ∀ x ∈ xs, okP x) : CallsG Try.prog 142 [.slice A xs.length c] G (fun _ v rows => v = .tuple #[.int .i64 (codeJ xs), .bool (fitJ xs)] ∧ rows = []) := by
 simp only [maxLen] at hmx
 refine CallsG.enter Try.func142 rfl rfl ?_
 intro w
 refine Rn 20 (Qc B142 58) [.blk 0, Qs B142 15] ⟨30, [(0, VL A xs.length c), (2, I6 0), (3, VB false), (4, .own 4 0), (7, VL A xs.length c), (8, I6 (xs.length : Int)), (9, I6 0)], [(4, ⟨214, [VB false, VB false, VB false, VB false]⟩)]⟩ ?_
 refine X.loopJ (fun m s R' G' => ∃ (b0_ b1_ b2_ b3_ : Bool) (i_ : Nat), s = ⟨30, [(0, VL A xs.length c), (2, I6 0), (3, VB false), (4, .own 4 0), (7, VL A xs.length c), (8, I6 (xs.length : Int)), (9, I6 (i_ : Int))], [(4, ⟨214, [VB b0_, VB b1_, VB b2_, VB b3_]⟩)]⟩ ∧ R' = [] ∧ Ge G w.heap.size G' ∧ (i_ ≤ xs.length ∧ b0_ = hadI (xs.take i_) 0 ∧ b1_ = hadI (xs.take i_) 1 ∧ b2_ = hadI (xs.take i_) 2 ∧ b3_ = hadI (xs.take i_) 3) ∧ m = (xs.length - i_)) _ ⟨false, false, false, false, 0, rfl, rfl, Ge.refl _ _, ⟨by omega, rfl, rfl, rfl, rfl⟩, rfl⟩ ?_
 rintro m1 s1 R1 G1 ⟨b0_, b1_, b2_, b3_, i_, rfl, rfl, hG1, hF1, rfl⟩ J1 hJ1
 replace hr := hr.mono hG1.le
 obtain ⟨hi_, hb0_, hb1_, hb2_, hb3_⟩ := hF1
 refine Rn 6 (Qc B142 466) [Qs B142 467, .loop J1, .blk 0, Qs B142 15] ⟨30, [(0, VL A xs.length c), (2, I6 0), (3, VB false), (4, .own 4 0), (7, VL A xs.length c), (8, I6 (xs.length : Int)), (9, I6 (i_ : Int)), (10, VB (decide ((i_ : Int) < (xs.length : Int))))], [(4, ⟨214, [VB b0_, VB b1_, VB b2_, VB b3_]⟩)]⟩ ?_
 refine X.split 10 rfl (fun h2 => ?_) (fun h2 => ?_)
 ·
  replace h2 : (i_ : Int) < ((xs.length : Nat) : Int) := of_decide_eq_true h2
  have hoki_ : okP (xs.getD i_ pk0) := hok _ (getD_mem (by omega))
  have hox_ := hoki_.1.h0
  refine Rn 7 (Qo B142 3736 0) [Qs B142 3737, .blk 1, Qs B142 935, .loop J1, .blk 0, Qs B142 15] ⟨30, [(0, VL A xs.length c), (2, I6 0), (3, VB false), (4, .own 4 0), (7, VL A xs.length c), (8, I6 (xs.length : Int)), (9, I6 (i_ : Int))], [(4, ⟨214, [VB b0_, VB b1_, VB b2_, VB b3_]⟩)]⟩ ?_
  have b3 : (0 : Int) ≤ (i_ : Int) := by omega
  have b4 : (i_ : Int) < ((xs.length : Nat) : Int) := by omega
  refine Ix 179 184 14 A xs.length c .i64 (i_ : Int) (.tmp 7) (.tmp 9) b3 b4 (fun _ _ => rowAt.so hr (by omega)) ?_
  have at5 := At.pk [] hr (((i_ : Int)).toNat) (by omega)
  simp only [pkC] at at5
  refine Ld 184 A (((i_ : Int)).toNat * 14) (.tmp 11) (.agg #[N8 ((xs.getD (((i_ : Int)).toNat) pk0).1.x0), N8 ((xs.getD (((i_ : Int)).toNat) pk0).1.x1), N8 ((xs.getD (((i_ : Int)).toNat) pk0).1.x2), N1 ((xs.getD (((i_ : Int)).toNat) pk0).1.x3), N1 ((xs.getD (((i_ : Int)).toNat) pk0).1.x4), N8 ((xs.getD (((i_ : Int)).toNat) pk0).1.x5), N8 ((xs.getD (((i_ : Int)).toNat) pk0).1.x6), N8 ((xs.getD (((i_ : Int)).toNat) pk0).1.x7), N8 ((xs.getD (((i_ : Int)).toNat) pk0).1.x8), N8 ((xs.getD (((i_ : Int)).toNat) pk0).1.x9), N8 ((xs.getD (((i_ : Int)).toNat) pk0).1.y0), N8 ((xs.getD (((i_ : Int)).toNat) pk0).1.y1), N8 ((xs.getD (((i_ : Int)).toNat) pk0).1.y2), .string ((xs.getD (((i_ : Int)).toNat) pk0).2)]) [N8 ((xs.getD (((i_ : Int)).toNat) pk0).1.x0), N8 ((xs.getD (((i_ : Int)).toNat) pk0).1.x1), N8 ((xs.getD (((i_ : Int)).toNat) pk0).1.x2), N1 ((xs.getD (((i_ : Int)).toNat) pk0).1.x3), N1 ((xs.getD (((i_ : Int)).toNat) pk0).1.x4), N8 ((xs.getD (((i_ : Int)).toNat) pk0).1.x5), N8 ((xs.getD (((i_ : Int)).toNat) pk0).1.x6), N8 ((xs.getD (((i_ : Int)).toNat) pk0).1.x7), N8 ((xs.getD (((i_ : Int)).toNat) pk0).1.x8), N8 ((xs.getD (((i_ : Int)).toNat) pk0).1.x9), N8 ((xs.getD (((i_ : Int)).toNat) pk0).1.y0), N8 ((xs.getD (((i_ : Int)).toNat) pk0).1.y1), N8 ((xs.getD (((i_ : Int)).toNat) pk0).1.y2), .string ((xs.getD (((i_ : Int)).toNat) pk0).2)] at5 ?_
  refine Rn 8 (Qo B142 3737 3) [.blk 1, Qs B142 935, .loop J1, .blk 0, Qs B142 15] ⟨30, [(0, VL A xs.length c), (2, I6 0), (3, VB false), (4, .own 4 0), (7, VL A xs.length c), (8, I6 (xs.length : Int)), (9, I6 (i_ : Int)), (15, I8 ((xs.getD (((i_ : Int)).toNat) pk0).1.x0))], [(4, ⟨214, [VB b0_, VB b1_, VB b2_, VB b3_]⟩)]⟩ ?_
  refine Cg 149 [N8 ((xs.getD (((i_ : Int)).toNat) pk0).1.x0)] 0 (Of_ok ((xs.getD (((i_ : Int)).toNat) pk0).1.x0) _ hox_) ?_
  rintro v6 G6 rows6 hG6 ⟨rfl, rfl⟩
  replace hr := hr.mono hG6.le
  refine Rn 0 (Qo B142 3737 4) [.blk 1, Qs B142 935, .loop J1, .blk 0, Qs B142 15] ⟨30, [(0, VL A xs.length c), (2, I6 0), (3, VB false), (4, .own 4 0), (7, VL A xs.length c), (8, I6 (xs.length : Int)), (9, I6 (i_ : Int)), (16, I6 (((xs.getD (((i_ : Int)).toNat) pk0).1.x0) % 4))], [(4, ⟨214, [VB b0_, VB b1_, VB b2_, VB b3_]⟩)]⟩ ?_
  obtain ⟨k_, hcx_⟩ : ∃ z_, (xs.getD i_ pk0).1.x0 % 4 = z_ := ⟨_, rfl⟩
  refine Kn 16 .i64 k_ rfl hcx_ ?_
  refine Rn 0 (Qo B142 3737 4) [.blk 1, Qs B142 935, .loop J1, .blk 0, Qs B142 15] ⟨30, [(0, VL A xs.length c), (2, I6 0), (3, VB false), (4, .own 4 0), (7, VL A xs.length c), (8, I6 (xs.length : Int)), (9, I6 (i_ : Int)), (16, I6 k_)], [(4, ⟨214, [VB b0_, VB b1_, VB b2_, VB b3_]⟩)]⟩ ?_
  have hcs_ : k_ = 0 ∨ k_ = 1 ∨ k_ = 2 ∨ k_ = 3 := by omega
  rcases hcs_ with rfl | rfl | rfl | rfl
  ·
   refine Rn 7 (Qo B142 935 1) [.loop J1, .blk 0, Qs B142 15] ⟨30, [(0, VL A xs.length c), (2, I6 0), (3, VB false), (4, .own 4 0), (7, VL A xs.length c), (8, I6 (xs.length : Int)), (9, I6 (i_ : Int)), (18, I6 (IntKind.i64.wrap ((i_ : Int) + 1)))], [(4, ⟨214, [VB true, VB b1_, VB b2_, VB b3_]⟩)]⟩ ?_
   refine Kn 18 .i64 ((i_ + 1 : Nat) : Int) rfl (by rw [wi64 (by omega) (by omega)]; push_cast; rfl) ?_
   refine Rn 2 (.ex .normal) [.loop J1, .blk 0, Qs B142 15] ⟨30, [(0, VL A xs.length c), (2, I6 0), (3, VB false), (4, .own 4 0), (7, VL A xs.length c), (8, I6 (xs.length : Int)), (9, I6 ((i_ + 1 : Nat) : Int))], [(4, ⟨214, [VB true, VB b1_, VB b2_, VB b3_]⟩)]⟩ ?_
   exact X.again (hJ1 _ _ _ _ ⟨true, b1_, b2_, b3_, (i_ + 1), rfl, rfl, (hG1.trans hG6), ⟨by omega, had_step (by omega) hb0_ hcx_ (by simp), had_step (by omega) hb1_ hcx_ (by simp), had_step (by omega) hb2_ hcx_ (by simp), had_step (by omega) hb3_ hcx_ (by simp)⟩, rfl⟩ (by omega))
  ·
   refine Rn 7 (Qo B142 935 1) [.loop J1, .blk 0, Qs B142 15] ⟨30, [(0, VL A xs.length c), (2, I6 0), (3, VB false), (4, .own 4 0), (7, VL A xs.length c), (8, I6 (xs.length : Int)), (9, I6 (i_ : Int)), (18, I6 (IntKind.i64.wrap ((i_ : Int) + 1)))], [(4, ⟨214, [VB b0_, VB true, VB b2_, VB b3_]⟩)]⟩ ?_
   refine Kn 18 .i64 ((i_ + 1 : Nat) : Int) rfl (by rw [wi64 (by omega) (by omega)]; push_cast; rfl) ?_
   refine Rn 2 (.ex .normal) [.loop J1, .blk 0, Qs B142 15] ⟨30, [(0, VL A xs.length c), (2, I6 0), (3, VB false), (4, .own 4 0), (7, VL A xs.length c), (8, I6 (xs.length : Int)), (9, I6 ((i_ + 1 : Nat) : Int))], [(4, ⟨214, [VB b0_, VB true, VB b2_, VB b3_]⟩)]⟩ ?_
   exact X.again (hJ1 _ _ _ _ ⟨b0_, true, b2_, b3_, (i_ + 1), rfl, rfl, (hG1.trans hG6), ⟨by omega, had_step (by omega) hb0_ hcx_ (by simp), had_step (by omega) hb1_ hcx_ (by simp), had_step (by omega) hb2_ hcx_ (by simp), had_step (by omega) hb3_ hcx_ (by simp)⟩, rfl⟩ (by omega))
  ·
   refine Rn 7 (Qo B142 935 1) [.loop J1, .blk 0, Qs B142 15] ⟨30, [(0, VL A xs.length c), (2, I6 0), (3, VB false), (4, .own 4 0), (7, VL A xs.length c), (8, I6 (xs.length : Int)), (9, I6 (i_ : Int)), (18, I6 (IntKind.i64.wrap ((i_ : Int) + 1)))], [(4, ⟨214, [VB b0_, VB b1_, VB true, VB b3_]⟩)]⟩ ?_
   refine Kn 18 .i64 ((i_ + 1 : Nat) : Int) rfl (by rw [wi64 (by omega) (by omega)]; push_cast; rfl) ?_
   refine Rn 2 (.ex .normal) [.loop J1, .blk 0, Qs B142 15] ⟨30, [(0, VL A xs.length c), (2, I6 0), (3, VB false), (4, .own 4 0), (7, VL A xs.length c), (8, I6 (xs.length : Int)), (9, I6 ((i_ + 1 : Nat) : Int))], [(4, ⟨214, [VB b0_, VB b1_, VB true, VB b3_]⟩)]⟩ ?_
   exact X.again (hJ1 _ _ _ _ ⟨b0_, b1_, true, b3_, (i_ + 1), rfl, rfl, (hG1.trans hG6), ⟨by omega, had_step (by omega) hb0_ hcx_ (by simp), had_step (by omega) hb1_ hcx_ (by simp), had_step (by omega) hb2_ hcx_ (by simp), had_step (by omega) hb3_ hcx_ (by simp)⟩, rfl⟩ (by omega))
  ·
   refine Rn 7 (Qo B142 935 1) [.loop J1, .blk 0, Qs B142 15] ⟨30, [(0, VL A xs.length c), (2, I6 0), (3, VB false), (4, .own 4 0), (7, VL A xs.length c), (8, I6 (xs.length : Int)), (9, I6 (i_ : Int)), (18, I6 (IntKind.i64.wrap ((i_ : Int) + 1)))], [(4, ⟨214, [VB b0_, VB b1_, VB b2_, VB true]⟩)]⟩ ?_
   refine Kn 18 .i64 ((i_ + 1 : Nat) : Int) rfl (by rw [wi64 (by omega) (by omega)]; push_cast; rfl) ?_
   refine Rn 2 (.ex .normal) [.loop J1, .blk 0, Qs B142 15] ⟨30, [(0, VL A xs.length c), (2, I6 0), (3, VB false), (4, .own 4 0), (7, VL A xs.length c), (8, I6 (xs.length : Int)), (9, I6 ((i_ + 1 : Nat) : Int))], [(4, ⟨214, [VB b0_, VB b1_, VB b2_, VB true]⟩)]⟩ ?_
   exact X.again (hJ1 _ _ _ _ ⟨b0_, b1_, b2_, true, (i_ + 1), rfl, rfl, (hG1.trans hG6), ⟨by omega, had_step (by omega) hb0_ hcx_ (by simp), had_step (by omega) hb1_ hcx_ (by simp), had_step (by omega) hb2_ hcx_ (by simp), had_step (by omega) hb3_ hcx_ (by simp)⟩, rfl⟩ (by omega))
 ·
  replace h2 : ¬ ((i_ : Int) < ((xs.length : Nat) : Int)) := of_decide_eq_false h2
  have hie_ : xs.take i_ = xs := List.take_of_length_le (by omega)
  rw [hie_] at hb0_ hb1_ hb2_ hb3_
  refine Rn 13 (Qc B142 61) [Qs B142 31] ⟨30, [(0, VL A xs.length c), (2, I6 0), (3, VB false), (4, .own 4 0), (20, VB b3_)], [(4, ⟨214, [VB b0_, VB b1_, VB b2_, VB b3_]⟩)]⟩ ?_
  refine X.split 20 rfl (fun h8 => ?_) (fun h8 => ?_)
  ·
   have hc3_ : hadI xs 3 = true := by rw [← hb3_]; exact h8
   refine Rn 2 (Qc B142 244) [Qs B142 245, Qs B142 31] ⟨30, [(0, VL A xs.length c), (2, I6 0), (3, VB false), (4, .own 4 0)], [(4, ⟨214, [VB b0_, VB b1_, VB b2_, VB b3_]⟩)]⟩ ?_
   have hr_d9 := hr
   refine Og 8 B142 244 5 [⟨some 4, 4, 214, [VB b0_, VB b1_, VB b2_, VB b3_]⟩] [] [] ⟨⟨fun _ h => (by cases h; rfl), rfl⟩, trivial⟩ (by intro p hp hn; simp only [List.mem_cons, List.not_mem_nil, or_false] at hp; rcases hp with rfl <;> first | (cases hn; done) | exact absurd _ (Nat.le_of_ble_eq_true rfl)) (fun ρ0 => ?_)
   refine XD.ownIndex (i := 0) (l' := (lb 5 1)) (oA B142 (pa 244) 0) (t := 214) (e := 4) (len := 4) (b := 4) (off := 0) (j := 0) (m := 1) (ki := .i64) (x := .tmp 4) (ix := .const (N6 0)) QOk.ctxG (by kernel_rfl) (by kernel_rfl) (by kernel_rfl) (by kernel_rfl) (by kernel_rfl) (by kernel_rfl) (by kernel_rfl) (by decide) (by kernel_rfl) (by kernel_rfl) ?_
   refine Ts [1, 2, 3, 4] 5 31 0 4 QOk.ctxG ?_
   refine XD.done (by kernel_rfl) ?_
   refine Rn 3 (.ex .ret) [] ⟨30, [(2, I6 3), (3, VB (!b0_))], []⟩ ?_
   refine Dg (.inl rfl) [N6 3, .bool (!b0_)] [] rfl (hG1) ?_
   unfold codeJ fitJ
   rw [if_pos hc3_, if_pos hc3_, ← hb0_]
   exact ⟨rfl, rfl⟩
  ·
   have hc3_ : hadI xs 3 = false := by rw [← hb3_]; exact h8
   refine Rn 6 (Qo B142 62 1) [Qs B142 63] ⟨30, [(2, I6 0), (3, VB false), (24, VL A xs.length c)], []⟩ ?_
   have b10 : (0 : Int) ≤ 0 := by omega
   have b11 : 0 < ((xs.length : Nat) : Int) := by omega
   refine Ix 179 184 14 A xs.length c .i64 0 (.tmp 24) (.const (N6 0)) b10 b11 (fun _ _ => rowAt.so hr (by omega)) ?_
   have at12 := At.pk [] hr 0 (by omega)
   simp only [pkC] at at12
   refine Rn 0 (Qo B142 62 2) [Qs B142 63] ⟨30, [(2, I6 0), (3, VB false), (25, .v (elt A (0 * 14)))], []⟩ ?_
   refine X.field (t := 184) (f := 0) (n := 0) (A := A) (j := 0 * 14) (x := .tmp 25) (by kernel_rfl) (by kernel_rfl) (by kernel_rfl) (by kernel_rfl) ?_
   refine Rn 0 (Qo B142 62 3) [Qs B142 63] ⟨30, [(2, I6 0), (3, VB false), (26, .v (elt A (0 * 14 + 0)))], []⟩ ?_
   refine X.field (t := 113) (f := 0) (n := 0) (A := A) (j := 0 * 14 + 0) (x := .tmp 26) (by kernel_rfl) (by kernel_rfl) (by kernel_rfl) (by kernel_rfl) ?_
   refine Rn 0 (Qo B142 62 4) [Qs B142 63] ⟨30, [(2, I6 0), (3, VB false), (27, .v (elt A (0 * 14 + 0 + 0)))], []⟩ ?_
   refine Ld 5 A (0 * 14 + 0 + 0) (.tmp 27) (N8 ((xs.getD 0 pk0).1.x0)) [N8 ((xs.getD 0 pk0).1.x0)] (at12.part 0 1) ?_
   refine Rn 0 (Qo B142 62 5) [Qs B142 63] ⟨30, [(2, I6 0), (3, VB false), (28, I8 ((xs.getD 0 pk0).1.x0))], []⟩ ?_
   have hoki_ : okP (xs.getD 0 pk0) := hok _ (getD_mem h0)
   refine Cg 149 [N8 ((xs.getD 0 pk0).1.x0)] 0 (Of_ok ((xs.getD 0 pk0).1.x0) _ hoki_.1.h0) ?_
   rintro v13 G13 rows13 hG13 ⟨rfl, rfl⟩
   replace hr := hr.mono hG13.le
   refine Rn 5 (.ex .ret) [] ⟨30, [(2, I6 (((xs.getD 0 pk0).1.x0) % 4)), (3, VB true)], []⟩ ?_
   refine Dg (.inl rfl) [N6 (((xs.getD 0 pk0).1.x0) % 4), .bool true] [] rfl ((hG1.trans hG13)) ?_
   unfold codeJ fitJ
   rw [if_neg (by rw [hc3_]; decide), if_neg (by rw [hc3_]; decide)]
   exact ⟨rfl, rfl⟩
end Go.Proofs.YtjgpdbkkpomhjaaX
