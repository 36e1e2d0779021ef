/- leatlaw13.few, leatref13.Same, segment.Length. Walked; printed by a small program of this session. Conditions: none. -/
import Derived.Test.YtjgpdbkkpomhjaaProg
import Derived.KernelRfl
import Derived.Test.YtjgpdbkkpomhjaaYGL
import Derived.Test.YtjgpdbkkpomhjaaYG3
import Derived.Test.YtjgpdbkkpomhjaaYPA
namespace Go.Proofs.YtjgpdbkkpomhjaaX
open Go.RowKit
open Go.Proofs.YtjgpdbkkpomhjaaW.PrintLast
set_option linter.unusedVariables false
set_option linter.unusedSimpArgs false
set_option maxRecDepth 100000
/-- A text that is not longer than the law's own looks go. -/
def fewD (d : ByteArray) : ByteArray := d.extract 0 (min (d.size : Int) 100).toNat
theorem fewD_size (d : ByteArray) : (fewD d).size ≤ 100 := by
 unfold fewD
 rw [ByteArray.size_extract]
 omega
def lenS (h : Hd) (d : ByteArray) : Int := (d.size : Int) + h.s6 % 2 + h.s6 / 2 % 2
theorem bit1 {f : Int} (hf : 0 ≤ f ∧ f ≤ 255) : (band .u8 f 2 == 2) = decide (f / 2 % 2 = 1) := by
 have := byteAll (p := fun f => (band .u8 f 2 == 2) == decide (f / 2 % 2 = 1)) (by decide +kernel) hf
 simpa using this
theorem bit0 {f : Int} (hf : 0 ≤ f ∧ f ≤ 255) : (band .u8 f 1 == 1) = decide (f % 2 = 1) := by
 have := byteAll (p := fun f => (band .u8 f 1 == 1) == decide (f % 2 = 1)) (by decide +kernel) hf
 simpa using this
/-- leat/leatlaw13.few -/
noncomputable def B65 : Code := bodyOf Try.f65
set_option maxHeartbeats 1000000 in
theorem few_ok (h : Hd) (A : Option Addr) (c : Nat) (xs : List Opt) (d : ByteArray) (G : Mem) (hr : rowAt optD G A xs) (hle : xs.length ≤ c) (hmx : c ≤ maxLen) (hd : d.size ≤ maxLen) : CallsG Try.prog 65 [.agg #[.int .u16 h.s0, .int .u16 h.s1, .int .u32 h.s2, .int .u32 h.s3, .int .u8 h.s4, .int .u8 h.s5, .int .u8 h.s6, .int .u16 h.s7, .int .u16 h.s8, .int .u16 h.s9, .slice A xs.length c, .string d]] G (fun G' v rows => ∃ A' c' cs, v = .agg #[.int .u16 h.s0, .int .u16 h.s1, .int .u32 h.s2, .int .u32 h.s3, .int .u8 h.s4, .int .u8 h.s5, .int .u8 h.s6, .int .u16 h.s7, .int .u16 h.s8, .int .u16 h.s9, .slice A' (fewO xs).length c', .string (fewD d)] ∧ rows = [⟨65, 3, .slice A' (fewO xs).length c', (fewO xs).length, cs⟩] ∧ repsD optD G' (fewO xs) cs) := by
 simp only [maxLen] at hmx hd
 refine CallsG.enter Try.func65 rfl rfl ?_
 intro w
 refine Rn 7 (Qc B65 6) [Qs B65 7] ⟨16, [(1, .own 1 0), (2, .own 2 0)], [(1, ⟨82, [I1 h.s0, I1 h.s1, I3 h.s2, I3 h.s3, I8 h.s4, I8 h.s5, I8 h.s6, I1 h.s7, I1 h.s8, I1 h.s9, VL A xs.length c, VT d]⟩), (2, ⟨82, [I1 0, I1 0, I3 0, I3 0, I8 0, I8 0, I8 0, I1 0, I1 0, I1 0, VL none 0 0, VT ByteArray.empty]⟩)]⟩ ?_
 have hr_d1 := hr
 refine Og 1 B65 6 14 [⟨some 1, 1, 82, [I1 h.s0, I1 h.s1, I3 h.s2, I3 h.s3, I8 h.s4, I8 h.s5, I8 h.s6, I1 h.s7, I1 h.s8, I1 h.s9, VL A xs.length c, VT d]⟩] [] [] ⟨⟨fun _ h => (by cases h; rfl), rfl⟩, trivial⟩ (by intro p hp hn; simp only [List.mem_cons, List.not_mem_nil, or_false] at hp; rcases hp with rfl <;> first | (cases hn; done) | exact absurd _ (Nat.le_of_ble_eq_true rfl)) (fun ρ0 => ?_)
 refine Tk 0 14 1 B65 6 (.own 1 0) QOk.ctxG ?_
 refine Tk 1 14 3 B65 6 (.v (.agg #[N1 h.s0, N1 h.s1, N3 h.s2, N3 h.s3, N8 h.s4, N8 h.s5, N8 h.s6, N1 h.s7, N1 h.s8, N1 h.s9])) QOk.ctxG ?_
 refine Tk 2 14 7 B65 6 (.own 1 10) QOk.ctxG ?_
 refine Tk 3 14 15 B65 6 (VL A xs.length c) QOk.ctxG ?_
 refine Tk 5 14 47 B65 6 (.own 1 11) QOk.ctxG ?_
 refine Tk 6 14 111 B65 6 (VT d) QOk.ctxG ?_
 refine Tk 7 14 239 B65 6 (.own 1 11) QOk.ctxG ?_
 refine Tk 8 14 495 B65 6 (VT d) QOk.ctxG ?_
 refine Tk 9 14 1007 B65 6 (I6 (d.size : Int)) QOk.ctxG ?_
 refine Tk 10 14 2031 B65 6 (I6 (imin (d.size : Int) 100)) QOk.ctxG ?_
 refine Dk 13 .i64 (min (d.size : Int) 100) rfl (by simp only [imin_eq, imax_eq]) ?_
 refine XD.cutStr (i := 11) (l' := (lb 14 4079)) (oA B65 (pa 6) 11) (t := 9) (b := d) (x := .tmp 9) (l0 := none) (h := (some (.tmp 13))) (lv := none) (hv := (some (N6 (min (d.size : Int) 100)))) 0 ((min (d.size : Int) 100).toNat) QOk.ctxG (by kernel_rfl) (by kernel_rfl) (by kernel_rfl) (by kernel_rfl) (by kernel_rfl) (by kernel_rfl) (by kernel_rfl) (by kernel_rfl) (rfl) (⟨_, _, rfl, by omega, rfl⟩) (by omega) (by omega) (by kernel_rfl) ?_
 refine Dn ⟨16, [(1, .own 1 0), (2, .own 2 0), (4, .v (.agg #[N1 h.s0, N1 h.s1, N3 h.s2, N3 h.s3, N8 h.s4, N8 h.s5, N8 h.s6, N1 h.s7, N1 h.s8, N1 h.s9])), (6, VL A xs.length c), (14, VT (d.extract 0 ((min (d.size : Int) 100).toNat)))], [(1, ⟨82, [I1 h.s0, I1 h.s1, I3 h.s2, I3 h.s3, I8 h.s4, I8 h.s5, I8 h.s6, I1 h.s7, I1 h.s8, I1 h.s9, VL A xs.length c, VT d]⟩), (2, ⟨82, [I1 0, I1 0, I3 0, I3 0, I8 0, I8 0, I8 0, I1 0, I1 0, I1 0, VL none 0 0, VT ByteArray.empty]⟩)]⟩ ⟨⟨fun _ h => (by cases h; rfl), rfl⟩, trivial⟩ ?_
 refine Do 4 14 4095 B65 6 ?_
 refine Cg 48 [.slice A xs.length c] 370 (Few_ok A c xs _ hr hle hmx) ?_
 rintro v2 G2 rows2 hG2 ⟨A2, c2, cs2, rfl, rfl, hcs2⟩
 replace hr := hr.mono hG2.le
 refine X.asR (R' := [(370, RR 65 3 A2 ((fewO xs).length) c2 cs2)]) rfl ?_
 refine X.back ⟨⟨⟨fun _ h => (by cases h; rfl), rfl⟩, trivial⟩, hG2.le, rfl, ?_⟩
 refine Ts [12] 14 8191 1 2 QOk.ctxG ?_
 refine Dn ⟨16, [(1, .own 1 0), (2, .own 2 0), (15, .v (.agg #[N1 h.s0, N1 h.s1, N3 h.s2, N3 h.s3, N8 h.s4, N8 h.s5, N8 h.s6, N1 h.s7, N1 h.s8, N1 h.s9, .slice A2 ((fewO xs).length) c2, .string (d.extract 0 ((min (d.size : Int) 100).toNat))]))], [(1, ⟨82, [I1 h.s0, I1 h.s1, I3 h.s2, I3 h.s3, I8 h.s4, I8 h.s5, I8 h.s6, I1 h.s7, I1 h.s8, I1 h.s9, VL A xs.length c, VT d]⟩), (2, ⟨82, [I1 0, I1 0, I3 0, I3 0, I8 0, I8 0, I8 0, I1 0, I1 0, I1 0, VL none 0 0, VT ByteArray.empty]⟩)]⟩ ⟨⟨fun _ h => (by cases h; rfl), rfl⟩, trivial⟩ ?_
 refine Do 13 14 16383 B65 6 ?_
 refine X.simple (by kernel_rfl) ?_
 refine X.back ⟨⟨⟨fun _ h => (by cases h; rfl), rfl⟩, trivial⟩, hG2.le, rfl, ?_⟩
 refine XD.done (by kernel_rfl) ?_
 refine Rn 2 (.ex .ret) [] ⟨16, [(2, .own 2 0)], [(2, ⟨82, [I1 h.s0, I1 h.s1, I3 h.s2, I3 h.s3, I8 h.s4, I8 h.s5, I8 h.s6, I1 h.s7, I1 h.s8, I1 h.s9, VL A2 ((fewO xs).length) c2, VT (d.extract 0 ((min (d.size : Int) 100).toNat))]⟩)]⟩ ?_
 refine Dg (.inl rfl) [.agg #[N1 h.s0, N1 h.s1, N3 h.s2, N3 h.s3, N8 h.s4, N8 h.s5, N8 h.s6, N1 h.s7, N1 h.s8, N1 h.s9, .slice A2 ((fewO xs).length) c2, .string (d.extract 0 ((min (d.size : Int) 100).toNat))]] [370] rfl (hG2) ?_
 exact ⟨_, _, _, rfl, rfl, hcs2⟩
/-- leat/leatref13.Same -/
noncomputable def B63 : Code := bodyOf Try.f63
set_option maxHeartbeats 1000000 in
theorem SameT_ok (h : Hd) (A B : Option Addr) (ca cb : Nat) (xs : List Opt) (d : ByteArray) (G : Mem) (hx : rowAt optD G A xs) (hy : rowAt optD G B xs) (hxc : xs.length ≤ ca) (hyc : xs.length ≤ cb) (hxm : ca ≤ maxLen) (hym : cb ≤ maxLen) : CallsG Try.prog 63 [.agg #[.int .u16 h.s0, .int .u16 h.s1, .int .u32 h.s2, .int .u32 h.s3, .int .u8 h.s4, .int .u8 h.s5, .int .u8 h.s6, .int .u16 h.s7, .int .u16 h.s8, .int .u16 h.s9, .slice A xs.length ca, .string d], .agg #[.int .u16 h.s0, .int .u16 h.s1, .int .u32 h.s2, .int .u32 h.s3, .int .u8 h.s4, .int .u8 h.s5, .int .u8 h.s6, .int .u16 h.s7, .int .u16 h.s8, .int .u16 h.s9, .slice B xs.length cb, .string d]] G (fun _ v rows => v = .bool true ∧ rows = []) := by
 simp only [maxLen] at hxm hym
 refine CallsG.enter Try.func63 rfl rfl ?_
 intro w
 refine Rn 13 (Qo B63 6 4) [Qs B63 7] ⟨24, [(2, .own 2 0), (3, .own 3 0), (4, VB false), (6, .v (.agg #[N1 h.s0, N1 h.s1, N3 h.s2, N3 h.s3, N8 h.s4, N8 h.s5, N8 h.s6, N1 h.s7, N1 h.s8, N1 h.s9])), (8, .v (.agg #[N1 h.s0, N1 h.s1, N3 h.s2, N3 h.s3, N8 h.s4, N8 h.s5, N8 h.s6, N1 h.s7, N1 h.s8, N1 h.s9]))], [(2, ⟨82, [I1 h.s0, I1 h.s1, I3 h.s2, I3 h.s3, I8 h.s4, I8 h.s5, I8 h.s6, I1 h.s7, I1 h.s8, I1 h.s9, VL A xs.length ca, VT d]⟩), (3, ⟨82, [I1 h.s0, I1 h.s1, I3 h.s2, I3 h.s3, I8 h.s4, I8 h.s5, I8 h.s6, I1 h.s7, I1 h.s8, I1 h.s9, VL B xs.length cb, VT d]⟩)]⟩ ?_
 refine X.eqV (t := 31) (t' := 31) (x := .tmp 6) (y := .tmp 8) (xs := #[N1 h.s0, N1 h.s1, N3 h.s2, N3 h.s3, N8 h.s4, N8 h.s5, N8 h.s6, N1 h.s7, N1 h.s8, N1 h.s9]) (ys := #[N1 h.s0, N1 h.s1, N3 h.s2, N3 h.s3, N8 h.s4, N8 h.s5, N8 h.s6, N1 h.s7, N1 h.s8, N1 h.s9]) (b := (((h.s0 : Int) == h.s0) && (((h.s1 : Int) == h.s1) && (((h.s2 : Int) == h.s2) && (((h.s3 : Int) == h.s3) && (((h.s4 : Int) == h.s4) && (((h.s5 : Int) == h.s5) && (((h.s6 : Int) == h.s6) && (((h.s7 : Int) == h.s7) && (((h.s8 : Int) == h.s8) && (((h.s9 : Int) == h.s9) && true))))))))))) (by kernel_rfl) (by kernel_rfl) (by kernel_rfl) (by kernel_rfl) (by kernel_rfl) (by kernel_rfl) ?_
 refine Rn 1 (Qo B63 6 6) [Qs B63 7] ⟨24, [(2, .own 2 0), (3, .own 3 0), (4, VB false), (10, VB (((h.s0 : Int) == h.s0) && (((h.s1 : Int) == h.s1) && (((h.s2 : Int) == h.s2) && (((h.s3 : Int) == h.s3) && (((h.s4 : Int) == h.s4) && (((h.s5 : Int) == h.s5) && (((h.s6 : Int) == h.s6) && (((h.s7 : Int) == h.s7) && (((h.s8 : Int) == h.s8) && (((h.s9 : Int) == h.s9) && true)))))))))))], [(2, ⟨82, [I1 h.s0, I1 h.s1, I3 h.s2, I3 h.s3, I8 h.s4, I8 h.s5, I8 h.s6, I1 h.s7, I1 h.s8, I1 h.s9, VL A xs.length ca, VT d]⟩), (3, ⟨82, [I1 h.s0, I1 h.s1, I3 h.s2, I3 h.s3, I8 h.s4, I8 h.s5, I8 h.s6, I1 h.s7, I1 h.s8, I1 h.s9, VL B xs.length cb, VT d]⟩)]⟩ ?_
 refine X.isTrue 10 rfl (by simp) ?_
 refine Rn 4 (Qo B63 6 10) [Qs B63 7] ⟨24, [(2, .own 2 0), (3, .own 3 0), (4, VB false), (10, VB true), (12, VL A xs.length ca), (14, VL B xs.length cb)], [(2, ⟨82, [I1 h.s0, I1 h.s1, I3 h.s2, I3 h.s3, I8 h.s4, I8 h.s5, I8 h.s6, I1 h.s7, I1 h.s8, I1 h.s9, VL A xs.length ca, VT d]⟩), (3, ⟨82, [I1 h.s0, I1 h.s1, I3 h.s2, I3 h.s3, I8 h.s4, I8 h.s5, I8 h.s6, I1 h.s7, I1 h.s8, I1 h.s9, VL B xs.length cb, VT d]⟩)]⟩ ?_
 refine Cg 60 [.slice A xs.length ca, .slice B xs.length cb] 0 (All_ok A B ca cb xs xs _ hx hy hxc hyc hxm hym) ?_
 rintro v1 G1 rows1 hG1 ⟨rfl, rfl⟩
 replace hx := hx.mono hG1.le
 replace hy := hy.mono hG1.le
 refine Rn 2 (Qo B63 6 13) [Qs B63 7] ⟨24, [(2, .own 2 0), (3, .own 3 0), (4, VB false), (17, VB (decide ((xs : List Opt) = xs)))], [(2, ⟨82, [I1 h.s0, I1 h.s1, I3 h.s2, I3 h.s3, I8 h.s4, I8 h.s5, I8 h.s6, I1 h.s7, I1 h.s8, I1 h.s9, VL A xs.length ca, VT d]⟩), (3, ⟨82, [I1 h.s0, I1 h.s1, I3 h.s2, I3 h.s3, I8 h.s4, I8 h.s5, I8 h.s6, I1 h.s7, I1 h.s8, I1 h.s9, VL B xs.length cb, VT d]⟩)]⟩ ?_
 refine X.isTrue 17 rfl (by simp) ?_
 refine Rn 10 (.ex .ret) [] ⟨24, [(4, VB (d.toList == d.toList))], []⟩ ?_
 refine Dg (.inl rfl) [.bool (d.toList == d.toList)] [] rfl (hG1) ?_
 exact ⟨congrArg Value.bool (by simp), rfl⟩
/-- leat/segment.Length -/
noncomputable def B68 : Code := bodyOf Try.f68
set_option maxHeartbeats 1000000 in
theorem Length_ok (h : Hd) (A : Option Addr) (n c : Nat) (d : ByteArray) (G : Mem) (hf6 : 0 ≤ h.s6 ∧ h.s6 ≤ 255) (hd : d.size ≤ 1000000) : CallsG Try.prog 68 [.agg #[.int .u16 h.s0, .int .u16 h.s1, .int .u32 h.s2, .int .u32 h.s3, .int .u8 h.s4, .int .u8 h.s5, .int .u8 h.s6, .int .u16 h.s7, .int .u16 h.s8, .int .u16 h.s9, .slice A n c, .string d]] G (fun _ v rows => v = .int .i64 (lenS h d) ∧ rows = []) := by
 refine CallsG.enter Try.func68 rfl rfl ?_
 intro w
 refine Rn 22 (Qc B68 58) [.blk 0, Qs B68 15] ⟨21, [(1, .own 1 0), (2, I6 0), (3, I6 (d.size : Int)), (9, .v (.agg #[N8 2, N8 1])), (10, I6 0)], [(1, ⟨82, [I1 h.s0, I1 h.s1, I3 h.s2, I3 h.s3, I8 h.s4, I8 h.s5, I8 h.s6, I1 h.s7, I1 h.s8, I1 h.s9, VL A n c, VT d]⟩)]⟩ ?_
 refine X.rounds 4 ?_
 refine RX.succ fun J1 hJ1 => ?_
 refine Rn 22 (Qo B68 7474 3) [Qs B68 7475, .blk 1, Qs B68 935, .loop J1, .blk 0, Qs B68 15] ⟨21, [(1, .own 1 0), (2, I6 0), (3, I6 (d.size : Int)), (5, I8 2), (9, .v (.agg #[N8 2, N8 1])), (10, I6 0), (11, VB true), (12, I8 2), (13, .own 1 0), (14, .v (.agg #[N1 h.s0, N1 h.s1, N3 h.s2, N3 h.s3, N8 h.s4, N8 h.s5, N8 h.s6, N1 h.s7, N1 h.s8, N1 h.s9])), (15, I8 2)], [(1, ⟨82, [I1 h.s0, I1 h.s1, I3 h.s2, I3 h.s3, I8 h.s4, I8 h.s5, I8 h.s6, I1 h.s7, I1 h.s8, I1 h.s9, VL A n c, VT d]⟩)]⟩ ?_
 refine Cg 37 [.agg #[N1 h.s0, N1 h.s1, N3 h.s2, N3 h.s3, N8 h.s4, N8 h.s5, N8 h.s6, N1 h.s7, N1 h.s8, N1 h.s9], N8 2] 0 (Has_ok h.s0 h.s1 h.s2 h.s3 h.s4 h.s5 h.s6 h.s7 h.s8 h.s9 2 _) ?_
 rintro v2 G2 rows2 hG2 ⟨rfl, rfl⟩
 refine Rn 2 (Qc B68 7475) [.blk 1, Qs B68 935, .loop J1, .blk 0, Qs B68 15] ⟨21, [(1, .own 1 0), (2, I6 0), (3, I6 (d.size : Int)), (5, I8 2), (9, .v (.agg #[N8 2, N8 1])), (10, I6 0), (11, VB true), (12, I8 2), (13, .own 1 0), (14, .v (.agg #[N1 h.s0, N1 h.s1, N3 h.s2, N3 h.s3, N8 h.s4, N8 h.s5, N8 h.s6, N1 h.s7, N1 h.s8, N1 h.s9])), (15, I8 2), (16, VB (band .u8 h.s6 2 == 2))], [(1, ⟨82, [I1 h.s0, I1 h.s1, I3 h.s2, I3 h.s3, I8 h.s4, I8 h.s5, I8 h.s6, I1 h.s7, I1 h.s8, I1 h.s9, VL A n c, VT d]⟩)]⟩ ?_
 refine X.split 16 rfl (fun h3 => ?_) (fun h3 => ?_)
 ·
  replace h3 : band .u8 h.s6 2 = 2 := by simpa using h3
  refine Rn 4 (Qo B68 14950 2) [.blk 1, Qs B68 935, .loop J1, .blk 0, Qs B68 15] ⟨21, [(1, .own 1 0), (2, I6 0), (3, I6 (d.size : Int)), (5, I8 2), (9, .v (.agg #[N8 2, N8 1])), (10, I6 0), (11, VB true), (12, I8 2), (13, .own 1 0), (14, .v (.agg #[N1 h.s0, N1 h.s1, N3 h.s2, N3 h.s3, N8 h.s4, N8 h.s5, N8 h.s6, N1 h.s7, N1 h.s8, N1 h.s9])), (15, I8 2), (16, VB true), (17, I6 (d.size : Int)), (18, I6 (IntKind.i64.wrap ((d.size : Int) + 1)))], [(1, ⟨82, [I1 h.s0, I1 h.s1, I3 h.s2, I3 h.s3, I8 h.s4, I8 h.s5, I8 h.s6, I1 h.s7, I1 h.s8, I1 h.s9, VL A n c, VT d]⟩)]⟩ ?_
  refine Kn 18 .i64 ((d.size : Int) + 1) rfl (wi64 (by omega) (by omega)) ?_
  refine Rn 8 (.ex .normal) [.loop J1, .blk 0, Qs B68 15] ⟨21, [(1, .own 1 0), (2, I6 0), (3, I6 ((d.size : Int) + 1)), (5, I8 2), (9, .v (.agg #[N8 2, N8 1])), (10, I6 1), (11, VB true), (12, I8 2), (13, .own 1 0), (14, .v (.agg #[N1 h.s0, N1 h.s1, N3 h.s2, N3 h.s3, N8 h.s4, N8 h.s5, N8 h.s6, N1 h.s7, N1 h.s8, N1 h.s9])), (15, I8 2), (16, VB true), (17, I6 (d.size : Int)), (18, I6 ((d.size : Int) + 1)), (19, I6 1)], [(1, ⟨82, [I1 h.s0, I1 h.s1, I3 h.s2, I3 h.s3, I8 h.s4, I8 h.s5, I8 h.s6, I1 h.s7, I1 h.s8, I1 h.s9, VL A n c, VT d]⟩)]⟩ ?_
  refine X.again (hJ1 _ _ _ ?_)
  refine RX.succ fun J4 hJ4 => ?_
  refine Rn 22 (Qo B68 7474 3) [Qs B68 7475, .blk 1, Qs B68 935, .loop J4, .blk 0, Qs B68 15] ⟨21, [(1, .own 1 0), (2, I6 0), (3, I6 ((d.size : Int) + 1)), (5, I8 1), (9, .v (.agg #[N8 2, N8 1])), (10, I6 1), (11, VB true), (12, I8 1), (13, .own 1 0), (14, .v (.agg #[N1 h.s0, N1 h.s1, N3 h.s2, N3 h.s3, N8 h.s4, N8 h.s5, N8 h.s6, N1 h.s7, N1 h.s8, N1 h.s9])), (15, I8 1), (16, VB true), (17, I6 (d.size : Int)), (18, I6 ((d.size : Int) + 1)), (19, I6 1)], [(1, ⟨82, [I1 h.s0, I1 h.s1, I3 h.s2, I3 h.s3, I8 h.s4, I8 h.s5, I8 h.s6, I1 h.s7, I1 h.s8, I1 h.s9, VL A n c, VT d]⟩)]⟩ ?_
  refine Cg 37 [.agg #[N1 h.s0, N1 h.s1, N3 h.s2, N3 h.s3, N8 h.s4, N8 h.s5, N8 h.s6, N1 h.s7, N1 h.s8, N1 h.s9], N8 1] 0 (Has_ok h.s0 h.s1 h.s2 h.s3 h.s4 h.s5 h.s6 h.s7 h.s8 h.s9 1 _) ?_
  rintro v5 G5 rows5 hG5 ⟨rfl, rfl⟩
  refine Rn 2 (Qc B68 7475) [.blk 1, Qs B68 935, .loop J4, .blk 0, Qs B68 15] ⟨21, [(1, .own 1 0), (2, I6 0), (3, I6 ((d.size : Int) + 1)), (5, I8 1), (9, .v (.agg #[N8 2, N8 1])), (10, I6 1), (11, VB true), (12, I8 1), (13, .own 1 0), (14, .v (.agg #[N1 h.s0, N1 h.s1, N3 h.s2, N3 h.s3, N8 h.s4, N8 h.s5, N8 h.s6, N1 h.s7, N1 h.s8, N1 h.s9])), (15, I8 1), (16, VB (band .u8 h.s6 1 == 1)), (17, I6 (d.size : Int)), (18, I6 ((d.size : Int) + 1)), (19, I6 1)], [(1, ⟨82, [I1 h.s0, I1 h.s1, I3 h.s2, I3 h.s3, I8 h.s4, I8 h.s5, I8 h.s6, I1 h.s7, I1 h.s8, I1 h.s9, VL A n c, VT d]⟩)]⟩ ?_
  refine X.split 16 rfl (fun h6 => ?_) (fun h6 => ?_)
  ·
   replace h6 : band .u8 h.s6 1 = 1 := by simpa using h6
   refine Rn 4 (Qo B68 14950 2) [.blk 1, Qs B68 935, .loop J4, .blk 0, Qs B68 15] ⟨21, [(1, .own 1 0), (2, I6 0), (3, I6 ((d.size : Int) + 1)), (5, I8 1), (9, .v (.agg #[N8 2, N8 1])), (10, I6 1), (11, VB true), (12, I8 1), (13, .own 1 0), (14, .v (.agg #[N1 h.s0, N1 h.s1, N3 h.s2, N3 h.s3, N8 h.s4, N8 h.s5, N8 h.s6, N1 h.s7, N1 h.s8, N1 h.s9])), (15, I8 1), (16, VB true), (17, I6 ((d.size : Int) + 1)), (18, I6 (IntKind.i64.wrap (((d.size : Int) + 1) + 1))), (19, I6 1)], [(1, ⟨82, [I1 h.s0, I1 h.s1, I3 h.s2, I3 h.s3, I8 h.s4, I8 h.s5, I8 h.s6, I1 h.s7, I1 h.s8, I1 h.s9, VL A n c, VT d]⟩)]⟩ ?_
   refine Kn 18 .i64 (((d.size : Int) + 1) + 1) rfl (wi64 (by omega) (by omega)) ?_
   refine Rn 8 (.ex .normal) [.loop J4, .blk 0, Qs B68 15] ⟨21, [(1, .own 1 0), (2, I6 0), (3, I6 (((d.size : Int) + 1) + 1)), (5, I8 1), (9, .v (.agg #[N8 2, N8 1])), (10, I6 2), (11, VB true), (12, I8 1), (13, .own 1 0), (14, .v (.agg #[N1 h.s0, N1 h.s1, N3 h.s2, N3 h.s3, N8 h.s4, N8 h.s5, N8 h.s6, N1 h.s7, N1 h.s8, N1 h.s9])), (15, I8 1), (16, VB true), (17, I6 ((d.size : Int) + 1)), (18, I6 (((d.size : Int) + 1) + 1)), (19, I6 2)], [(1, ⟨82, [I1 h.s0, I1 h.s1, I3 h.s2, I3 h.s3, I8 h.s4, I8 h.s5, I8 h.s6, I1 h.s7, I1 h.s8, I1 h.s9, VL A n c, VT d]⟩)]⟩ ?_
   refine X.again (hJ4 _ _ _ ?_)
   refine RX.succ fun J7 hJ7 => ?_
   refine Rn 19 (.ex .ret) [] ⟨21, [(2, I6 (((d.size : Int) + 1) + 1))], []⟩ ?_
   refine Dg (.inl rfl) [N6 (((d.size : Int) + 1) + 1)] [] rfl ((hG2.trans hG5)) ?_
   have e1_ := bit1 hf6
   have e0_ := bit0 hf6
   rw [show band .u8 h.s6 2 = 2 by assumption] at e1_
   rw [show band .u8 h.s6 1 = 1 by assumption] at e0_
   have f1_ := e1_.symm
   have f0_ := e0_.symm
   simp at f1_ f0_
   exact ⟨congrArg (Value.int .i64) (by unfold lenS; omega), rfl⟩
  ·
   replace h6 : band .u8 h.s6 1 ≠ 1 := by simpa using h6
   refine Rn 8 (.ex .normal) [.loop J4, .blk 0, Qs B68 15] ⟨21, [(1, .own 1 0), (2, I6 0), (3, I6 ((d.size : Int) + 1)), (5, I8 1), (9, .v (.agg #[N8 2, N8 1])), (10, I6 2), (11, VB true), (12, I8 1), (13, .own 1 0), (14, .v (.agg #[N1 h.s0, N1 h.s1, N3 h.s2, N3 h.s3, N8 h.s4, N8 h.s5, N8 h.s6, N1 h.s7, N1 h.s8, N1 h.s9])), (15, I8 1), (16, VB false), (17, I6 (d.size : Int)), (18, I6 ((d.size : Int) + 1)), (19, I6 2)], [(1, ⟨82, [I1 h.s0, I1 h.s1, I3 h.s2, I3 h.s3, I8 h.s4, I8 h.s5, I8 h.s6, I1 h.s7, I1 h.s8, I1 h.s9, VL A n c, VT d]⟩)]⟩ ?_
   refine X.again (hJ4 _ _ _ ?_)
   refine RX.succ fun J8 hJ8 => ?_
   refine Rn 19 (.ex .ret) [] ⟨21, [(2, I6 ((d.size : Int) + 1))], []⟩ ?_
   refine Dg (.inl rfl) [N6 ((d.size : Int) + 1)] [] rfl ((hG2.trans hG5)) ?_
   have e1_ := bit1 hf6
   have e0_ := bit0 hf6
   rw [show band .u8 h.s6 2 = 2 by assumption] at e1_
   rw [show (band .u8 h.s6 1 == 1) = false by simpa using (show ¬ band .u8 h.s6 1 = 1 by assumption)] at e0_
   have f1_ := e1_.symm
   have f0_ := e0_.symm
   simp at f1_ f0_
   exact ⟨congrArg (Value.int .i64) (by unfold lenS; omega), rfl⟩
 ·
  replace h3 : band .u8 h.s6 2 ≠ 2 := by simpa using h3
  refine Rn 8 (.ex .normal) [.loop J1, .blk 0, Qs B68 15] ⟨21, [(1, .own 1 0), (2, I6 0), (3, I6 (d.size : Int)), (5, I8 2), (9, .v (.agg #[N8 2, N8 1])), (10, I6 1), (11, VB true), (12, I8 2), (13, .own 1 0), (14, .v (.agg #[N1 h.s0, N1 h.s1, N3 h.s2, N3 h.s3, N8 h.s4, N8 h.s5, N8 h.s6, N1 h.s7, N1 h.s8, N1 h.s9])), (15, I8 2), (16, VB false), (19, I6 1)], [(1, ⟨82, [I1 h.s0, I1 h.s1, I3 h.s2, I3 h.s3, I8 h.s4, I8 h.s5, I8 h.s6, I1 h.s7, I1 h.s8, I1 h.s9, VL A n c, VT d]⟩)]⟩ ?_
  refine X.again (hJ1 _ _ _ ?_)
  refine RX.succ fun J9 hJ9 => ?_
  refine Rn 22 (Qo B68 7474 3) [Qs B68 7475, .blk 1, Qs B68 935, .loop J9, .blk 0, Qs B68 15] ⟨21, [(1, .own 1 0), (2, I6 0), (3, I6 (d.size : Int)), (5, I8 1), (9, .v (.agg #[N8 2, N8 1])), (10, I6 1), (11, VB true), (12, I8 1), (13, .own 1 0), (14, .v (.agg #[N1 h.s0, N1 h.s1, N3 h.s2, N3 h.s3, N8 h.s4, N8 h.s5, N8 h.s6, N1 h.s7, N1 h.s8, N1 h.s9])), (15, I8 1), (16, VB false), (19, I6 1)], [(1, ⟨82, [I1 h.s0, I1 h.s1, I3 h.s2, I3 h.s3, I8 h.s4, I8 h.s5, I8 h.s6, I1 h.s7, I1 h.s8, I1 h.s9, VL A n c, VT d]⟩)]⟩ ?_
  refine Cg 37 [.agg #[N1 h.s0, N1 h.s1, N3 h.s2, N3 h.s3, N8 h.s4, N8 h.s5, N8 h.s6, N1 h.s7, N1 h.s8, N1 h.s9], N8 1] 0 (Has_ok h.s0 h.s1 h.s2 h.s3 h.s4 h.s5 h.s6 h.s7 h.s8 h.s9 1 _) ?_
  rintro v10 G10 rows10 hG10 ⟨rfl, rfl⟩
  refine Rn 2 (Qc B68 7475) [.blk 1, Qs B68 935, .loop J9, .blk 0, Qs B68 15] ⟨21, [(1, .own 1 0), (2, I6 0), (3, I6 (d.size : Int)), (5, I8 1), (9, .v (.agg #[N8 2, N8 1])), (10, I6 1), (11, VB true), (12, I8 1), (13, .own 1 0), (14, .v (.agg #[N1 h.s0, N1 h.s1, N3 h.s2, N3 h.s3, N8 h.s4, N8 h.s5, N8 h.s6, N1 h.s7, N1 h.s8, N1 h.s9])), (15, I8 1), (16, VB (band .u8 h.s6 1 == 1)), (19, I6 1)], [(1, ⟨82, [I1 h.s0, I1 h.s1, I3 h.s2, I3 h.s3, I8 h.s4, I8 h.s5, I8 h.s6, I1 h.s7, I1 h.s8, I1 h.s9, VL A n c, VT d]⟩)]⟩ ?_
  refine X.split 16 rfl (fun h11 => ?_) (fun h11 => ?_)
  ·
   replace h11 : band .u8 h.s6 1 = 1 := by simpa using h11
   refine Rn 4 (Qo B68 14950 2) [.blk 1, Qs B68 935, .loop J9, .blk 0, Qs B68 15] ⟨21, [(1, .own 1 0), (2, I6 0), (3, I6 (d.size : Int)), (5, I8 1), (9, .v (.agg #[N8 2, N8 1])), (10, I6 1), (11, VB true), (12, I8 1), (13, .own 1 0), (14, .v (.agg #[N1 h.s0, N1 h.s1, N3 h.s2, N3 h.s3, N8 h.s4, N8 h.s5, N8 h.s6, N1 h.s7, N1 h.s8, N1 h.s9])), (15, I8 1), (16, VB true), (17, I6 (d.size : Int)), (18, I6 (IntKind.i64.wrap ((d.size : Int) + 1))), (19, I6 1)], [(1, ⟨82, [I1 h.s0, I1 h.s1, I3 h.s2, I3 h.s3, I8 h.s4, I8 h.s5, I8 h.s6, I1 h.s7, I1 h.s8, I1 h.s9, VL A n c, VT d]⟩)]⟩ ?_
   refine Kn 18 .i64 ((d.size : Int) + 1) rfl (wi64 (by omega) (by omega)) ?_
   refine Rn 8 (.ex .normal) [.loop J9, .blk 0, Qs B68 15] ⟨21, [(1, .own 1 0), (2, I6 0), (3, I6 ((d.size : Int) + 1)), (5, I8 1), (9, .v (.agg #[N8 2, N8 1])), (10, I6 2), (11, VB true), (12, I8 1), (13, .own 1 0), (14, .v (.agg #[N1 h.s0, N1 h.s1, N3 h.s2, N3 h.s3, N8 h.s4, N8 h.s5, N8 h.s6, N1 h.s7, N1 h.s8, N1 h.s9])), (15, I8 1), (16, VB true), (17, I6 (d.size : Int)), (18, I6 ((d.size : Int) + 1)), (19, I6 2)], [(1, ⟨82, [I1 h.s0, I1 h.s1, I3 h.s2, I3 h.s3, I8 h.s4, I8 h.s5, I8 h.s6, I1 h.s7, I1 h.s8, I1 h.s9, VL A n c, VT d]⟩)]⟩ ?_
   refine X.again (hJ9 _ _ _ ?_)
   refine RX.succ fun J12 hJ12 => ?_
   refine Rn 19 (.ex .ret) [] ⟨21, [(2, I6 ((d.size : Int) + 1))], []⟩ ?_
   refine Dg (.inl rfl) [N6 ((d.size : Int) + 1)] [] rfl ((hG2.trans hG10)) ?_
   have e1_ := bit1 hf6
   have e0_ := bit0 hf6
   rw [show (band .u8 h.s6 2 == 2) = false by simpa using (show ¬ band .u8 h.s6 2 = 2 by assumption)] at e1_
   rw [show band .u8 h.s6 1 = 1 by assumption] at e0_
   have f1_ := e1_.symm
   have f0_ := e0_.symm
   simp at f1_ f0_
   exact ⟨congrArg (Value.int .i64) (by unfold lenS; omega), rfl⟩
  ·
   replace h11 : band .u8 h.s6 1 ≠ 1 := by simpa using h11
   refine Rn 8 (.ex .normal) [.loop J9, .blk 0, Qs B68 15] ⟨21, [(1, .own 1 0), (2, I6 0), (3, I6 (d.size : Int)), (5, I8 1), (9, .v (.agg #[N8 2, N8 1])), (10, I6 2), (11, VB true), (12, I8 1), (13, .own 1 0), (14, .v (.agg #[N1 h.s0, N1 h.s1, N3 h.s2, N3 h.s3, N8 h.s4, N8 h.s5, N8 h.s6, N1 h.s7, N1 h.s8, N1 h.s9])), (15, I8 1), (16, VB false), (19, I6 2)], [(1, ⟨82, [I1 h.s0, I1 h.s1, I3 h.s2, I3 h.s3, I8 h.s4, I8 h.s5, I8 h.s6, I1 h.s7, I1 h.s8, I1 h.s9, VL A n c, VT d]⟩)]⟩ ?_
   refine X.again (hJ9 _ _ _ ?_)
   refine RX.succ fun J13 hJ13 => ?_
   refine Rn 19 (.ex .ret) [] ⟨21, [(2, I6 (d.size : Int))], []⟩ ?_
   refine Dg (.inl rfl) [N6 (d.size : Int)] [] rfl ((hG2.trans hG10)) ?_
   have e1_ := bit1 hf6
   have e0_ := bit0 hf6
   rw [show (band .u8 h.s6 2 == 2) = false by simpa using (show ¬ band .u8 h.s6 2 = 2 by assumption)] at e1_
   rw [show (band .u8 h.s6 1 == 1) = false by simpa using (show ¬ band .u8 h.s6 1 = 1 by assumption)] at e0_
   have f1_ := e1_.symm
   have f0_ := e0_.symm
   simp at f1_ f0_
   exact ⟨congrArg (Value.int .i64) (by unfold lenS; omega), rfl⟩
end Go.Proofs.YtjgpdbkkpomhjaaX
