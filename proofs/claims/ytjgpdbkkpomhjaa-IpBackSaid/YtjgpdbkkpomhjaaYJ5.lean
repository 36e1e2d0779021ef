/- ip.Decode. Walked; printed by a small program of this session. Conditions: none. -/
import Derived.Test.YtjgpdbkkpomhjaaProg
import Derived.KernelRfl
import Derived.Test.YtjgpdbkkpomhjaaYJ4
namespace Go.Proofs.YtjgpdbkkpomhjaaX
open Go.RowKit
open Go.Proofs.YtjgpdbkkpomhjaaW.PrintLast
set_option linter.unusedVariables false
set_option linter.unusedSimpArgs false
set_option maxRecDepth 100000
/-- leat/ip.Decode-1 -/
noncomputable def B134 : Code := bodyOf Try.f134
/-- leat/ip.Decode -/
noncomputable def B80 : Code := bodyOf Try.f80
set_option maxHeartbeats 1000000 in
theorem DecI_ok (A : Option Addr) (c : Nat) (b : List Int) (G : Mem) (hb : rowAt (D.int .u8) G A b) (hle : b.length ≤ c) (hmx : c ≤ maxLen) : CallsG Try.prog 80 [.slice A b.length c] G (fun _ v rows => v = .tuple #[.agg #[.int .u8 ((decI b).1.1.x0), .int .u8 ((decI b).1.1.x1), .int .u8 ((decI b).1.1.x2), .int .u16 ((decI b).1.1.x3), .int .u16 ((decI b).1.1.x4), .int .u8 ((decI b).1.1.x5), .int .u8 ((decI b).1.1.x6), .int .u8 ((decI b).1.1.x7), .int .u8 ((decI b).1.1.x8), .int .u8 ((decI b).1.1.x9), .int .u8 ((decI b).1.1.y0), .int .u8 ((decI b).1.1.y1), .int .u8 ((decI b).1.1.y2)], .string (decI b).1.2, .int .i64 (decI b).2] ∧ rows = []) := by
 simp only [maxLen] at hmx
 have hby_ : isBytes b := row_bytes hb
 have hg_ : ∀ i, 0 ≤ b.getD i 0 ∧ b.getD i 0 ≤ 255 := getD_byte hby_
 refine CallsG.enter Try.func80 rfl rfl ?_
 intro w
 refine Rn 16 (Qc B80 13) [Qs B80 7] ⟨73, [(1, .own 1 0), (2, .own 2 0), (3, VT (⟨#[]⟩ : ByteArray)), (4, I6 0), (10, VB (decide ((b.length : Int) < 20)))], [(1, ⟨22, [VL A b.length c]⟩), (2, ⟨113, [I8 0, I8 0, I8 0, I1 0, I1 0, I8 0, I8 0, I8 0, I8 0, I8 0, I8 0, I8 0, I8 0]⟩)]⟩ ?_
 refine X.split 10 rfl (fun h1 => ?_) (fun h1 => ?_)
 ·
  replace h1 : ((b.length : Nat) : Int) < 20 := of_decide_eq_true h1
  have hs_ : (b.length < 20) := by omega
  refine Rn 11 (.ex .ret) [] ⟨73, [(2, .own 2 0), (3, VT (⟨#[]⟩ : ByteArray)), (4, I6 3)], [(2, ⟨113, [I8 0, I8 0, I8 0, I1 0, I1 0, I8 0, I8 0, I8 0, I8 0, I8 0, I8 0, I8 0, I8 0]⟩)]⟩ ?_
  refine Dg (.inl rfl) [.agg #[N8 0, N8 0, N8 0, N1 0, N1 0, N8 0, N8 0, N8 0, N8 0, N8 0, N8 0, N8 0, N8 0], .string (⟨#[]⟩ : ByteArray), N6 3] [] rfl (Ge.refl _ _) ?_
  rw [decI_short hs_]
  exact ⟨rfl, rfl⟩
 ·
  replace h1 : ¬ (((b.length : Nat) : Int) < 20) := of_decide_eq_false h1
  have hs_ : ¬ (b.length < 20) := by omega
  refine Rn 12 (Qo B80 30 1) [Qs B80 31] ⟨73, [(1, .own 1 0), (2, .own 2 0), (3, VT (⟨#[]⟩ : ByteArray)), (4, I6 0), (5, .fn 134 [(1, 0)]), (13, .fn 134 [(1, 0)])], [(1, ⟨22, [VL A b.length c]⟩), (2, ⟨113, [I8 0, I8 0, I8 0, I1 0, I1 0, I8 0, I8 0, I8 0, I8 0, I8 0, I8 0, I8 0, I8 0]⟩)]⟩ ?_
  refine X.inline (f := 134) (l := [I6 2, .own 1 0]) (fn := Try.f134) (c := B134) (by kernel_rfl) (by kernel_rfl) Try.func134 (by kernel_rfl) ?_
  intro Q2 M2 hM2 hQ2 fin2
  refine Rn 6 (Qc B134 6) [Qs B134 7] ⟨17, [(0, I6 2), (1, .own 1001 0), (3, I1 0)], [(1001, ⟨22, [VL A b.length c]⟩), (1002, ⟨113, [I8 0, I8 0, I8 0, I1 0, I1 0, I8 0, I8 0, I8 0, I8 0, I8 0, I8 0, I8 0, I8 0]⟩)]⟩ ?_
  have hb_d3 := hb
  refine Og 1 B134 6 14 [⟨some 1, 1001, 22, [VL A b.length c]⟩] [] [] ⟨⟨fun _ h => (by cases h; rfl), rfl⟩, trivial⟩ (by intro p hp hn; simp only [List.mem_cons, List.not_mem_nil, or_false] at hp; rcases hp with rfl <;> first | (cases hn; done) | exact hM2 _ (Nat.le_of_ble_eq_true rfl)) (fun ρ0 => ?_)
  refine Tk 0 14 1 B134 6 (VL A b.length c) hQ2 ?_
  refine Tk 1 14 3 B134 6 (I6 2) hQ2 ?_
  have b4 : (0 : Int) ≤ 2 := by omega
  have b5 : 2 < ((b.length : Nat) : Int) := by omega
  obtain ⟨at6, lo6, hi6⟩ := At.int [] hb_d3 2 (by omega)
  simp only [IntKind.lo, IntKind.hi] at lo6 hi6
  refine Dx 2 14 7 B134 6 22 5 1 A b.length c .i64 2 (.tmp 4) (.tmp 5) hQ2 b4 b5 (fun _ _ => rowAt.so hb_d3 (by omega)) ?_
  refine Dl 3 14 15 B134 6 5 A (2 * 1) (.tmp 6) (N8 (b.getD 2 0)) [N8 (b.getD 2 0)] hQ2 at6 ?_
  refine Tk 4 14 31 B134 6 (I1 (IntKind.u16.wrap (b.getD 2 0))) hQ2 ?_
  refine Tk 5 14 63 B134 6 (I1 (bshl .u16 (IntKind.u16.wrap (b.getD 2 0)) 8)) hQ2 ?_
  refine Tk 6 14 127 B134 6 (VL A b.length c) hQ2 ?_
  refine Tk 7 14 255 B134 6 (I6 2) hQ2 ?_
  refine Tk 8 14 511 B134 6 (I6 3) hQ2 ?_
  have b7 : (0 : Int) ≤ 3 := by omega
  have b8 : 3 < ((b.length : Nat) : Int) := by omega
  obtain ⟨at9, lo9, hi9⟩ := At.int [] hb_d3 3 (by omega)
  simp only [IntKind.lo, IntKind.hi] at lo9 hi9
  refine Dx 9 14 1023 B134 6 22 5 1 A b.length c .i64 3 (.tmp 10) (.tmp 12) hQ2 b7 b8 (fun _ _ => rowAt.so hb_d3 (by omega)) ?_
  refine Dl 10 14 2047 B134 6 5 A (3 * 1) (.tmp 13) (N8 (b.getD 3 0)) [N8 (b.getD 3 0)] hQ2 at9 ?_
  refine Tk 11 14 4095 B134 6 (I1 (IntKind.u16.wrap (b.getD 3 0))) hQ2 ?_
  refine Tk 12 14 8191 B134 6 (I1 (bor .u16 (bshl .u16 (IntKind.u16.wrap (b.getD 2 0)) 8) (IntKind.u16.wrap (b.getD 3 0)))) hQ2 ?_
  refine Dk 16 .u16 ((b.getD 2 0) * 256 + (b.getD 3 0)) rfl (or16 (by omega) (by omega)) ?_
  refine Ts [13] 14 16383 0 1 hQ2 ?_
  refine XD.done (by kernel_rfl) ?_
  refine Rn 2 (.ex .ret) [] ⟨17, [(3, I1 ((b.getD 2 0) * 256 + (b.getD 3 0)))], [(1001, ⟨22, [VL A b.length c]⟩), (1002, ⟨113, [I8 0, I8 0, I8 0, I1 0, I1 0, I8 0, I8 0, I8 0, I8 0, I8 0, I8 0, I8 0, I8 0]⟩)]⟩ ?_
  refine fin2 _ _ _ _ [N1 ((b.getD 2 0) * 256 + (b.getD 3 0))] [(1, ⟨22, [VL A b.length c]⟩), (2, ⟨113, [I8 0, I8 0, I8 0, I1 0, I1 0, I8 0, I8 0, I8 0, I8 0, I8 0, I8 0, I8 0, I8 0]⟩)] (.inl rfl) (by kernel_rfl) (by kernel_rfl) ?_
  refine Rn 1 (Qo B80 30 3) [Qs B80 31] ⟨73, [(1, .own 1 0), (2, .own 2 0), (3, VT (⟨#[]⟩ : ByteArray)), (4, I6 0), (5, .fn 134 [(1, 0)]), (15, I6 (IntKind.i64.wrap ((b.getD 2 0) * 256 + (b.getD 3 0))))], [(1, ⟨22, [VL A b.length c]⟩), (2, ⟨113, [I8 0, I8 0, I8 0, I1 0, I1 0, I8 0, I8 0, I8 0, I8 0, I8 0, I8 0, I8 0, I8 0]⟩)]⟩ ?_
  refine Kn 15 .i64 ((b.getD 2 0) * 256 + (b.getD 3 0)) rfl (wi64 (by omega) (by omega)) ?_
  refine Rn 4 (Qc B80 62) [Qs B80 63] ⟨73, [(1, .own 1 0), (2, .own 2 0), (3, VT (⟨#[]⟩ : ByteArray)), (4, I6 0), (5, .fn 134 [(1, 0)]), (6, I6 ((b.getD 2 0) * 256 + (b.getD 3 0)))], [(1, ⟨22, [VL A b.length c]⟩), (2, ⟨113, [I8 0, I8 0, I8 0, I1 0, I1 0, I8 0, I8 0, I8 0, I8 0, I8 0, I8 0, I8 0, I8 0]⟩)]⟩ ?_
  have hb_d10 := hb
  refine Og 5 B80 62 24 [⟨some 1, 1, 22, [VL A b.length c]⟩] [] [] ⟨⟨fun _ h => (by cases h; rfl), rfl⟩, trivial⟩ (by intro p hp hn; simp only [List.mem_cons, List.not_mem_nil, or_false] at hp; rcases hp with rfl <;> first | (cases hn; done) | exact absurd _ (Nat.le_of_ble_eq_true rfl)) (fun ρ0 => ?_)
  refine Tk 0 24 1 B80 62 (VL A b.length c) QOk.ctxG ?_
  have b11 : (0 : Int) ≤ 1 := by omega
  have b12 : 1 < ((b.length : Nat) : Int) := by omega
  obtain ⟨at13, lo13, hi13⟩ := At.int [] hb_d10 1 (by omega)
  simp only [IntKind.lo, IntKind.hi] at lo13 hi13
  refine Dx 1 24 3 B80 62 22 5 1 A b.length c .i64 1 (.tmp 16) (.const (N6 1)) QOk.ctxG b11 b12 (fun _ _ => rowAt.so hb_d10 (by omega)) ?_
  refine Dl 2 24 7 B80 62 5 A (1 * 1) (.tmp 17) (N8 (b.getD 1 0)) [N8 (b.getD 1 0)] QOk.ctxG at13 ?_
  refine Tk 3 24 15 B80 62 (.fn 134 [(1, 0)]) QOk.ctxG ?_
  refine Tk 5 24 47 B80 62 (.fn 134 [(1, 0)]) QOk.ctxG ?_
  refine Tk 7 24 175 B80 62 (VL A b.length c) QOk.ctxG ?_
  have b14 : (0 : Int) ≤ 8 := by omega
  have b15 : 8 < ((b.length : Nat) : Int) := by omega
  obtain ⟨at16, lo16, hi16⟩ := At.int [] hb_d10 8 (by omega)
  simp only [IntKind.lo, IntKind.hi] at lo16 hi16
  refine Dx 8 24 431 B80 62 22 5 1 A b.length c .i64 8 (.tmp 23) (.const (N6 8)) QOk.ctxG b14 b15 (fun _ _ => rowAt.so hb_d10 (by omega)) ?_
  refine Dl 9 24 943 B80 62 5 A (8 * 1) (.tmp 24) (N8 (b.getD 8 0)) [N8 (b.getD 8 0)] QOk.ctxG at16 ?_
  refine Tk 10 24 1967 B80 62 (VL A b.length c) QOk.ctxG ?_
  have b17 : (0 : Int) ≤ 9 := by omega
  have b18 : 9 < ((b.length : Nat) : Int) := by omega
  obtain ⟨at19, lo19, hi19⟩ := At.int [] hb_d10 9 (by omega)
  simp only [IntKind.lo, IntKind.hi] at lo19 hi19
  refine Dx 11 24 4015 B80 62 22 5 1 A b.length c .i64 9 (.tmp 26) (.const (N6 9)) QOk.ctxG b17 b18 (fun _ _ => rowAt.so hb_d10 (by omega)) ?_
  refine Dl 12 24 8111 B80 62 5 A (9 * 1) (.tmp 27) (N8 (b.getD 9 0)) [N8 (b.getD 9 0)] QOk.ctxG at19 ?_
  refine Tk 13 24 16303 B80 62 (VL A b.length c) QOk.ctxG ?_
  have hlo20 : 12 ≤ 16 := by omega
  have hhi20 : 16 ≤ b.length := by omega
  refine XD.cut (i := 14) (l' := (lb 24 32687)) (o := (oA B80 (pa 62) 14)) (t := 22) (e := 5) (sz := 1) (n := b.length) (c := c) (A := A) (x := .tmp 29) (l0 := (some (.const (N6 12)))) (h := (some (.const (N6 16)))) (lv := (some (N6 12))) (hv := (some (N6 16))) 12 16 QOk.ctxG (by kernel_rfl) (by kernel_rfl) (by kernel_rfl) (by kernel_rfl) (by kernel_rfl) (by kernel_rfl) (by kernel_rfl) (by kernel_rfl) (by kernel_rfl) (⟨_, _, rfl, by omega, rfl⟩) (⟨_, _, rfl, by omega, rfl⟩) hlo20 (Nat.le_trans hhi20 hle) (by kernel_rfl) ?_
  obtain ⟨A20, hA20⟩ : ∃ A_, cutA A c 12 1 = A_ := ⟨_, rfl⟩
  obtain ⟨ys20, hys20⟩ : ∃ l_, (b.take 16).drop 12 = l_ := ⟨_, rfl⟩
  have hr20 : rowAt (D.int .u8) G (cutA A c 12 1) ((b.take 16).drop 12) := rowAt_cut hb hlo20 hhi20 hle
  have hl20 : 16 - 12 = ys20.length := by rw [← hys20, List.length_drop, List.length_take]; omega
  have hc20 : ys20.length ≤ c - 12 := by omega
  have hm20 : c - 12 ≤ maxLen := Nat.le_trans (Nat.sub_le _ _) hmx
  rw [hys20, show cutA A c 12 _ = A20 from hA20] at hr20
  rw [hA20, hl20]
  refine XD.s2a (i := 15) (l' := (lb 24 65455)) (o := (oA B80 (pa 62) 15)) (t := 55) (len := 4) (e := 5) (n := ys20.length) (c := c - 12) (A := A20) (x := .tmp 30) QOk.ctxG (by kernel_rfl) (by kernel_rfl) (by kernel_rfl) (by kernel_rfl) (by kernel_rfl) (by kernel_rfl) (by kernel_rfl) (by omega) (fun _ _ => rowAt.so hr20 (by omega)) ?_
  refine Dl 16 24 130991 B80 62 55 A20 0 (.tmp 31) (.agg #[N8 (b.getD 12 0), N8 (b.getD 13 0), N8 (b.getD 14 0), N8 (b.getD 15 0)]) [N8 (b.getD 12 0), N8 (b.getD 13 0), N8 (b.getD 14 0), N8 (b.getD 15 0)] QOk.ctxG (At.fourC hys20 _ hr20 (by omega)) ?_
  refine Tk 17 24 262063 B80 62 (VL A b.length c) QOk.ctxG ?_
  have hlo21 : 16 ≤ 20 := by omega
  have hhi21 : 20 ≤ b.length := by omega
  refine XD.cut (i := 18) (l' := (lb 24 524207)) (o := (oA B80 (pa 62) 18)) (t := 22) (e := 5) (sz := 1) (n := b.length) (c := c) (A := A) (x := .tmp 33) (l0 := (some (.const (N6 16)))) (h := (some (.const (N6 20)))) (lv := (some (N6 16))) (hv := (some (N6 20))) 16 20 QOk.ctxG (by kernel_rfl) (by kernel_rfl) (by kernel_rfl) (by kernel_rfl) (by kernel_rfl) (by kernel_rfl) (by kernel_rfl) (by kernel_rfl) (by kernel_rfl) (⟨_, _, rfl, by omega, rfl⟩) (⟨_, _, rfl, by omega, rfl⟩) hlo21 (Nat.le_trans hhi21 hle) (by kernel_rfl) ?_
  obtain ⟨A21, hA21⟩ : ∃ A_, cutA A c 16 1 = A_ := ⟨_, rfl⟩
  obtain ⟨ys21, hys21⟩ : ∃ l_, (b.take 20).drop 16 = l_ := ⟨_, rfl⟩
  have hr21 : rowAt (D.int .u8) G (cutA A c 16 1) ((b.take 20).drop 16) := rowAt_cut hb hlo21 hhi21 hle
  have hl21 : 20 - 16 = ys21.length := by rw [← hys21, List.length_drop, List.length_take]; omega
  have hc21 : ys21.length ≤ c - 16 := by omega
  have hm21 : c - 16 ≤ maxLen := Nat.le_trans (Nat.sub_le _ _) hmx
  rw [hys21, show cutA A c 16 _ = A21 from hA21] at hr21
  rw [hA21, hl21]
  refine XD.s2a (i := 19) (l' := (lb 24 1048495)) (o := (oA B80 (pa 62) 19)) (t := 55) (len := 4) (e := 5) (n := ys21.length) (c := c - 16) (A := A21) (x := .tmp 34) QOk.ctxG (by kernel_rfl) (by kernel_rfl) (by kernel_rfl) (by kernel_rfl) (by kernel_rfl) (by kernel_rfl) (by kernel_rfl) (by omega) (fun _ _ => rowAt.so hr21 (by omega)) ?_
  refine Dl 20 24 2097071 B80 62 55 A21 0 (.tmp 35) (.agg #[N8 (b.getD 16 0), N8 (b.getD 17 0), N8 (b.getD 18 0), N8 (b.getD 19 0)]) [N8 (b.getD 16 0), N8 (b.getD 17 0), N8 (b.getD 18 0), N8 (b.getD 19 0)] QOk.ctxG (At.fourC hys21 _ hr21 (by omega)) ?_
  refine XD.joinA (α := Unit) (fun x_ => ⟨73, [(1, .own 1 0), (2, .own 2 0), (3, VT (⟨#[]⟩ : ByteArray)), (4, I6 0), (6, I6 ((b.getD 2 0) * 256 + (b.getD 3 0))), (7, .own 7 0), (37, .v (.agg #[N8 (b.getD 1 0), N8 (b.getD 8 0), N8 (b.getD 9 0), N1 ((b.getD 4 0) * 256 + (b.getD 5 0)), N1 ((b.getD 6 0) * 256 + (b.getD 7 0)), N8 (b.getD 12 0), N8 (b.getD 13 0), N8 (b.getD 14 0), N8 (b.getD 15 0), N8 (b.getD 16 0), N8 (b.getD 17 0), N8 (b.getD 18 0), N8 (b.getD 19 0)]))], [(1, ⟨22, [VL A b.length c]⟩), (2, ⟨113, [I8 0, I8 0, I8 0, I1 0, I1 0, I8 0, I8 0, I8 0, I8 0, I8 0, I8 0, I8 0, I8 0]⟩), (7, ⟨113, [I8 0, I8 0, I8 0, I1 0, I1 0, I8 0, I8 0, I8 0, I8 0, I8 0, I8 0, I8 0, I8 0]⟩)]⟩) (fun x_ => []) (lb 24 8388607) 1 ?_ fun hL21_8388607 => ?_
  ·
   rintro _ G10422 hG10422
   replace hb := hb.mono hG10422.le
   replace hr20 := hr20.mono hG10422.le
   replace hr21 := hr21.mono hG10422.le
   refine Dn ⟨73, [(1, .own 1 0), (2, .own 2 0), (3, VT (⟨#[]⟩ : ByteArray)), (4, I6 0), (6, I6 ((b.getD 2 0) * 256 + (b.getD 3 0))), (7, .own 7 0), (37, .v (.agg #[N8 (b.getD 1 0), N8 (b.getD 8 0), N8 (b.getD 9 0), N1 ((b.getD 4 0) * 256 + (b.getD 5 0)), N1 ((b.getD 6 0) * 256 + (b.getD 7 0)), N8 (b.getD 12 0), N8 (b.getD 13 0), N8 (b.getD 14 0), N8 (b.getD 15 0), N8 (b.getD 16 0), N8 (b.getD 17 0), N8 (b.getD 18 0), N8 (b.getD 19 0)]))], [(1, ⟨22, [VL A b.length c]⟩), (2, ⟨113, [I8 0, I8 0, I8 0, I1 0, I1 0, I8 0, I8 0, I8 0, I8 0, I8 0, I8 0, I8 0, I8 0]⟩), (7, ⟨113, [I8 0, I8 0, I8 0, I1 0, I1 0, I8 0, I8 0, I8 0, I8 0, I8 0, I8 0, I8 0, I8 0]⟩)]⟩ ⟨⟨fun _ h => (by cases h; rfl), rfl⟩, trivial⟩ ?_
   refine XD.rows [] (R' := []) rfl rfl ?_
   refine Dn ⟨73, [(1, .own 1 0), (2, .own 2 0), (3, VT (⟨#[]⟩ : ByteArray)), (4, I6 0), (6, I6 ((b.getD 2 0) * 256 + (b.getD 3 0))), (7, .own 7 0), (37, .v (.agg #[N8 (b.getD 1 0), N8 (b.getD 8 0), N8 (b.getD 9 0), N1 ((b.getD 4 0) * 256 + (b.getD 5 0)), N1 ((b.getD 6 0) * 256 + (b.getD 7 0)), N8 (b.getD 12 0), N8 (b.getD 13 0), N8 (b.getD 14 0), N8 (b.getD 15 0), N8 (b.getD 16 0), N8 (b.getD 17 0), N8 (b.getD 18 0), N8 (b.getD 19 0)]))], [(1, ⟨22, [VL A b.length c]⟩), (2, ⟨113, [I8 0, I8 0, I8 0, I1 0, I1 0, I8 0, I8 0, I8 0, I8 0, I8 0, I8 0, I8 0, I8 0]⟩), (7, ⟨113, [I8 0, I8 0, I8 0, I1 0, I1 0, I8 0, I8 0, I8 0, I8 0, I8 0, I8 0, I8 0, I8 0]⟩)]⟩ ⟨⟨fun _ h => (by cases h; rfl), rfl⟩, trivial⟩ ?_
   refine Do 23 24 16777215 B80 62 ?_
   refine X.simple (by kernel_rfl) ?_
   refine X.back ⟨⟨⟨fun _ h => (by cases h; rfl), rfl⟩, trivial⟩, hG10422.le, rfl, ?_⟩
   refine XD.done (by kernel_rfl) ?_
   refine Rn 6 (Qo B80 504 1) [Qs B80 505, .blk 0, Qs B80 127] ⟨73, [(1, .own 1 0), (2, .own 2 0), (3, VT (⟨#[]⟩ : ByteArray)), (4, I6 0), (6, I6 ((b.getD 2 0) * 256 + (b.getD 3 0))), (7, .own 7 0), (39, VL A b.length c)], [(1, ⟨22, [VL A b.length c]⟩), (2, ⟨113, [I8 0, I8 0, I8 0, I1 0, I1 0, I8 0, I8 0, I8 0, I8 0, I8 0, I8 0, I8 0, I8 0]⟩), (7, ⟨113, [I8 (b.getD 1 0), I8 (b.getD 8 0), I8 (b.getD 9 0), I1 ((b.getD 4 0) * 256 + (b.getD 5 0)), I1 ((b.getD 6 0) * 256 + (b.getD 7 0)), I8 (b.getD 12 0), I8 (b.getD 13 0), I8 (b.getD 14 0), I8 (b.getD 15 0), I8 (b.getD 16 0), I8 (b.getD 17 0), I8 (b.getD 18 0), I8 (b.getD 19 0)]⟩)]⟩ ?_
   have b10422 : (0 : Int) ≤ 0 := by omega
   have b10423 : 0 < ((b.length : Nat) : Int) := by omega
   refine Ix 22 5 1 A b.length c .i64 0 (.tmp 39) (.const (N6 0)) b10422 b10423 (fun _ _ => rowAt.so hb (by omega)) ?_
   obtain ⟨at10424, lo10424, hi10424⟩ := At.int [] hb 0 (by omega)
   simp only [IntKind.lo, IntKind.hi] at lo10424 hi10424
   refine Rn 0 (Qo B80 504 2) [Qs B80 505, .blk 0, Qs B80 127] ⟨73, [(1, .own 1 0), (2, .own 2 0), (3, VT (⟨#[]⟩ : ByteArray)), (4, I6 0), (6, I6 ((b.getD 2 0) * 256 + (b.getD 3 0))), (7, .own 7 0), (40, .v (elt A (0 * 1)))], [(1, ⟨22, [VL A b.length c]⟩), (2, ⟨113, [I8 0, I8 0, I8 0, I1 0, I1 0, I8 0, I8 0, I8 0, I8 0, I8 0, I8 0, I8 0, I8 0]⟩), (7, ⟨113, [I8 (b.getD 1 0), I8 (b.getD 8 0), I8 (b.getD 9 0), I1 ((b.getD 4 0) * 256 + (b.getD 5 0)), I1 ((b.getD 6 0) * 256 + (b.getD 7 0)), I8 (b.getD 12 0), I8 (b.getD 13 0), I8 (b.getD 14 0), I8 (b.getD 15 0), I8 (b.getD 16 0), I8 (b.getD 17 0), I8 (b.getD 18 0), I8 (b.getD 19 0)]⟩)]⟩ ?_
   refine Ld 5 A (0 * 1) (.tmp 40) (N8 (b.getD 0 0)) [N8 (b.getD 0 0)] at10424 ?_
   refine Rn 2 (Qo B80 504 5) [Qs B80 505, .blk 0, Qs B80 127] ⟨73, [(1, .own 1 0), (2, .own 2 0), (3, VT (⟨#[]⟩ : ByteArray)), (4, I6 0), (6, I6 ((b.getD 2 0) * 256 + (b.getD 3 0))), (7, .own 7 0), (43, VB ((b.getD 0 0) != 69))], [(1, ⟨22, [VL A b.length c]⟩), (2, ⟨113, [I8 0, I8 0, I8 0, I1 0, I1 0, I8 0, I8 0, I8 0, I8 0, I8 0, I8 0, I8 0, I8 0]⟩), (7, ⟨113, [I8 (b.getD 1 0), I8 (b.getD 8 0), I8 (b.getD 9 0), I1 ((b.getD 4 0) * 256 + (b.getD 5 0)), I1 ((b.getD 6 0) * 256 + (b.getD 7 0)), I8 (b.getD 12 0), I8 (b.getD 13 0), I8 (b.getD 14 0), I8 (b.getD 15 0), I8 (b.getD 16 0), I8 (b.getD 17 0), I8 (b.getD 18 0), I8 (b.getD 19 0)]⟩)]⟩ ?_
   refine X.split 43 rfl (fun h10425 => ?_) (fun h10425 => ?_)
   ·
    replace h10425 : (b.getD 0 0) ≠ 69 := by simpa using h10425
    have hf_ : b.getD 0 0 ≠ 69 ∨ totI b < 20 := .inl h10425
    refine Rn 18 (.ex .ret) [] ⟨73, [(2, .own 2 0), (3, VT (⟨#[]⟩ : ByteArray)), (4, I6 5)], [(2, ⟨113, [I8 0, I8 0, I8 0, I1 0, I1 0, I8 0, I8 0, I8 0, I8 0, I8 0, I8 0, I8 0, I8 0]⟩)]⟩ ?_
    refine Dg (.inl rfl) [.agg #[N8 0, N8 0, N8 0, N1 0, N1 0, N8 0, N8 0, N8 0, N8 0, N8 0, N8 0, N8 0, N8 0], .string (⟨#[]⟩ : ByteArray), N6 5] [] rfl (hG10422) ?_
    rw [decI_form hs_ hf_]
    exact ⟨rfl, rfl⟩
   ·
    replace h10425 : (b.getD 0 0) = 69 := by simpa using h10425
    refine Rn 6 (Qc B80 505) [.blk 0, Qs B80 127] ⟨73, [(1, .own 1 0), (2, .own 2 0), (3, VT (⟨#[]⟩ : ByteArray)), (4, I6 0), (6, I6 ((b.getD 2 0) * 256 + (b.getD 3 0))), (7, .own 7 0), (38, VB (decide ((b.getD 2 0) * 256 + (b.getD 3 0) < 20)))], [(1, ⟨22, [VL A b.length c]⟩), (2, ⟨113, [I8 0, I8 0, I8 0, I1 0, I1 0, I8 0, I8 0, I8 0, I8 0, I8 0, I8 0, I8 0, I8 0]⟩), (7, ⟨113, [I8 (b.getD 1 0), I8 (b.getD 8 0), I8 (b.getD 9 0), I1 ((b.getD 4 0) * 256 + (b.getD 5 0)), I1 ((b.getD 6 0) * 256 + (b.getD 7 0)), I8 (b.getD 12 0), I8 (b.getD 13 0), I8 (b.getD 14 0), I8 (b.getD 15 0), I8 (b.getD 16 0), I8 (b.getD 17 0), I8 (b.getD 18 0), I8 (b.getD 19 0)]⟩)]⟩ ?_
    refine X.split 38 rfl (fun h10426 => ?_) (fun h10426 => ?_)
    ·
     replace h10426 : (b.getD 2 0) * 256 + (b.getD 3 0) < 20 := of_decide_eq_true h10426
     have hf_ : (b.getD 0 0 ≠ 69 ∨ totI b < 20) := by unfold totI; omega
     refine Rn 12 (.ex .ret) [] ⟨73, [(2, .own 2 0), (3, VT (⟨#[]⟩ : ByteArray)), (4, I6 5)], [(2, ⟨113, [I8 0, I8 0, I8 0, I1 0, I1 0, I8 0, I8 0, I8 0, I8 0, I8 0, I8 0, I8 0, I8 0]⟩)]⟩ ?_
     refine Dg (.inl rfl) [.agg #[N8 0, N8 0, N8 0, N1 0, N1 0, N8 0, N8 0, N8 0, N8 0, N8 0, N8 0, N8 0, N8 0], .string (⟨#[]⟩ : ByteArray), N6 5] [] rfl (hG10422) ?_
     rw [decI_form hs_ hf_]
     exact ⟨rfl, rfl⟩
    ·
     replace h10426 : ¬ ((b.getD 2 0) * 256 + (b.getD 3 0) < 20) := of_decide_eq_false h10426
     have hf_ : ¬ (b.getD 0 0 ≠ 69 ∨ totI b < 20) := by unfold totI; omega
     refine Rn 10 (Qc B80 2023) [.blk 0, Qs B80 127] ⟨73, [(1, .own 1 0), (2, .own 2 0), (3, VT (⟨#[]⟩ : ByteArray)), (4, I6 0), (6, I6 ((b.getD 2 0) * 256 + (b.getD 3 0))), (7, .own 7 0), (48, VB (decide ((b.getD 2 0) * 256 + (b.getD 3 0) > (b.length : Int))))], [(1, ⟨22, [VL A b.length c]⟩), (2, ⟨113, [I8 0, I8 0, I8 0, I1 0, I1 0, I8 0, I8 0, I8 0, I8 0, I8 0, I8 0, I8 0, I8 0]⟩), (7, ⟨113, [I8 (b.getD 1 0), I8 (b.getD 8 0), I8 (b.getD 9 0), I1 ((b.getD 4 0) * 256 + (b.getD 5 0)), I1 ((b.getD 6 0) * 256 + (b.getD 7 0)), I8 (b.getD 12 0), I8 (b.getD 13 0), I8 (b.getD 14 0), I8 (b.getD 15 0), I8 (b.getD 16 0), I8 (b.getD 17 0), I8 (b.getD 18 0), I8 (b.getD 19 0)]⟩)]⟩ ?_
     refine X.split 48 rfl (fun h10427 => ?_) (fun h10427 => ?_)
     ·
      replace h10427 : (b.getD 2 0) * 256 + (b.getD 3 0) > ((b.length : Nat) : Int) := of_decide_eq_true h10427
      have hc_ : ((b.length : Int) < totI b) := by unfold totI; omega
      refine Rn 12 (.ex .ret) [] ⟨73, [(2, .own 2 0), (3, VT (⟨#[]⟩ : ByteArray)), (4, I6 3)], [(2, ⟨113, [I8 0, I8 0, I8 0, I1 0, I1 0, I8 0, I8 0, I8 0, I8 0, I8 0, I8 0, I8 0, I8 0]⟩)]⟩ ?_
      refine Dg (.inl rfl) [.agg #[N8 0, N8 0, N8 0, N1 0, N1 0, N8 0, N8 0, N8 0, N8 0, N8 0, N8 0, N8 0, N8 0], .string (⟨#[]⟩ : ByteArray), N6 3] [] rfl (hG10422) ?_
      rw [decI_cut hs_ hf_ hc_]
      exact ⟨rfl, rfl⟩
     ·
      replace h10427 : ¬ ((b.getD 2 0) * 256 + (b.getD 3 0) > ((b.length : Nat) : Int)) := of_decide_eq_false h10427
      have hc_ : ¬ ((b.length : Int) < totI b) := by unfold totI; omega
      refine Rn 4 (Qo B80 8094 1) [Qs B80 8095, .blk 0, Qs B80 127] ⟨73, [(1, .own 1 0), (2, .own 2 0), (3, VT (⟨#[]⟩ : ByteArray)), (4, I6 0), (6, I6 ((b.getD 2 0) * 256 + (b.getD 3 0))), (7, .own 7 0), (55, VL A b.length c)], [(1, ⟨22, [VL A b.length c]⟩), (2, ⟨113, [I8 0, I8 0, I8 0, I1 0, I1 0, I8 0, I8 0, I8 0, I8 0, I8 0, I8 0, I8 0, I8 0]⟩), (7, ⟨113, [I8 (b.getD 1 0), I8 (b.getD 8 0), I8 (b.getD 9 0), I1 ((b.getD 4 0) * 256 + (b.getD 5 0)), I1 ((b.getD 6 0) * 256 + (b.getD 7 0)), I8 (b.getD 12 0), I8 (b.getD 13 0), I8 (b.getD 14 0), I8 (b.getD 15 0), I8 (b.getD 16 0), I8 (b.getD 17 0), I8 (b.getD 18 0), I8 (b.getD 19 0)]⟩)]⟩ ?_
      have hlo10428 : 0 ≤ 20 := by omega
      have hhi10428 : 20 ≤ b.length := by omega
      refine X.cutM (t := 22) (e := 5) (sz := 1) (n := b.length) (c := c) (A := A) (x := .tmp 55) (h := .const (N6 20)) (z := .const (N6 20)) (l := none) (lv := none) (hv := N6 20) (zv := N6 20) 0 20 20 hlo10428 (Nat.le_refl _) (Nat.le_trans hhi10428 hle) (rfl) (⟨_, _, rfl, by omega, rfl⟩) (⟨_, _, rfl, by omega, rfl⟩) ?_
      have hr10428 : rowAt (D.int .u8) G10422 (cutA A 20 0 1) ((b.take 20).drop 0) := rowAt_cutM hb hlo10428 (by omega) (Nat.le_refl _)
      obtain ⟨A10428, hA10428⟩ : ∃ A_, cutA A 20 0 1 = A_ := ⟨_, rfl⟩
      obtain ⟨ys10428, hys10428⟩ : ∃ l_, (b.take 20).drop 0 = l_ := ⟨_, rfl⟩
      have hl10428 : 20 - 0 = ys10428.length := by rw [← hys10428, List.length_drop, List.length_take]; omega
      have hc10428 : ys10428.length ≤ ys10428.length := Nat.le_refl _
      have hm10428 : ys10428.length ≤ maxLen := by simp only [maxLen] at *; omega
      rw [hA10428, hys10428] at hr10428
      rw [hA10428, hl10428]
      refine Rn 0 (Qo B80 8094 2) [Qs B80 8095, .blk 0, Qs B80 127] ⟨73, [(1, .own 1 0), (2, .own 2 0), (3, VT (⟨#[]⟩ : ByteArray)), (4, I6 0), (6, I6 ((b.getD 2 0) * 256 + (b.getD 3 0))), (7, .own 7 0), (56, VL A10428 ys10428.length ys10428.length)], [(1, ⟨22, [VL A b.length c]⟩), (2, ⟨113, [I8 0, I8 0, I8 0, I1 0, I1 0, I8 0, I8 0, I8 0, I8 0, I8 0, I8 0, I8 0, I8 0]⟩), (7, ⟨113, [I8 (b.getD 1 0), I8 (b.getD 8 0), I8 (b.getD 9 0), I1 ((b.getD 4 0) * 256 + (b.getD 5 0)), I1 ((b.getD 6 0) * 256 + (b.getD 7 0)), I8 (b.getD 12 0), I8 (b.getD 13 0), I8 (b.getD 14 0), I8 (b.getD 15 0), I8 (b.getD 16 0), I8 (b.getD 17 0), I8 (b.getD 18 0), I8 (b.getD 19 0)]⟩)]⟩ ?_
      refine Lt 57 22 1 1 [.slice A10428 ys10428.length ys10428.length] ?_
      intro A10429
      refine Rn 0 (Qo B80 8094 3) [Qs B80 8095, .blk 0, Qs B80 127] ⟨73, [(1, .own 1 0), (2, .own 2 0), (3, VT (⟨#[]⟩ : ByteArray)), (4, I6 0), (6, I6 ((b.getD 2 0) * 256 + (b.getD 3 0))), (7, .own 7 0), (57, VL A10429 1 1)], [(1, ⟨22, [VL A b.length c]⟩), (2, ⟨113, [I8 0, I8 0, I8 0, I1 0, I1 0, I8 0, I8 0, I8 0, I8 0, I8 0, I8 0, I8 0, I8 0]⟩), (7, ⟨113, [I8 (b.getD 1 0), I8 (b.getD 8 0), I8 (b.getD 9 0), I1 ((b.getD 4 0) * 256 + (b.getD 5 0)), I1 ((b.getD 6 0) * 256 + (b.getD 7 0)), I8 (b.getD 12 0), I8 (b.getD 13 0), I8 (b.getD 14 0), I8 (b.getD 15 0), I8 (b.getD 16 0), I8 (b.getD 17 0), I8 (b.getD 18 0), I8 (b.getD 19 0)]⟩)]⟩ ?_
      refine X.callV (f := 30) (l := [VL A10429 1 1]) (Q := fun v_ => v_ = .bool (cks ([ys10428]).flatten == 0)) [.slice A10429 1 1] (by kernel_rfl) (by kernel_rfl) (by kernel_rfl) (fun G1_ hl_ hr_ => (Verify_ok _ _ [ys10428] G1_ (rowLit (hr_ 57 _ rfl) (⟨_, _, rfl, rep_sliceN rfl hc10428 hm10428 (hr10428.mono hl_), rfl⟩) (by decide)) (by simp) (by have h_ := wsum_le (l := ys10428) (fun x_ hx_ => row_bytes hr10428 x_ hx_) 20 (by omega); simp only [List.flatten_cons, List.flatten_nil, List.append_nil]; omega)).mono (fun _ _ _ _ h_ => h_.1)) ?_
      rintro _ rfl
      refine X.known 58 (y := VB (cks (b.take 20) == 0)) rfl (by rw [← hys10428]; simp only [List.flatten_cons, List.flatten_nil, List.append_nil, List.drop_zero]) ?_
      refine Rn 4 (Qc B80 8095) [.blk 0, Qs B80 127] ⟨73, [(1, .own 1 0), (2, .own 2 0), (3, VT (⟨#[]⟩ : ByteArray)), (4, I6 0), (6, I6 ((b.getD 2 0) * 256 + (b.getD 3 0))), (7, .own 7 0), (54, VB (!(cks (b.take 20) == 0)))], [(1, ⟨22, [VL A b.length c]⟩), (2, ⟨113, [I8 0, I8 0, I8 0, I1 0, I1 0, I8 0, I8 0, I8 0, I8 0, I8 0, I8 0, I8 0, I8 0]⟩), (7, ⟨113, [I8 (b.getD 1 0), I8 (b.getD 8 0), I8 (b.getD 9 0), I1 ((b.getD 4 0) * 256 + (b.getD 5 0)), I1 ((b.getD 6 0) * 256 + (b.getD 7 0)), I8 (b.getD 12 0), I8 (b.getD 13 0), I8 (b.getD 14 0), I8 (b.getD 15 0), I8 (b.getD 16 0), I8 (b.getD 17 0), I8 (b.getD 18 0), I8 (b.getD 19 0)]⟩)]⟩ ?_
      refine X.split 54 rfl (fun h10430 => ?_) (fun h10430 => ?_)
      ·
       replace h10430 : (cks (b.take 20) == 0) = false := by first | (simpa using h10430; done) | (have h_ := congrArg (fun b_ => !b_) h10430; simpa only [Bool.not_not, Bool.not_true, Bool.not_false] using h_)
       replace h10430 : cks (b.take 20) ≠ 0 := by simpa using h10430
       have hk_ : cks (b.take 20) ≠ 0 := by have h_ := h10430; simpa using h_
       refine Rn 12 (.ex .ret) [] ⟨73, [(2, .own 2 0), (3, VT (⟨#[]⟩ : ByteArray)), (4, I6 6)], [(2, ⟨113, [I8 0, I8 0, I8 0, I1 0, I1 0, I8 0, I8 0, I8 0, I8 0, I8 0, I8 0, I8 0, I8 0]⟩)]⟩ ?_
       refine Dg (.inl rfl) [.agg #[N8 0, N8 0, N8 0, N1 0, N1 0, N8 0, N8 0, N8 0, N8 0, N8 0, N8 0, N8 0, N8 0], .string (⟨#[]⟩ : ByteArray), N6 6] [] rfl (hG10422) ?_
       rw [decI_sum hs_ hf_ hc_ hk_]
       exact ⟨rfl, rfl⟩
      ·
       replace h10430 : (cks (b.take 20) == 0) = true := by first | (simpa using h10430; done) | (have h_ := congrArg (fun b_ => !b_) h10430; simpa only [Bool.not_not, Bool.not_true, Bool.not_false] using h_)
       replace h10430 : cks (b.take 20) = 0 := by simpa using h10430
       have hk_ : cks (b.take 20) = 0 := by have h_ := h10430; simpa using h_
       refine Rn 10 (Qc B80 32383) [.blk 0, Qs B80 127] ⟨73, [(1, .own 1 0), (2, .own 2 0), (3, VT (⟨#[]⟩ : ByteArray)), (4, I6 0), (6, I6 ((b.getD 2 0) * 256 + (b.getD 3 0))), (7, .own 7 0), (61, VB ((band .u16 ((b.getD 6 0) * 256 + (b.getD 7 0)) 32768) != 0))], [(1, ⟨22, [VL A b.length c]⟩), (2, ⟨113, [I8 0, I8 0, I8 0, I1 0, I1 0, I8 0, I8 0, I8 0, I8 0, I8 0, I8 0, I8 0, I8 0]⟩), (7, ⟨113, [I8 (b.getD 1 0), I8 (b.getD 8 0), I8 (b.getD 9 0), I1 ((b.getD 4 0) * 256 + (b.getD 5 0)), I1 ((b.getD 6 0) * 256 + (b.getD 7 0)), I8 (b.getD 12 0), I8 (b.getD 13 0), I8 (b.getD 14 0), I8 (b.getD 15 0), I8 (b.getD 16 0), I8 (b.getD 17 0), I8 (b.getD 18 0), I8 (b.getD 19 0)]⟩)]⟩ ?_
       refine X.split 61 rfl (fun h10431 => ?_) (fun h10431 => ?_)
       ·
        replace h10431 : (band .u16 ((b.getD 6 0) * 256 + (b.getD 7 0)) 32768) ≠ 0 := by simpa using h10431
        have hx_ : (32768 ≤ fragI b) := by have h6_ := hg_ 6; have h7_ := hg_ 7; have h_ := bit_none (n := b.getD 6 0 * 256 + b.getD 7 0) (by omega); unfold fragI; omega
        refine Rn 12 (.ex .ret) [] ⟨73, [(2, .own 2 0), (3, VT (⟨#[]⟩ : ByteArray)), (4, I6 5)], [(2, ⟨113, [I8 0, I8 0, I8 0, I1 0, I1 0, I8 0, I8 0, I8 0, I8 0, I8 0, I8 0, I8 0, I8 0]⟩)]⟩ ?_
        refine Dg (.inl rfl) [.agg #[N8 0, N8 0, N8 0, N1 0, N1 0, N8 0, N8 0, N8 0, N8 0, N8 0, N8 0, N8 0, N8 0], .string (⟨#[]⟩ : ByteArray), N6 5] [] rfl (hG10422) ?_
        rw [decI_flag hs_ hf_ hc_ hk_ hx_]
        exact ⟨rfl, rfl⟩
       ·
        replace h10431 : (band .u16 ((b.getD 6 0) * 256 + (b.getD 7 0)) 32768) = 0 := by simpa using h10431
        have hx_ : ¬ (32768 ≤ fragI b) := by have h6_ := hg_ 6; have h7_ := hg_ 7; have h_ := bit_none (n := b.getD 6 0 * 256 + b.getD 7 0) (by omega); unfold fragI; omega
        refine Rn 5 (Qc B80 254) [Qs B80 255] ⟨73, [(1, .own 1 0), (2, .own 2 0), (3, VT (⟨#[]⟩ : ByteArray)), (4, I6 0), (6, I6 ((b.getD 2 0) * 256 + (b.getD 3 0))), (7, .own 7 0)], [(1, ⟨22, [VL A b.length c]⟩), (2, ⟨113, [I8 0, I8 0, I8 0, I1 0, I1 0, I8 0, I8 0, I8 0, I8 0, I8 0, I8 0, I8 0, I8 0]⟩), (7, ⟨113, [I8 (b.getD 1 0), I8 (b.getD 8 0), I8 (b.getD 9 0), I1 ((b.getD 4 0) * 256 + (b.getD 5 0)), I1 ((b.getD 6 0) * 256 + (b.getD 7 0)), I8 (b.getD 12 0), I8 (b.getD 13 0), I8 (b.getD 14 0), I8 (b.getD 15 0), I8 (b.getD 16 0), I8 (b.getD 17 0), I8 (b.getD 18 0), I8 (b.getD 19 0)]⟩)]⟩ ?_
        have hb_d10432 := hb
        have hr20_d10432 := hr20
        have hr21_d10432 := hr21
        have hr10428_d10432 := hr10428
        refine Og 14 B80 254 9 [⟨some 1, 1, 22, [VL A b.length c]⟩, ⟨some 7, 7, 113, [I8 (b.getD 1 0), I8 (b.getD 8 0), I8 (b.getD 9 0), I1 ((b.getD 4 0) * 256 + (b.getD 5 0)), I1 ((b.getD 6 0) * 256 + (b.getD 7 0)), I8 (b.getD 12 0), I8 (b.getD 13 0), I8 (b.getD 14 0), I8 (b.getD 15 0), I8 (b.getD 16 0), I8 (b.getD 17 0), I8 (b.getD 18 0), I8 (b.getD 19 0)]⟩] [] [] ⟨⟨fun _ h => (by cases h; rfl), rfl⟩, ⟨fun _ h => (by cases h; rfl), rfl⟩, trivial⟩ (by intro p hp hn; simp only [List.mem_cons, List.not_mem_nil, or_false] at hp; rcases hp with rfl | rfl <;> first | (cases hn; done) | exact absurd _ (Nat.le_of_ble_eq_true rfl)) (fun ρ0 => ?_)
        refine Tk 0 9 1 B80 254 (.v (.agg #[N8 (b.getD 1 0), N8 (b.getD 8 0), N8 (b.getD 9 0), N1 ((b.getD 4 0) * 256 + (b.getD 5 0)), N1 ((b.getD 6 0) * 256 + (b.getD 7 0)), N8 (b.getD 12 0), N8 (b.getD 13 0), N8 (b.getD 14 0), N8 (b.getD 15 0), N8 (b.getD 16 0), N8 (b.getD 17 0), N8 (b.getD 18 0), N8 (b.getD 19 0)])) QOk.ctxG ?_
        refine Tk 1 9 3 B80 254 (VL A b.length c) QOk.ctxG ?_
        refine Tk 2 9 7 B80 254 (I6 ((b.getD 2 0) * 256 + (b.getD 3 0))) QOk.ctxG ?_
        refine Tk 3 9 15 B80 254 (I6 ((b.getD 2 0) * 256 + (b.getD 3 0))) QOk.ctxG ?_
        have hlo10433 : 20 ≤ ((b.getD 2 0) * 256 + (b.getD 3 0)).toNat := by omega
        have hhi10433 : ((b.getD 2 0) * 256 + (b.getD 3 0)).toNat ≤ b.length := by omega
        refine XD.cutM (i := 4) (l' := (lb 9 31)) (o := (oA B80 (pa 254) 4)) (t := 22) (e := 5) (sz := 1) (n := b.length) (c := c) (A := A) (x := .tmp 68) (h := .tmp 69) (z := .tmp 70) (l0 := (some (.const (N6 20)))) (lv := (some (N6 20))) (hv := N6 ((b.getD 2 0) * 256 + (b.getD 3 0))) (zv := N6 ((b.getD 2 0) * 256 + (b.getD 3 0))) 20 (((b.getD 2 0) * 256 + (b.getD 3 0)).toNat) (((b.getD 2 0) * 256 + (b.getD 3 0)).toNat) QOk.ctxG (by kernel_rfl) (by kernel_rfl) (by kernel_rfl) (by kernel_rfl) (by kernel_rfl) (by kernel_rfl) (by kernel_rfl) (by kernel_rfl) (by kernel_rfl) (by kernel_rfl) (by kernel_rfl) hlo10433 (Nat.le_refl _) (Nat.le_trans hhi10433 hle) (⟨_, _, rfl, by omega, rfl⟩) (⟨_, _, rfl, by omega, rfl⟩) (⟨_, _, rfl, by omega, rfl⟩) ?_
        have hr10433 : rowAt (D.int .u8) G10422 (cutA A (((b.getD 2 0) * 256 + (b.getD 3 0)).toNat) 20 1) ((b.take (((b.getD 2 0) * 256 + (b.getD 3 0)).toNat)).drop 20) := rowAt_cutM hb hlo10433 (by omega) (Nat.le_refl _)
        obtain ⟨A10433, hA10433⟩ : ∃ A_, cutA A (((b.getD 2 0) * 256 + (b.getD 3 0)).toNat) 20 1 = A_ := ⟨_, rfl⟩
        obtain ⟨ys10433, hys10433⟩ : ∃ l_, (b.take (((b.getD 2 0) * 256 + (b.getD 3 0)).toNat)).drop 20 = l_ := ⟨_, rfl⟩
        have hl10433 : (((b.getD 2 0) * 256 + (b.getD 3 0)).toNat) - 20 = ys10433.length := by rw [← hys10433, List.length_drop, List.length_take]; omega
        have hc10433 : ys10433.length ≤ ys10433.length := Nat.le_refl _
        have hm10433 : ys10433.length ≤ maxLen := by simp only [maxLen] at *; omega
        rw [hA10433, hys10433] at hr10433
        rw [hA10433, hl10433]
        refine XD.joinA (α := Unit) (fun x_ => ⟨73, [(1, .own 1 0), (2, .own 2 0), (3, VT (strOf ys10433)), (4, I6 0), (7, .own 7 0)], [(1, ⟨22, [VL A b.length c]⟩), (2, ⟨113, [I8 (b.getD 1 0), I8 (b.getD 8 0), I8 (b.getD 9 0), I1 ((b.getD 4 0) * 256 + (b.getD 5 0)), I1 ((b.getD 6 0) * 256 + (b.getD 7 0)), I8 (b.getD 12 0), I8 (b.getD 13 0), I8 (b.getD 14 0), I8 (b.getD 15 0), I8 (b.getD 16 0), I8 (b.getD 17 0), I8 (b.getD 18 0), I8 (b.getD 19 0)]⟩), (7, ⟨113, [I8 (b.getD 1 0), I8 (b.getD 8 0), I8 (b.getD 9 0), I1 ((b.getD 4 0) * 256 + (b.getD 5 0)), I1 ((b.getD 6 0) * 256 + (b.getD 7 0)), I8 (b.getD 12 0), I8 (b.getD 13 0), I8 (b.getD 14 0), I8 (b.getD 15 0), I8 (b.getD 16 0), I8 (b.getD 17 0), I8 (b.getD 18 0), I8 (b.getD 19 0)]⟩)]⟩) (fun x_ => [(57, RR 22 1 A10429 1 1 [.slice A10428 ys10428.length ys10428.length])]) (lb 9 511) 0 ?_ fun hL10433_511 => ?_
        ·
         rintro _ G14834 hG14834
         replace hb := hb.mono hG14834.le
         replace hr20 := hr20.mono hG14834.le
         replace hr21 := hr21.mono hG14834.le
         replace hr10428 := hr10428.mono hG14834.le
         replace hr10433 := hr10433.mono hG14834.le
         refine Dn ⟨73, [(1, .own 1 0), (2, .own 2 0), (3, VT (strOf ys10433)), (4, I6 0), (7, .own 7 0)], [(1, ⟨22, [VL A b.length c]⟩), (2, ⟨113, [I8 (b.getD 1 0), I8 (b.getD 8 0), I8 (b.getD 9 0), I1 ((b.getD 4 0) * 256 + (b.getD 5 0)), I1 ((b.getD 6 0) * 256 + (b.getD 7 0)), I8 (b.getD 12 0), I8 (b.getD 13 0), I8 (b.getD 14 0), I8 (b.getD 15 0), I8 (b.getD 16 0), I8 (b.getD 17 0), I8 (b.getD 18 0), I8 (b.getD 19 0)]⟩), (7, ⟨113, [I8 (b.getD 1 0), I8 (b.getD 8 0), I8 (b.getD 9 0), I1 ((b.getD 4 0) * 256 + (b.getD 5 0)), I1 ((b.getD 6 0) * 256 + (b.getD 7 0)), I8 (b.getD 12 0), I8 (b.getD 13 0), I8 (b.getD 14 0), I8 (b.getD 15 0), I8 (b.getD 16 0), I8 (b.getD 17 0), I8 (b.getD 18 0), I8 (b.getD 19 0)]⟩)]⟩ ⟨⟨fun _ h => (by cases h; rfl), rfl⟩, ⟨fun _ h => (by cases h; rfl), rfl⟩, trivial⟩ ?_
         refine XD.rows [57] (R' := [(57, RR 22 1 A10429 1 1 [.slice A10428 ys10428.length ys10428.length])]) rfl rfl ?_
         refine XD.done (by kernel_rfl) ?_
         refine Rn 2 (.ex .ret) [] ⟨73, [(2, .own 2 0), (3, VT (strOf ys10433)), (4, I6 0)], [(2, ⟨113, [I8 (b.getD 1 0), I8 (b.getD 8 0), I8 (b.getD 9 0), I1 ((b.getD 4 0) * 256 + (b.getD 5 0)), I1 ((b.getD 6 0) * 256 + (b.getD 7 0)), I8 (b.getD 12 0), I8 (b.getD 13 0), I8 (b.getD 14 0), I8 (b.getD 15 0), I8 (b.getD 16 0), I8 (b.getD 17 0), I8 (b.getD 18 0), I8 (b.getD 19 0)]⟩)]⟩ ?_
         refine Dg (.inl rfl) [.agg #[N8 (b.getD 1 0), N8 (b.getD 8 0), N8 (b.getD 9 0), N1 ((b.getD 4 0) * 256 + (b.getD 5 0)), N1 ((b.getD 6 0) * 256 + (b.getD 7 0)), N8 (b.getD 12 0), N8 (b.getD 13 0), N8 (b.getD 14 0), N8 (b.getD 15 0), N8 (b.getD 16 0), N8 (b.getD 17 0), N8 (b.getD 18 0), N8 (b.getD 19 0)], .string (strOf ys10433), N6 0] [] rfl ((hG10422.trans hG14834)) ?_
         rw [decI_fine hs_ hf_ hc_ hk_ hx_]
         subst hys10433
         exact ⟨rfl, rfl⟩
        refine Dn ⟨73, [(1, .own 1 0), (2, .own 2 0), (3, VT (⟨#[]⟩ : ByteArray)), (4, I6 0), (7, .own 7 0), (67, .v (.agg #[N8 (b.getD 1 0), N8 (b.getD 8 0), N8 (b.getD 9 0), N1 ((b.getD 4 0) * 256 + (b.getD 5 0)), N1 ((b.getD 6 0) * 256 + (b.getD 7 0)), N8 (b.getD 12 0), N8 (b.getD 13 0), N8 (b.getD 14 0), N8 (b.getD 15 0), N8 (b.getD 16 0), N8 (b.getD 17 0), N8 (b.getD 18 0), N8 (b.getD 19 0)])), (71, VL A10433 ys10433.length ys10433.length)], [(1, ⟨22, [VL A b.length c]⟩), (2, ⟨113, [I8 0, I8 0, I8 0, I1 0, I1 0, I8 0, I8 0, I8 0, I8 0, I8 0, I8 0, I8 0, I8 0]⟩), (7, ⟨113, [I8 (b.getD 1 0), I8 (b.getD 8 0), I8 (b.getD 9 0), I1 ((b.getD 4 0) * 256 + (b.getD 5 0)), I1 ((b.getD 6 0) * 256 + (b.getD 7 0)), I8 (b.getD 12 0), I8 (b.getD 13 0), I8 (b.getD 14 0), I8 (b.getD 15 0), I8 (b.getD 16 0), I8 (b.getD 17 0), I8 (b.getD 18 0), I8 (b.getD 19 0)]⟩)]⟩ ⟨⟨fun _ h => (by cases h; rfl), rfl⟩, ⟨fun _ h => (by cases h; rfl), rfl⟩, trivial⟩ ?_
        refine XD.two (i := 5) (j := 6) (li := (lb 9 63)) (lj := (lb 9 95)) (oA B80 (pa 254) 5) (oA B80 (pa 254) 6) (by kernel_rfl) (by kernel_rfl) (by kernel_rfl) (by kernel_rfl) (by kernel_rfl) ?_ ?_
        ·
         refine X.toStrW (src := 22) (dst := 9) (e := 5) (n := ys10433.length) (c := ys10433.length) (A := A10433) (x := .tmp 71) ys10433 (by kernel_rfl) (by kernel_rfl) (by kernel_rfl) (by kernel_rfl) (by kernel_rfl) rfl (at_ints [(57, RR 22 1 A10429 1 1 [.slice A10428 ys10428.length ys10428.length])] hr10433) (fun w hw e => rowAt.none hr10433 e) (by kernel_rfl) ?_
         refine X.back ⟨⟨⟨fun _ h => (by cases h; rfl), rfl⟩, ⟨fun _ h => (by cases h; rfl), rfl⟩, trivial⟩, Le.refl _, rfl, ?_⟩
         refine Dn ⟨73, [(1, .own 1 0), (2, .own 2 0), (3, VT (⟨#[]⟩ : ByteArray)), (4, I6 0), (7, .own 7 0), (67, .v (.agg #[N8 (b.getD 1 0), N8 (b.getD 8 0), N8 (b.getD 9 0), N1 ((b.getD 4 0) * 256 + (b.getD 5 0)), N1 ((b.getD 6 0) * 256 + (b.getD 7 0)), N8 (b.getD 12 0), N8 (b.getD 13 0), N8 (b.getD 14 0), N8 (b.getD 15 0), N8 (b.getD 16 0), N8 (b.getD 17 0), N8 (b.getD 18 0), N8 (b.getD 19 0)])), (72, VT (strOf ys10433))], [(1, ⟨22, [VL A b.length c]⟩), (2, ⟨113, [I8 0, I8 0, I8 0, I1 0, I1 0, I8 0, I8 0, I8 0, I8 0, I8 0, I8 0, I8 0, I8 0]⟩), (7, ⟨113, [I8 (b.getD 1 0), I8 (b.getD 8 0), I8 (b.getD 9 0), I1 ((b.getD 4 0) * 256 + (b.getD 5 0)), I1 ((b.getD 6 0) * 256 + (b.getD 7 0)), I8 (b.getD 12 0), I8 (b.getD 13 0), I8 (b.getD 14 0), I8 (b.getD 15 0), I8 (b.getD 16 0), I8 (b.getD 17 0), I8 (b.getD 18 0), I8 (b.getD 19 0)]⟩)]⟩ ⟨⟨fun _ h => (by cases h; rfl), rfl⟩, ⟨fun _ h => (by cases h; rfl), rfl⟩, trivial⟩ ?_
         refine Do 6 9 127 B80 254 ?_
         refine X.simple (by kernel_rfl) ?_
         refine X.back ⟨⟨⟨fun _ h => (by cases h; rfl), rfl⟩, ⟨fun _ h => (by cases h; rfl), rfl⟩, trivial⟩, Le.refl _, rfl, ?_⟩
         refine Ts [7, 8] 9 511 0 2 QOk.ctxG ?_
         refine Dn ⟨73, [(1, .own 1 0), (2, .own 2 0), (3, VT (strOf ys10433)), (4, I6 0), (7, .own 7 0)], [(1, ⟨22, [VL A b.length c]⟩), (2, ⟨113, [I8 (b.getD 1 0), I8 (b.getD 8 0), I8 (b.getD 9 0), I1 ((b.getD 4 0) * 256 + (b.getD 5 0)), I1 ((b.getD 6 0) * 256 + (b.getD 7 0)), I8 (b.getD 12 0), I8 (b.getD 13 0), I8 (b.getD 14 0), I8 (b.getD 15 0), I8 (b.getD 16 0), I8 (b.getD 17 0), I8 (b.getD 18 0), I8 (b.getD 19 0)]⟩), (7, ⟨113, [I8 (b.getD 1 0), I8 (b.getD 8 0), I8 (b.getD 9 0), I1 ((b.getD 4 0) * 256 + (b.getD 5 0)), I1 ((b.getD 6 0) * 256 + (b.getD 7 0)), I8 (b.getD 12 0), I8 (b.getD 13 0), I8 (b.getD 14 0), I8 (b.getD 15 0), I8 (b.getD 16 0), I8 (b.getD 17 0), I8 (b.getD 18 0), I8 (b.getD 19 0)]⟩)]⟩ ⟨⟨fun _ h => (by cases h; rfl), rfl⟩, ⟨fun _ h => (by cases h; rfl), rfl⟩, trivial⟩ ?_
         refine XD.rows [57] (R' := [(57, RR 22 1 A10429 1 1 [.slice A10428 ys10428.length ys10428.length])]) rfl rfl ?_
         exact hL10433_511 () _ (Ge.refl _ _)
        ·
         refine X.simple (by kernel_rfl) ?_
         refine X.back ⟨⟨⟨fun _ h => (by cases h; rfl), rfl⟩, ⟨fun _ h => (by cases h; rfl), rfl⟩, trivial⟩, Le.refl _, rfl, ?_⟩
         refine Dn ⟨73, [(1, .own 1 0), (2, .own 2 0), (3, VT (⟨#[]⟩ : ByteArray)), (4, I6 0), (7, .own 7 0), (71, VL A10433 ys10433.length ys10433.length)], [(1, ⟨22, [VL A b.length c]⟩), (2, ⟨113, [I8 (b.getD 1 0), I8 (b.getD 8 0), I8 (b.getD 9 0), I1 ((b.getD 4 0) * 256 + (b.getD 5 0)), I1 ((b.getD 6 0) * 256 + (b.getD 7 0)), I8 (b.getD 12 0), I8 (b.getD 13 0), I8 (b.getD 14 0), I8 (b.getD 15 0), I8 (b.getD 16 0), I8 (b.getD 17 0), I8 (b.getD 18 0), I8 (b.getD 19 0)]⟩), (7, ⟨113, [I8 (b.getD 1 0), I8 (b.getD 8 0), I8 (b.getD 9 0), I1 ((b.getD 4 0) * 256 + (b.getD 5 0)), I1 ((b.getD 6 0) * 256 + (b.getD 7 0)), I8 (b.getD 12 0), I8 (b.getD 13 0), I8 (b.getD 14 0), I8 (b.getD 15 0), I8 (b.getD 16 0), I8 (b.getD 17 0), I8 (b.getD 18 0), I8 (b.getD 19 0)]⟩)]⟩ ⟨⟨fun _ h => (by cases h; rfl), rfl⟩, ⟨fun _ h => (by cases h; rfl), rfl⟩, trivial⟩ ?_
         refine Do 5 9 127 B80 254 ?_
         refine X.toStrW (src := 22) (dst := 9) (e := 5) (n := ys10433.length) (c := ys10433.length) (A := A10433) (x := .tmp 71) ys10433 (by kernel_rfl) (by kernel_rfl) (by kernel_rfl) (by kernel_rfl) (by kernel_rfl) rfl (at_ints [(57, RR 22 1 A10429 1 1 [.slice A10428 ys10428.length ys10428.length])] hr10433) (fun w hw e => rowAt.none hr10433 e) (by kernel_rfl) ?_
         refine X.back ⟨⟨⟨fun _ h => (by cases h; rfl), rfl⟩, ⟨fun _ h => (by cases h; rfl), rfl⟩, trivial⟩, Le.refl _, rfl, ?_⟩
         refine Ts [7, 8] 9 511 0 2 QOk.ctxG ?_
         refine Dn ⟨73, [(1, .own 1 0), (2, .own 2 0), (3, VT (strOf ys10433)), (4, I6 0), (7, .own 7 0)], [(1, ⟨22, [VL A b.length c]⟩), (2, ⟨113, [I8 (b.getD 1 0), I8 (b.getD 8 0), I8 (b.getD 9 0), I1 ((b.getD 4 0) * 256 + (b.getD 5 0)), I1 ((b.getD 6 0) * 256 + (b.getD 7 0)), I8 (b.getD 12 0), I8 (b.getD 13 0), I8 (b.getD 14 0), I8 (b.getD 15 0), I8 (b.getD 16 0), I8 (b.getD 17 0), I8 (b.getD 18 0), I8 (b.getD 19 0)]⟩), (7, ⟨113, [I8 (b.getD 1 0), I8 (b.getD 8 0), I8 (b.getD 9 0), I1 ((b.getD 4 0) * 256 + (b.getD 5 0)), I1 ((b.getD 6 0) * 256 + (b.getD 7 0)), I8 (b.getD 12 0), I8 (b.getD 13 0), I8 (b.getD 14 0), I8 (b.getD 15 0), I8 (b.getD 16 0), I8 (b.getD 17 0), I8 (b.getD 18 0), I8 (b.getD 19 0)]⟩)]⟩ ⟨⟨fun _ h => (by cases h; rfl), rfl⟩, ⟨fun _ h => (by cases h; rfl), rfl⟩, trivial⟩ ?_
         refine XD.rows [57] (R' := [(57, RR 22 1 A10429 1 1 [.slice A10428 ys10428.length ys10428.length])]) rfl rfl ?_
         exact hL10433_511 () _ (Ge.refl _ _)
  refine XD.joinA (α := Unit) (fun x_ => ⟨73, [(1, .own 1 0), (2, .own 2 0), (3, VT (⟨#[]⟩ : ByteArray)), (4, I6 0), (6, I6 ((b.getD 2 0) * 256 + (b.getD 3 0))), (7, .own 7 0), (18, I8 (b.getD 1 0)), (20, I1 ((b.getD 4 0) * 256 + (b.getD 5 0))), (21, .fn 134 [(1, 0)]), (25, I8 (b.getD 8 0)), (28, I8 (b.getD 9 0)), (32, .v (.agg #[N8 (b.getD 12 0), N8 (b.getD 13 0), N8 (b.getD 14 0), N8 (b.getD 15 0)])), (36, .v (.agg #[N8 (b.getD 16 0), N8 (b.getD 17 0), N8 (b.getD 18 0), N8 (b.getD 19 0)]))], [(1, ⟨22, [VL A b.length c]⟩), (2, ⟨113, [I8 0, I8 0, I8 0, I1 0, I1 0, I8 0, I8 0, I8 0, I8 0, I8 0, I8 0, I8 0, I8 0]⟩), (7, ⟨113, [I8 0, I8 0, I8 0, I1 0, I1 0, I8 0, I8 0, I8 0, I8 0, I8 0, I8 0, I8 0, I8 0]⟩)]⟩) (fun x_ => []) (lb 24 6291391) 3 ?_ fun hL21_6291391 => ?_
  ·
   rintro _ G10423 hG10423
   replace hb := hb.mono hG10423.le
   replace hr20 := hr20.mono hG10423.le
   replace hr21 := hr21.mono hG10423.le
   refine Dn ⟨73, [(1, .own 1 0), (2, .own 2 0), (3, VT (⟨#[]⟩ : ByteArray)), (4, I6 0), (6, I6 ((b.getD 2 0) * 256 + (b.getD 3 0))), (7, .own 7 0), (18, I8 (b.getD 1 0)), (20, I1 ((b.getD 4 0) * 256 + (b.getD 5 0))), (21, .fn 134 [(1, 0)]), (25, I8 (b.getD 8 0)), (28, I8 (b.getD 9 0)), (32, .v (.agg #[N8 (b.getD 12 0), N8 (b.getD 13 0), N8 (b.getD 14 0), N8 (b.getD 15 0)])), (36, .v (.agg #[N8 (b.getD 16 0), N8 (b.getD 17 0), N8 (b.getD 18 0), N8 (b.getD 19 0)]))], [(1, ⟨22, [VL A b.length c]⟩), (2, ⟨113, [I8 0, I8 0, I8 0, I1 0, I1 0, I8 0, I8 0, I8 0, I8 0, I8 0, I8 0, I8 0, I8 0]⟩), (7, ⟨113, [I8 0, I8 0, I8 0, I1 0, I1 0, I8 0, I8 0, I8 0, I8 0, I8 0, I8 0, I8 0, I8 0]⟩)]⟩ ⟨⟨fun _ h => (by cases h; rfl), rfl⟩, trivial⟩ ?_
   refine XD.rows [] (R' := []) rfl rfl ?_
   refine Dn ⟨73, [(1, .own 1 0), (2, .own 2 0), (3, VT (⟨#[]⟩ : ByteArray)), (4, I6 0), (6, I6 ((b.getD 2 0) * 256 + (b.getD 3 0))), (7, .own 7 0), (18, I8 (b.getD 1 0)), (20, I1 ((b.getD 4 0) * 256 + (b.getD 5 0))), (21, .fn 134 [(1, 0)]), (25, I8 (b.getD 8 0)), (28, I8 (b.getD 9 0)), (32, .v (.agg #[N8 (b.getD 12 0), N8 (b.getD 13 0), N8 (b.getD 14 0), N8 (b.getD 15 0)])), (36, .v (.agg #[N8 (b.getD 16 0), N8 (b.getD 17 0), N8 (b.getD 18 0), N8 (b.getD 19 0)]))], [(1, ⟨22, [VL A b.length c]⟩), (2, ⟨113, [I8 0, I8 0, I8 0, I1 0, I1 0, I8 0, I8 0, I8 0, I8 0, I8 0, I8 0, I8 0, I8 0]⟩), (7, ⟨113, [I8 0, I8 0, I8 0, I1 0, I1 0, I8 0, I8 0, I8 0, I8 0, I8 0, I8 0, I8 0, I8 0]⟩)]⟩ ⟨⟨fun _ h => (by cases h; rfl), rfl⟩, trivial⟩ ?_
   refine Do 6 24 6291455 B80 62 ?_
   refine X.inline (f := 134) (l := [I6 6, .own 1 0]) (fn := Try.f134) (c := B134) (by kernel_rfl) (by kernel_rfl) Try.func134 (by kernel_rfl) ?_
   intro Q2822 M2822 hM2822 hQ2822 fin2822
   refine Rn 6 (Qc B134 6) [Qs B134 7] ⟨17, [(0, I6 6), (1, .own 1001 0), (3, I1 0)], [(1001, ⟨22, [VL A b.length c]⟩), (1002, ⟨113, [I8 0, I8 0, I8 0, I1 0, I1 0, I8 0, I8 0, I8 0, I8 0, I8 0, I8 0, I8 0, I8 0]⟩), (1007, ⟨113, [I8 0, I8 0, I8 0, I1 0, I1 0, I8 0, I8 0, I8 0, I8 0, I8 0, I8 0, I8 0, I8 0]⟩)]⟩ ?_
   have hb_d2823 := hb
   have hr20_d2823 := hr20
   have hr21_d2823 := hr21
   refine Og 1 B134 6 14 [⟨some 1, 1001, 22, [VL A b.length c]⟩] [] [] ⟨⟨fun _ h => (by cases h; rfl), rfl⟩, trivial⟩ (by intro p hp hn; simp only [List.mem_cons, List.not_mem_nil, or_false] at hp; rcases hp with rfl <;> first | (cases hn; done) | exact hM2822 _ (Nat.le_of_ble_eq_true rfl)) (fun ρ0 => ?_)
   refine Tk 0 14 1 B134 6 (VL A b.length c) hQ2822 ?_
   refine Tk 1 14 3 B134 6 (I6 6) hQ2822 ?_
   have b2824 : (0 : Int) ≤ 6 := by omega
   have b2825 : 6 < ((b.length : Nat) : Int) := by omega
   obtain ⟨at2826, lo2826, hi2826⟩ := At.int [] hb_d2823 6 (by omega)
   simp only [IntKind.lo, IntKind.hi] at lo2826 hi2826
   refine Dx 2 14 7 B134 6 22 5 1 A b.length c .i64 6 (.tmp 4) (.tmp 5) hQ2822 b2824 b2825 (fun _ _ => rowAt.so hb_d2823 (by omega)) ?_
   refine Dl 3 14 15 B134 6 5 A (6 * 1) (.tmp 6) (N8 (b.getD 6 0)) [N8 (b.getD 6 0)] hQ2822 at2826 ?_
   refine Tk 4 14 31 B134 6 (I1 (IntKind.u16.wrap (b.getD 6 0))) hQ2822 ?_
   refine Tk 5 14 63 B134 6 (I1 (bshl .u16 (IntKind.u16.wrap (b.getD 6 0)) 8)) hQ2822 ?_
   refine Tk 6 14 127 B134 6 (VL A b.length c) hQ2822 ?_
   refine Tk 7 14 255 B134 6 (I6 6) hQ2822 ?_
   refine Tk 8 14 511 B134 6 (I6 7) hQ2822 ?_
   have b2827 : (0 : Int) ≤ 7 := by omega
   have b2828 : 7 < ((b.length : Nat) : Int) := by omega
   obtain ⟨at2829, lo2829, hi2829⟩ := At.int [] hb_d2823 7 (by omega)
   simp only [IntKind.lo, IntKind.hi] at lo2829 hi2829
   refine Dx 9 14 1023 B134 6 22 5 1 A b.length c .i64 7 (.tmp 10) (.tmp 12) hQ2822 b2827 b2828 (fun _ _ => rowAt.so hb_d2823 (by omega)) ?_
   refine Dl 10 14 2047 B134 6 5 A (7 * 1) (.tmp 13) (N8 (b.getD 7 0)) [N8 (b.getD 7 0)] hQ2822 at2829 ?_
   refine Tk 11 14 4095 B134 6 (I1 (IntKind.u16.wrap (b.getD 7 0))) hQ2822 ?_
   refine Tk 12 14 8191 B134 6 (I1 (bor .u16 (bshl .u16 (IntKind.u16.wrap (b.getD 6 0)) 8) (IntKind.u16.wrap (b.getD 7 0)))) hQ2822 ?_
   refine Dk 16 .u16 ((b.getD 6 0) * 256 + (b.getD 7 0)) rfl (or16 (by omega) (by omega)) ?_
   refine Ts [13] 14 16383 0 1 hQ2822 ?_
   refine XD.done (by kernel_rfl) ?_
   refine Rn 2 (.ex .ret) [] ⟨17, [(3, I1 ((b.getD 6 0) * 256 + (b.getD 7 0)))], [(1001, ⟨22, [VL A b.length c]⟩), (1002, ⟨113, [I8 0, I8 0, I8 0, I1 0, I1 0, I8 0, I8 0, I8 0, I8 0, I8 0, I8 0, I8 0, I8 0]⟩), (1007, ⟨113, [I8 0, I8 0, I8 0, I1 0, I1 0, I8 0, I8 0, I8 0, I8 0, I8 0, I8 0, I8 0, I8 0]⟩)]⟩ ?_
   refine fin2822 _ _ _ _ [N1 ((b.getD 6 0) * 256 + (b.getD 7 0))] [(1, ⟨22, [VL A b.length c]⟩), (2, ⟨113, [I8 0, I8 0, I8 0, I1 0, I1 0, I8 0, I8 0, I8 0, I8 0, I8 0, I8 0, I8 0, I8 0]⟩), (7, ⟨113, [I8 0, I8 0, I8 0, I1 0, I1 0, I8 0, I8 0, I8 0, I8 0, I8 0, I8 0, I8 0, I8 0]⟩)] (.inl rfl) (by kernel_rfl) (by kernel_rfl) ?_
   refine X.back ⟨⟨⟨fun _ h => (by cases h; rfl), rfl⟩, trivial⟩, hG10423.le, rfl, ?_⟩
   refine Ts [21] 24 8388607 1 2 QOk.ctxG ?_
   refine Dn ⟨73, [(1, .own 1 0), (2, .own 2 0), (3, VT (⟨#[]⟩ : ByteArray)), (4, I6 0), (6, I6 ((b.getD 2 0) * 256 + (b.getD 3 0))), (7, .own 7 0), (37, .v (.agg #[N8 (b.getD 1 0), N8 (b.getD 8 0), N8 (b.getD 9 0), N1 ((b.getD 4 0) * 256 + (b.getD 5 0)), N1 ((b.getD 6 0) * 256 + (b.getD 7 0)), N8 (b.getD 12 0), N8 (b.getD 13 0), N8 (b.getD 14 0), N8 (b.getD 15 0), N8 (b.getD 16 0), N8 (b.getD 17 0), N8 (b.getD 18 0), N8 (b.getD 19 0)]))], [(1, ⟨22, [VL A b.length c]⟩), (2, ⟨113, [I8 0, I8 0, I8 0, I1 0, I1 0, I8 0, I8 0, I8 0, I8 0, I8 0, I8 0, I8 0, I8 0]⟩), (7, ⟨113, [I8 0, I8 0, I8 0, I1 0, I1 0, I8 0, I8 0, I8 0, I8 0, I8 0, I8 0, I8 0, I8 0]⟩)]⟩ ⟨⟨fun _ h => (by cases h; rfl), rfl⟩, trivial⟩ ?_
   refine XD.rows [] (R' := []) rfl rfl ?_
   exact hL21_8388607 () _ hG10423
  refine Dn ⟨73, [(1, .own 1 0), (2, .own 2 0), (3, VT (⟨#[]⟩ : ByteArray)), (4, I6 0), (6, I6 ((b.getD 2 0) * 256 + (b.getD 3 0))), (18, I8 (b.getD 1 0)), (19, .fn 134 [(1, 0)]), (21, .fn 134 [(1, 0)]), (25, I8 (b.getD 8 0)), (28, I8 (b.getD 9 0)), (32, .v (.agg #[N8 (b.getD 12 0), N8 (b.getD 13 0), N8 (b.getD 14 0), N8 (b.getD 15 0)])), (36, .v (.agg #[N8 (b.getD 16 0), N8 (b.getD 17 0), N8 (b.getD 18 0), N8 (b.getD 19 0)]))], [(1, ⟨22, [VL A b.length c]⟩), (2, ⟨113, [I8 0, I8 0, I8 0, I1 0, I1 0, I8 0, I8 0, I8 0, I8 0, I8 0, I8 0, I8 0, I8 0]⟩)]⟩ ⟨⟨fun _ h => (by cases h; rfl), rfl⟩, trivial⟩ ?_
  refine XD.two (i := 4) (j := 22) (li := (lb 24 2097087)) (lj := (lb 24 6291375)) (oA B80 (pa 62) 4) (oA B80 (pa 62) 22) (by kernel_rfl) (by kernel_rfl) (by kernel_rfl) (by kernel_rfl) (by kernel_rfl) ?_ ?_
  ·
   refine X.inline (f := 134) (l := [I6 4, .own 1 0]) (fn := Try.f134) (c := B134) (by kernel_rfl) (by kernel_rfl) Try.func134 (by kernel_rfl) ?_
   intro Q2022 M2022 hM2022 hQ2022 fin2022
   refine Rn 6 (Qc B134 6) [Qs B134 7] ⟨17, [(0, I6 4), (1, .own 1001 0), (3, I1 0)], [(1001, ⟨22, [VL A b.length c]⟩), (1002, ⟨113, [I8 0, I8 0, I8 0, I1 0, I1 0, I8 0, I8 0, I8 0, I8 0, I8 0, I8 0, I8 0, I8 0]⟩)]⟩ ?_
   have hb_d2023 := hb
   have hr20_d2023 := hr20
   have hr21_d2023 := hr21
   refine Og 1 B134 6 14 [⟨some 1, 1001, 22, [VL A b.length c]⟩] [] [] ⟨⟨fun _ h => (by cases h; rfl), rfl⟩, trivial⟩ (by intro p hp hn; simp only [List.mem_cons, List.not_mem_nil, or_false] at hp; rcases hp with rfl <;> first | (cases hn; done) | exact hM2022 _ (Nat.le_of_ble_eq_true rfl)) (fun ρ0 => ?_)
   refine Tk 0 14 1 B134 6 (VL A b.length c) hQ2022 ?_
   refine Tk 1 14 3 B134 6 (I6 4) hQ2022 ?_
   have b2024 : (0 : Int) ≤ 4 := by omega
   have b2025 : 4 < ((b.length : Nat) : Int) := by omega
   obtain ⟨at2026, lo2026, hi2026⟩ := At.int [] hb_d2023 4 (by omega)
   simp only [IntKind.lo, IntKind.hi] at lo2026 hi2026
   refine Dx 2 14 7 B134 6 22 5 1 A b.length c .i64 4 (.tmp 4) (.tmp 5) hQ2022 b2024 b2025 (fun _ _ => rowAt.so hb_d2023 (by omega)) ?_
   refine Dl 3 14 15 B134 6 5 A (4 * 1) (.tmp 6) (N8 (b.getD 4 0)) [N8 (b.getD 4 0)] hQ2022 at2026 ?_
   refine Tk 4 14 31 B134 6 (I1 (IntKind.u16.wrap (b.getD 4 0))) hQ2022 ?_
   refine Tk 5 14 63 B134 6 (I1 (bshl .u16 (IntKind.u16.wrap (b.getD 4 0)) 8)) hQ2022 ?_
   refine Tk 6 14 127 B134 6 (VL A b.length c) hQ2022 ?_
   refine Tk 7 14 255 B134 6 (I6 4) hQ2022 ?_
   refine Tk 8 14 511 B134 6 (I6 5) hQ2022 ?_
   have b2027 : (0 : Int) ≤ 5 := by omega
   have b2028 : 5 < ((b.length : Nat) : Int) := by omega
   obtain ⟨at2029, lo2029, hi2029⟩ := At.int [] hb_d2023 5 (by omega)
   simp only [IntKind.lo, IntKind.hi] at lo2029 hi2029
   refine Dx 9 14 1023 B134 6 22 5 1 A b.length c .i64 5 (.tmp 10) (.tmp 12) hQ2022 b2027 b2028 (fun _ _ => rowAt.so hb_d2023 (by omega)) ?_
   refine Dl 10 14 2047 B134 6 5 A (5 * 1) (.tmp 13) (N8 (b.getD 5 0)) [N8 (b.getD 5 0)] hQ2022 at2029 ?_
   refine Tk 11 14 4095 B134 6 (I1 (IntKind.u16.wrap (b.getD 5 0))) hQ2022 ?_
   refine Tk 12 14 8191 B134 6 (I1 (bor .u16 (bshl .u16 (IntKind.u16.wrap (b.getD 4 0)) 8) (IntKind.u16.wrap (b.getD 5 0)))) hQ2022 ?_
   refine Dk 16 .u16 ((b.getD 4 0) * 256 + (b.getD 5 0)) rfl (or16 (by omega) (by omega)) ?_
   refine Ts [13] 14 16383 0 1 hQ2022 ?_
   refine XD.done (by kernel_rfl) ?_
   refine Rn 2 (.ex .ret) [] ⟨17, [(3, I1 ((b.getD 4 0) * 256 + (b.getD 5 0)))], [(1001, ⟨22, [VL A b.length c]⟩), (1002, ⟨113, [I8 0, I8 0, I8 0, I1 0, I1 0, I8 0, I8 0, I8 0, I8 0, I8 0, I8 0, I8 0, I8 0]⟩)]⟩ ?_
   refine fin2022 _ _ _ _ [N1 ((b.getD 4 0) * 256 + (b.getD 5 0))] [(1, ⟨22, [VL A b.length c]⟩), (2, ⟨113, [I8 0, I8 0, I8 0, I1 0, I1 0, I8 0, I8 0, I8 0, I8 0, I8 0, I8 0, I8 0, I8 0]⟩)] (.inl rfl) (by kernel_rfl) (by kernel_rfl) ?_
   refine X.back ⟨⟨⟨fun _ h => (by cases h; rfl), rfl⟩, trivial⟩, Le.refl _, rfl, ?_⟩
   refine Dn ⟨73, [(1, .own 1 0), (2, .own 2 0), (3, VT (⟨#[]⟩ : ByteArray)), (4, I6 0), (6, I6 ((b.getD 2 0) * 256 + (b.getD 3 0))), (18, I8 (b.getD 1 0)), (20, I1 ((b.getD 4 0) * 256 + (b.getD 5 0))), (21, .fn 134 [(1, 0)]), (25, I8 (b.getD 8 0)), (28, I8 (b.getD 9 0)), (32, .v (.agg #[N8 (b.getD 12 0), N8 (b.getD 13 0), N8 (b.getD 14 0), N8 (b.getD 15 0)])), (36, .v (.agg #[N8 (b.getD 16 0), N8 (b.getD 17 0), N8 (b.getD 18 0), N8 (b.getD 19 0)]))], [(1, ⟨22, [VL A b.length c]⟩), (2, ⟨113, [I8 0, I8 0, I8 0, I1 0, I1 0, I8 0, I8 0, I8 0, I8 0, I8 0, I8 0, I8 0, I8 0]⟩)]⟩ ⟨⟨fun _ h => (by cases h; rfl), rfl⟩, trivial⟩ ?_
   refine XD.two (i := 6) (j := 22) (li := (lb 24 2097151)) (lj := (lb 24 6291391)) (oA B80 (pa 62) 6) (oA B80 (pa 62) 22) (by kernel_rfl) (by kernel_rfl) (by kernel_rfl) (by kernel_rfl) (by kernel_rfl) ?_ ?_
   ·
    refine X.inline (f := 134) (l := [I6 6, .own 1 0]) (fn := Try.f134) (c := B134) (by kernel_rfl) (by kernel_rfl) Try.func134 (by kernel_rfl) ?_
    intro Q2822 M2822 hM2822 hQ2822 fin2822
    refine Rn 6 (Qc B134 6) [Qs B134 7] ⟨17, [(0, I6 6), (1, .own 1001 0), (3, I1 0)], [(1001, ⟨22, [VL A b.length c]⟩), (1002, ⟨113, [I8 0, I8 0, I8 0, I1 0, I1 0, I8 0, I8 0, I8 0, I8 0, I8 0, I8 0, I8 0, I8 0]⟩)]⟩ ?_
    have hb_d2823 := hb
    have hr20_d2823 := hr20
    have hr21_d2823 := hr21
    refine Og 1 B134 6 14 [⟨some 1, 1001, 22, [VL A b.length c]⟩] [] [] ⟨⟨fun _ h => (by cases h; rfl), rfl⟩, trivial⟩ (by intro p hp hn; simp only [List.mem_cons, List.not_mem_nil, or_false] at hp; rcases hp with rfl <;> first | (cases hn; done) | exact hM2822 _ (Nat.le_of_ble_eq_true rfl)) (fun ρ0 => ?_)
    refine Tk 0 14 1 B134 6 (VL A b.length c) hQ2822 ?_
    refine Tk 1 14 3 B134 6 (I6 6) hQ2822 ?_
    have b2824 : (0 : Int) ≤ 6 := by omega
    have b2825 : 6 < ((b.length : Nat) : Int) := by omega
    obtain ⟨at2826, lo2826, hi2826⟩ := At.int [] hb_d2823 6 (by omega)
    simp only [IntKind.lo, IntKind.hi] at lo2826 hi2826
    refine Dx 2 14 7 B134 6 22 5 1 A b.length c .i64 6 (.tmp 4) (.tmp 5) hQ2822 b2824 b2825 (fun _ _ => rowAt.so hb_d2823 (by omega)) ?_
    refine Dl 3 14 15 B134 6 5 A (6 * 1) (.tmp 6) (N8 (b.getD 6 0)) [N8 (b.getD 6 0)] hQ2822 at2826 ?_
    refine Tk 4 14 31 B134 6 (I1 (IntKind.u16.wrap (b.getD 6 0))) hQ2822 ?_
    refine Tk 5 14 63 B134 6 (I1 (bshl .u16 (IntKind.u16.wrap (b.getD 6 0)) 8)) hQ2822 ?_
    refine Tk 6 14 127 B134 6 (VL A b.length c) hQ2822 ?_
    refine Tk 7 14 255 B134 6 (I6 6) hQ2822 ?_
    refine Tk 8 14 511 B134 6 (I6 7) hQ2822 ?_
    have b2827 : (0 : Int) ≤ 7 := by omega
    have b2828 : 7 < ((b.length : Nat) : Int) := by omega
    obtain ⟨at2829, lo2829, hi2829⟩ := At.int [] hb_d2823 7 (by omega)
    simp only [IntKind.lo, IntKind.hi] at lo2829 hi2829
    refine Dx 9 14 1023 B134 6 22 5 1 A b.length c .i64 7 (.tmp 10) (.tmp 12) hQ2822 b2827 b2828 (fun _ _ => rowAt.so hb_d2823 (by omega)) ?_
    refine Dl 10 14 2047 B134 6 5 A (7 * 1) (.tmp 13) (N8 (b.getD 7 0)) [N8 (b.getD 7 0)] hQ2822 at2829 ?_
    refine Tk 11 14 4095 B134 6 (I1 (IntKind.u16.wrap (b.getD 7 0))) hQ2822 ?_
    refine Tk 12 14 8191 B134 6 (I1 (bor .u16 (bshl .u16 (IntKind.u16.wrap (b.getD 6 0)) 8) (IntKind.u16.wrap (b.getD 7 0)))) hQ2822 ?_
    refine Dk 16 .u16 ((b.getD 6 0) * 256 + (b.getD 7 0)) rfl (or16 (by omega) (by omega)) ?_
    refine Ts [13] 14 16383 0 1 hQ2822 ?_
    refine XD.done (by kernel_rfl) ?_
    refine Rn 2 (.ex .ret) [] ⟨17, [(3, I1 ((b.getD 6 0) * 256 + (b.getD 7 0)))], [(1001, ⟨22, [VL A b.length c]⟩), (1002, ⟨113, [I8 0, I8 0, I8 0, I1 0, I1 0, I8 0, I8 0, I8 0, I8 0, I8 0, I8 0, I8 0, I8 0]⟩)]⟩ ?_
    refine fin2822 _ _ _ _ [N1 ((b.getD 6 0) * 256 + (b.getD 7 0))] [(1, ⟨22, [VL A b.length c]⟩), (2, ⟨113, [I8 0, I8 0, I8 0, I1 0, I1 0, I8 0, I8 0, I8 0, I8 0, I8 0, I8 0, I8 0, I8 0]⟩)] (.inl rfl) (by kernel_rfl) (by kernel_rfl) ?_
    refine X.back ⟨⟨⟨fun _ h => (by cases h; rfl), rfl⟩, trivial⟩, Le.refl _, rfl, ?_⟩
    refine Ts [21] 24 4194303 2 3 QOk.ctxG ?_
    refine Dn ⟨73, [(1, .own 1 0), (2, .own 2 0), (3, VT (⟨#[]⟩ : ByteArray)), (4, I6 0), (6, I6 ((b.getD 2 0) * 256 + (b.getD 3 0))), (37, .v (.agg #[N8 (b.getD 1 0), N8 (b.getD 8 0), N8 (b.getD 9 0), N1 ((b.getD 4 0) * 256 + (b.getD 5 0)), N1 ((b.getD 6 0) * 256 + (b.getD 7 0)), N8 (b.getD 12 0), N8 (b.getD 13 0), N8 (b.getD 14 0), N8 (b.getD 15 0), N8 (b.getD 16 0), N8 (b.getD 17 0), N8 (b.getD 18 0), N8 (b.getD 19 0)]))], [(1, ⟨22, [VL A b.length c]⟩), (2, ⟨113, [I8 0, I8 0, I8 0, I1 0, I1 0, I8 0, I8 0, I8 0, I8 0, I8 0, I8 0, I8 0, I8 0]⟩)]⟩ ⟨⟨fun _ h => (by cases h; rfl), rfl⟩, trivial⟩ ?_
    refine Do 22 24 8388607 B80 62 ?_
    refine X.simple (by kernel_rfl) ?_
    refine X.back ⟨⟨⟨fun _ h => (by cases h; rfl), rfl⟩, trivial⟩, Le.refl _, rfl, ?_⟩
    refine Dn ⟨73, [(1, .own 1 0), (2, .own 2 0), (3, VT (⟨#[]⟩ : ByteArray)), (4, I6 0), (6, I6 ((b.getD 2 0) * 256 + (b.getD 3 0))), (7, .own 7 0), (37, .v (.agg #[N8 (b.getD 1 0), N8 (b.getD 8 0), N8 (b.getD 9 0), N1 ((b.getD 4 0) * 256 + (b.getD 5 0)), N1 ((b.getD 6 0) * 256 + (b.getD 7 0)), N8 (b.getD 12 0), N8 (b.getD 13 0), N8 (b.getD 14 0), N8 (b.getD 15 0), N8 (b.getD 16 0), N8 (b.getD 17 0), N8 (b.getD 18 0), N8 (b.getD 19 0)]))], [(1, ⟨22, [VL A b.length c]⟩), (2, ⟨113, [I8 0, I8 0, I8 0, I1 0, I1 0, I8 0, I8 0, I8 0, I8 0, I8 0, I8 0, I8 0, I8 0]⟩), (7, ⟨113, [I8 0, I8 0, I8 0, I1 0, I1 0, I8 0, I8 0, I8 0, I8 0, I8 0, I8 0, I8 0, I8 0]⟩)]⟩ ⟨⟨fun _ h => (by cases h; rfl), rfl⟩, trivial⟩ ?_
    refine XD.rows [] (R' := []) rfl rfl ?_
    exact hL21_8388607 () _ (Ge.refl _ _)
   ·
    refine X.simple (by kernel_rfl) ?_
    refine X.back ⟨⟨⟨fun _ h => (by cases h; rfl), rfl⟩, trivial⟩, Le.refl _, rfl, ?_⟩
    refine Dn ⟨73, [(1, .own 1 0), (2, .own 2 0), (3, VT (⟨#[]⟩ : ByteArray)), (4, I6 0), (6, I6 ((b.getD 2 0) * 256 + (b.getD 3 0))), (7, .own 7 0), (18, I8 (b.getD 1 0)), (20, I1 ((b.getD 4 0) * 256 + (b.getD 5 0))), (21, .fn 134 [(1, 0)]), (25, I8 (b.getD 8 0)), (28, I8 (b.getD 9 0)), (32, .v (.agg #[N8 (b.getD 12 0), N8 (b.getD 13 0), N8 (b.getD 14 0), N8 (b.getD 15 0)])), (36, .v (.agg #[N8 (b.getD 16 0), N8 (b.getD 17 0), N8 (b.getD 18 0), N8 (b.getD 19 0)]))], [(1, ⟨22, [VL A b.length c]⟩), (2, ⟨113, [I8 0, I8 0, I8 0, I1 0, I1 0, I8 0, I8 0, I8 0, I8 0, I8 0, I8 0, I8 0, I8 0]⟩), (7, ⟨113, [I8 0, I8 0, I8 0, I1 0, I1 0, I8 0, I8 0, I8 0, I8 0, I8 0, I8 0, I8 0, I8 0]⟩)]⟩ ⟨⟨fun _ h => (by cases h; rfl), rfl⟩, trivial⟩ ?_
    refine XD.rows [] (R' := []) rfl rfl ?_
    exact hL21_6291391 () _ (Ge.refl _ _)
  ·
   refine X.simple (by kernel_rfl) ?_
   refine X.back ⟨⟨⟨fun _ h => (by cases h; rfl), rfl⟩, trivial⟩, Le.refl _, rfl, ?_⟩
   refine Dn ⟨73, [(1, .own 1 0), (2, .own 2 0), (3, VT (⟨#[]⟩ : ByteArray)), (4, I6 0), (6, I6 ((b.getD 2 0) * 256 + (b.getD 3 0))), (7, .own 7 0), (18, I8 (b.getD 1 0)), (19, .fn 134 [(1, 0)]), (21, .fn 134 [(1, 0)]), (25, I8 (b.getD 8 0)), (28, I8 (b.getD 9 0)), (32, .v (.agg #[N8 (b.getD 12 0), N8 (b.getD 13 0), N8 (b.getD 14 0), N8 (b.getD 15 0)])), (36, .v (.agg #[N8 (b.getD 16 0), N8 (b.getD 17 0), N8 (b.getD 18 0), N8 (b.getD 19 0)]))], [(1, ⟨22, [VL A b.length c]⟩), (2, ⟨113, [I8 0, I8 0, I8 0, I1 0, I1 0, I8 0, I8 0, I8 0, I8 0, I8 0, I8 0, I8 0, I8 0]⟩), (7, ⟨113, [I8 0, I8 0, I8 0, I1 0, I1 0, I8 0, I8 0, I8 0, I8 0, I8 0, I8 0, I8 0, I8 0]⟩)]⟩ ⟨⟨fun _ h => (by cases h; rfl), rfl⟩, trivial⟩ ?_
   refine Do 4 24 6291391 B80 62 ?_
   refine X.inline (f := 134) (l := [I6 4, .own 1 0]) (fn := Try.f134) (c := B134) (by kernel_rfl) (by kernel_rfl) Try.func134 (by kernel_rfl) ?_
   intro Q2022 M2022 hM2022 hQ2022 fin2022
   refine Rn 6 (Qc B134 6) [Qs B134 7] ⟨17, [(0, I6 4), (1, .own 1001 0), (3, I1 0)], [(1001, ⟨22, [VL A b.length c]⟩), (1002, ⟨113, [I8 0, I8 0, I8 0, I1 0, I1 0, I8 0, I8 0, I8 0, I8 0, I8 0, I8 0, I8 0, I8 0]⟩), (1007, ⟨113, [I8 0, I8 0, I8 0, I1 0, I1 0, I8 0, I8 0, I8 0, I8 0, I8 0, I8 0, I8 0, I8 0]⟩)]⟩ ?_
   have hb_d2023 := hb
   have hr20_d2023 := hr20
   have hr21_d2023 := hr21
   refine Og 1 B134 6 14 [⟨some 1, 1001, 22, [VL A b.length c]⟩] [] [] ⟨⟨fun _ h => (by cases h; rfl), rfl⟩, trivial⟩ (by intro p hp hn; simp only [List.mem_cons, List.not_mem_nil, or_false] at hp; rcases hp with rfl <;> first | (cases hn; done) | exact hM2022 _ (Nat.le_of_ble_eq_true rfl)) (fun ρ0 => ?_)
   refine Tk 0 14 1 B134 6 (VL A b.length c) hQ2022 ?_
   refine Tk 1 14 3 B134 6 (I6 4) hQ2022 ?_
   have b2024 : (0 : Int) ≤ 4 := by omega
   have b2025 : 4 < ((b.length : Nat) : Int) := by omega
   obtain ⟨at2026, lo2026, hi2026⟩ := At.int [] hb_d2023 4 (by omega)
   simp only [IntKind.lo, IntKind.hi] at lo2026 hi2026
   refine Dx 2 14 7 B134 6 22 5 1 A b.length c .i64 4 (.tmp 4) (.tmp 5) hQ2022 b2024 b2025 (fun _ _ => rowAt.so hb_d2023 (by omega)) ?_
   refine Dl 3 14 15 B134 6 5 A (4 * 1) (.tmp 6) (N8 (b.getD 4 0)) [N8 (b.getD 4 0)] hQ2022 at2026 ?_
   refine Tk 4 14 31 B134 6 (I1 (IntKind.u16.wrap (b.getD 4 0))) hQ2022 ?_
   refine Tk 5 14 63 B134 6 (I1 (bshl .u16 (IntKind.u16.wrap (b.getD 4 0)) 8)) hQ2022 ?_
   refine Tk 6 14 127 B134 6 (VL A b.length c) hQ2022 ?_
   refine Tk 7 14 255 B134 6 (I6 4) hQ2022 ?_
   refine Tk 8 14 511 B134 6 (I6 5) hQ2022 ?_
   have b2027 : (0 : Int) ≤ 5 := by omega
   have b2028 : 5 < ((b.length : Nat) : Int) := by omega
   obtain ⟨at2029, lo2029, hi2029⟩ := At.int [] hb_d2023 5 (by omega)
   simp only [IntKind.lo, IntKind.hi] at lo2029 hi2029
   refine Dx 9 14 1023 B134 6 22 5 1 A b.length c .i64 5 (.tmp 10) (.tmp 12) hQ2022 b2027 b2028 (fun _ _ => rowAt.so hb_d2023 (by omega)) ?_
   refine Dl 10 14 2047 B134 6 5 A (5 * 1) (.tmp 13) (N8 (b.getD 5 0)) [N8 (b.getD 5 0)] hQ2022 at2029 ?_
   refine Tk 11 14 4095 B134 6 (I1 (IntKind.u16.wrap (b.getD 5 0))) hQ2022 ?_
   refine Tk 12 14 8191 B134 6 (I1 (bor .u16 (bshl .u16 (IntKind.u16.wrap (b.getD 4 0)) 8) (IntKind.u16.wrap (b.getD 5 0)))) hQ2022 ?_
   refine Dk 16 .u16 ((b.getD 4 0) * 256 + (b.getD 5 0)) rfl (or16 (by omega) (by omega)) ?_
   refine Ts [13] 14 16383 0 1 hQ2022 ?_
   refine XD.done (by kernel_rfl) ?_
   refine Rn 2 (.ex .ret) [] ⟨17, [(3, I1 ((b.getD 4 0) * 256 + (b.getD 5 0)))], [(1001, ⟨22, [VL A b.length c]⟩), (1002, ⟨113, [I8 0, I8 0, I8 0, I1 0, I1 0, I8 0, I8 0, I8 0, I8 0, I8 0, I8 0, I8 0, I8 0]⟩), (1007, ⟨113, [I8 0, I8 0, I8 0, I1 0, I1 0, I8 0, I8 0, I8 0, I8 0, I8 0, I8 0, I8 0, I8 0]⟩)]⟩ ?_
   refine fin2022 _ _ _ _ [N1 ((b.getD 4 0) * 256 + (b.getD 5 0))] [(1, ⟨22, [VL A b.length c]⟩), (2, ⟨113, [I8 0, I8 0, I8 0, I1 0, I1 0, I8 0, I8 0, I8 0, I8 0, I8 0, I8 0, I8 0, I8 0]⟩), (7, ⟨113, [I8 0, I8 0, I8 0, I1 0, I1 0, I8 0, I8 0, I8 0, I8 0, I8 0, I8 0, I8 0, I8 0]⟩)] (.inl rfl) (by kernel_rfl) (by kernel_rfl) ?_
   refine X.back ⟨⟨⟨fun _ h => (by cases h; rfl), rfl⟩, trivial⟩, Le.refl _, rfl, ?_⟩
   refine Dn ⟨73, [(1, .own 1 0), (2, .own 2 0), (3, VT (⟨#[]⟩ : ByteArray)), (4, I6 0), (6, I6 ((b.getD 2 0) * 256 + (b.getD 3 0))), (7, .own 7 0), (18, I8 (b.getD 1 0)), (20, I1 ((b.getD 4 0) * 256 + (b.getD 5 0))), (21, .fn 134 [(1, 0)]), (25, I8 (b.getD 8 0)), (28, I8 (b.getD 9 0)), (32, .v (.agg #[N8 (b.getD 12 0), N8 (b.getD 13 0), N8 (b.getD 14 0), N8 (b.getD 15 0)])), (36, .v (.agg #[N8 (b.getD 16 0), N8 (b.getD 17 0), N8 (b.getD 18 0), N8 (b.getD 19 0)]))], [(1, ⟨22, [VL A b.length c]⟩), (2, ⟨113, [I8 0, I8 0, I8 0, I1 0, I1 0, I8 0, I8 0, I8 0, I8 0, I8 0, I8 0, I8 0, I8 0]⟩), (7, ⟨113, [I8 0, I8 0, I8 0, I1 0, I1 0, I8 0, I8 0, I8 0, I8 0, I8 0, I8 0, I8 0, I8 0]⟩)]⟩ ⟨⟨fun _ h => (by cases h; rfl), rfl⟩, trivial⟩ ?_
   refine XD.rows [] (R' := []) rfl rfl ?_
   exact hL21_6291391 () _ (Ge.refl _ _)
end Go.Proofs.YtjgpdbkkpomhjaaX
