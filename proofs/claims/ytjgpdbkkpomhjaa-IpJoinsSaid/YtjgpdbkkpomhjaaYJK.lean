/- leatref46.put. Walked; printed by a small program of this session. Conditions: none. -/
import Derived.Test.YtjgpdbkkpomhjaaProg
import Derived.KernelRfl
import Derived.Test.YtjgpdbkkpomhjaaYJ8
import Derived.Test.YtjgpdbkkpomhjaaYJG
namespace Go.Proofs.YtjgpdbkkpomhjaaX
open Go.RowKit
open Go.Proofs.YtjgpdbkkpomhjaaW.PrintLast
set_option linter.unusedVariables false
set_option linter.unusedSimpArgs false
set_option maxRecDepth 100000
/-- leat/leatref46.put -/
noncomputable def B145 : Code := bodyOf Try.f145
set_option maxHeartbeats 4000000 in
theorem rPut_ok2 (A : Option Addr) (c : Nat) (xs : List Pk) (x : Pk) (G : Mem) (hr : rowAt pkD G A xs) (hle : xs.length ≤ c) (hmx : c ≤ maxLen) (hn : xs.length ≤ 1000) (hok : ∀ x ∈ xs, okP x) (hx : okP x) : CallsG Try.prog 145 [.slice A xs.length c, .agg #[.int .u8 x.1.x0, .int .u8 x.1.x1, .int .u8 x.1.x2, .int .u16 x.1.x3, .int .u16 x.1.x4, .int .u8 x.1.x5, .int .u8 x.1.x6, .int .u8 x.1.x7, .int .u8 x.1.x8, .int .u8 x.1.x9, .int .u8 x.1.y0, .int .u8 x.1.y1, .int .u8 x.1.y2, .string x.2]] G (fun _ v rows => ∃ A' c', v = .slice A' (insP plI xs x).length c' ∧ rows = [⟨196, 14, .slice A' (insP plI xs x).length c', (insP plI xs x).length, (insP plI xs x).flatMap pkC⟩]) := by
 simp only [maxLen] at hmx
 refine CallsG.enter Try.func145 rfl rfl ?_
 intro w
 refine Rn 13 (Qc B145 28) [.blk 0, Qs B145 15] ⟨36, [(0, VL A xs.length c), (3, .own 3 0), (4, VL none 0 0), (5, I6 0)], [(3, ⟨196, [I8 x.1.x0, I8 x.1.x1, I8 x.1.x2, I1 x.1.x3, I1 x.1.x4, I8 x.1.x5, I8 x.1.x6, I8 x.1.x7, I8 x.1.x8, I8 x.1.x9, I8 x.1.y0, I8 x.1.y1, I8 x.1.y2, VT x.2]⟩)]⟩ ?_
 refine X.loopJ (fun m s R' G' => ∃ (i_ : Nat), s = ⟨36, [(0, VL A xs.length c), (3, .own 3 0), (4, VL none 0 0), (5, I6 (i_ : Int))], [(3, ⟨196, [I8 x.1.x0, I8 x.1.x1, I8 x.1.x2, I1 x.1.x3, I1 x.1.x4, I8 x.1.x5, I8 x.1.x6, I8 x.1.x7, I8 x.1.x8, I8 x.1.x9, I8 x.1.y0, I8 x.1.y1, I8 x.1.y2, VT x.2]⟩)]⟩ ∧ R' = [] ∧ Ge G w.heap.size G' ∧ (i_ ≤ xs.length ∧ ∀ j_, j_ < i_ → plI (xs.getD j_ pk0) ≤ plI x) ∧ m = (xs.length - i_)) _ ⟨0, rfl, rfl, Ge.refl _ _, ⟨by omega, fun _ h_ => absurd h_ (Nat.not_lt_zero _)⟩, rfl⟩ ?_
 rintro m1 s1 R1 G1 ⟨i_, rfl, rfl, hG1, hF1, rfl⟩ J1 hJ1
 replace hr := hr.mono hG1.le
 obtain ⟨hi_, hj_⟩ := hF1
 refine Rn 2 (Qc B145 224) [Qs B145 225, Qs B145 113, .loop J1, .blk 0, Qs B145 15] ⟨36, [(0, VL A xs.length c), (3, .own 3 0), (4, VL none 0 0), (5, I6 (i_ : Int))], [(3, ⟨196, [I8 x.1.x0, I8 x.1.x1, I8 x.1.x2, I1 x.1.x3, I1 x.1.x4, I8 x.1.x5, I8 x.1.x6, I8 x.1.x7, I8 x.1.x8, I8 x.1.x9, I8 x.1.y0, I8 x.1.y1, I8 x.1.y2, VT x.2]⟩)]⟩ ?_
 have hr_d2 := hr
 refine Og 2 B145 224 16 [⟨some 3, 3, 196, [I8 x.1.x0, I8 x.1.x1, I8 x.1.x2, I1 x.1.x3, I1 x.1.x4, I8 x.1.x5, I8 x.1.x6, I8 x.1.x7, I8 x.1.x8, I8 x.1.x9, I8 x.1.y0, I8 x.1.y1, I8 x.1.y2, VT x.2]⟩] [] [] ⟨⟨fun _ h => (by cases h; rfl), rfl⟩, trivial⟩ (by intro p hp hn; simp only [List.mem_cons, List.not_mem_nil, or_false] at hp; rcases hp with rfl <;> first | (cases hn; done) | exact absurd _ (Nat.le_of_ble_eq_true rfl)) (fun ρ0 => ?_)
 refine Tk 0 16 1 B145 224 (I6 (i_ : Int)) QOk.ctxG ?_
 refine Tk 1 16 3 B145 224 (VL A xs.length c) QOk.ctxG ?_
 refine Tk 2 16 7 B145 224 (I6 (xs.length : Int)) QOk.ctxG ?_
 refine Tk 3 16 15 B145 224 (VB (decide ((i_ : Int) < (xs.length : Int)))) QOk.ctxG ?_
 refine Tk 4 16 31 B145 224 (VB (decide ((i_ : Int) < (xs.length : Int)))) QOk.ctxG ?_
 refine XD.split 10 rfl (fun h3 => ?_) (fun h3 => ?_)
 ·
  replace h3 : (i_ : Int) < ((xs.length : Nat) : Int) := of_decide_eq_true h3
  refine Tk 5 16 63 B145 224 (VL A xs.length c) QOk.ctxG ?_
  refine Tk 6 16 127 B145 224 (I6 (i_ : Int)) QOk.ctxG ?_
  have b4 : (0 : Int) ≤ (i_ : Int) := by omega
  have b5 : (i_ : Int) < ((xs.length : Nat) : Int) := by omega
  have at6 := At.pk [] hr_d2 (((i_ : Int)).toNat) (by omega)
  simp only [pkC] at at6
  refine Dx 7 16 255 B145 224 192 196 14 A xs.length c .i64 (i_ : Int) (.tmp 11) (.tmp 12) QOk.ctxG b4 b5 (fun _ _ => rowAt.so hr_d2 (by omega)) ?_
  refine XD.field (i := 8) (l' := (lb 16 511)) (o := (oA B145 (pa 224) 8)) (t := 196) (f := 0) (n := 0) (A := A) (j := ((i_ : Int)).toNat * 14) (x := .tmp 13) QOk.ctxG (by kernel_rfl) (by kernel_rfl) (by kernel_rfl) (by kernel_rfl) (by kernel_rfl) (by kernel_rfl) (by kernel_rfl) ?_
  refine Dl 9 16 1023 B145 224 113 A (((i_ : Int)).toNat * 14 + 0) (.tmp 14) (.agg #[N8 ((xs.getD (((i_ : Int)).toNat) pk0).1.x0), N8 ((xs.getD (((i_ : Int)).toNat) pk0).1.x1), N8 ((xs.getD (((i_ : Int)).toNat) pk0).1.x2), N1 ((xs.getD (((i_ : Int)).toNat) pk0).1.x3), N1 ((xs.getD (((i_ : Int)).toNat) pk0).1.x4), N8 ((xs.getD (((i_ : Int)).toNat) pk0).1.x5), N8 ((xs.getD (((i_ : Int)).toNat) pk0).1.x6), N8 ((xs.getD (((i_ : Int)).toNat) pk0).1.x7), N8 ((xs.getD (((i_ : Int)).toNat) pk0).1.x8), N8 ((xs.getD (((i_ : Int)).toNat) pk0).1.x9), N8 ((xs.getD (((i_ : Int)).toNat) pk0).1.y0), N8 ((xs.getD (((i_ : Int)).toNat) pk0).1.y1), N8 ((xs.getD (((i_ : Int)).toNat) pk0).1.y2)]) [N8 ((xs.getD (((i_ : Int)).toNat) pk0).1.x0), N8 ((xs.getD (((i_ : Int)).toNat) pk0).1.x1), N8 ((xs.getD (((i_ : Int)).toNat) pk0).1.x2), N1 ((xs.getD (((i_ : Int)).toNat) pk0).1.x3), N1 ((xs.getD (((i_ : Int)).toNat) pk0).1.x4), N8 ((xs.getD (((i_ : Int)).toNat) pk0).1.x5), N8 ((xs.getD (((i_ : Int)).toNat) pk0).1.x6), N8 ((xs.getD (((i_ : Int)).toNat) pk0).1.x7), N8 ((xs.getD (((i_ : Int)).toNat) pk0).1.x8), N8 ((xs.getD (((i_ : Int)).toNat) pk0).1.x9), N8 ((xs.getD (((i_ : Int)).toNat) pk0).1.y0), N8 ((xs.getD (((i_ : Int)).toNat) pk0).1.y1), N8 ((xs.getD (((i_ : Int)).toNat) pk0).1.y2)] QOk.ctxG (at6.part 0 13) ?_
  refine Ts [11, 12] 16 7167 4 6 QOk.ctxG ?_
  refine Dn ⟨36, [(0, VL A xs.length c), (3, .own 3 0), (4, VL none 0 0), (5, I6 (i_ : Int)), (10, VB true), (15, .v (.agg #[N8 ((xs.getD (((i_ : Int)).toNat) pk0).1.x0), N8 ((xs.getD (((i_ : Int)).toNat) pk0).1.x1), N8 ((xs.getD (((i_ : Int)).toNat) pk0).1.x2), N1 ((xs.getD (((i_ : Int)).toNat) pk0).1.x3), N1 ((xs.getD (((i_ : Int)).toNat) pk0).1.x4), N8 ((xs.getD (((i_ : Int)).toNat) pk0).1.x5), N8 ((xs.getD (((i_ : Int)).toNat) pk0).1.x6), N8 ((xs.getD (((i_ : Int)).toNat) pk0).1.x7), N8 ((xs.getD (((i_ : Int)).toNat) pk0).1.x8), N8 ((xs.getD (((i_ : Int)).toNat) pk0).1.x9), N8 ((xs.getD (((i_ : Int)).toNat) pk0).1.y0), N8 ((xs.getD (((i_ : Int)).toNat) pk0).1.y1), N8 ((xs.getD (((i_ : Int)).toNat) pk0).1.y2)])), (18, .v (.agg #[N8 x.1.x0, N8 x.1.x1, N8 x.1.x2, N1 x.1.x3, N1 x.1.x4, N8 x.1.x5, N8 x.1.x6, N8 x.1.x7, N8 x.1.x8, N8 x.1.x9, N8 x.1.y0, N8 x.1.y1, N8 x.1.y2]))], [(3, ⟨196, [I8 x.1.x0, I8 x.1.x1, I8 x.1.x2, I1 x.1.x3, I1 x.1.x4, I8 x.1.x5, I8 x.1.x6, I8 x.1.x7, I8 x.1.x8, I8 x.1.x9, I8 x.1.y0, I8 x.1.y1, I8 x.1.y2, VT x.2]⟩)]⟩ ⟨⟨fun _ h => (by cases h; rfl), rfl⟩, trivial⟩ ?_
  refine Do 10 16 8191 B145 224 ?_
  refine Cg 146 [.agg #[N8 ((xs.getD (((i_ : Int)).toNat) pk0).1.x0), N8 ((xs.getD (((i_ : Int)).toNat) pk0).1.x1), N8 ((xs.getD (((i_ : Int)).toNat) pk0).1.x2), N1 ((xs.getD (((i_ : Int)).toNat) pk0).1.x3), N1 ((xs.getD (((i_ : Int)).toNat) pk0).1.x4), N8 ((xs.getD (((i_ : Int)).toNat) pk0).1.x5), N8 ((xs.getD (((i_ : Int)).toNat) pk0).1.x6), N8 ((xs.getD (((i_ : Int)).toNat) pk0).1.x7), N8 ((xs.getD (((i_ : Int)).toNat) pk0).1.x8), N8 ((xs.getD (((i_ : Int)).toNat) pk0).1.x9), N8 ((xs.getD (((i_ : Int)).toNat) pk0).1.y0), N8 ((xs.getD (((i_ : Int)).toNat) pk0).1.y1), N8 ((xs.getD (((i_ : Int)).toNat) pk0).1.y2)]] 0 (Place_ok (xs.getD (((i_ : Int)).toNat) pk0).1 _ (hok _ (getD_mem (by omega))).1) ?_
  rintro v7 G7 rows7 hG7 ⟨rfl, rfl⟩
  replace hr := hr.mono hG7.le
  refine X.back ⟨⟨⟨fun _ h => (by cases h; rfl), rfl⟩, trivial⟩, hG7.le, rfl, ?_⟩
  refine Dn ⟨36, [(0, VL A xs.length c), (3, .own 3 0), (4, VL none 0 0), (5, I6 (i_ : Int)), (10, VB true), (16, I6 ((xs.getD (((i_ : Int)).toNat) pk0).1.x4 % 8192)), (18, .v (.agg #[N8 x.1.x0, N8 x.1.x1, N8 x.1.x2, N1 x.1.x3, N1 x.1.x4, N8 x.1.x5, N8 x.1.x6, N8 x.1.x7, N8 x.1.x8, N8 x.1.x9, N8 x.1.y0, N8 x.1.y1, N8 x.1.y2]))], [(3, ⟨196, [I8 x.1.x0, I8 x.1.x1, I8 x.1.x2, I1 x.1.x3, I1 x.1.x4, I8 x.1.x5, I8 x.1.x6, I8 x.1.x7, I8 x.1.x8, I8 x.1.x9, I8 x.1.y0, I8 x.1.y1, I8 x.1.y2, VT x.2]⟩)]⟩ ⟨⟨fun _ h => (by cases h; rfl), rfl⟩, trivial⟩ ?_
  refine Do 13 16 16383 B145 224 ?_
  refine Cg 146 [.agg #[N8 x.1.x0, N8 x.1.x1, N8 x.1.x2, N1 x.1.x3, N1 x.1.x4, N8 x.1.x5, N8 x.1.x6, N8 x.1.x7, N8 x.1.x8, N8 x.1.x9, N8 x.1.y0, N8 x.1.y1, N8 x.1.y2]] 0 (Place_ok x.1 _ hx.1) ?_
  rintro v8 G8 rows8 hG8 ⟨rfl, rfl⟩
  replace hr := hr.mono hG8.le
  refine X.back ⟨⟨⟨fun _ h => (by cases h; rfl), rfl⟩, trivial⟩, (hG7.trans hG8).le, rfl, ?_⟩
  refine Ts [14, 15] 16 65535 0 2 QOk.ctxG ?_
  refine XD.done (by kernel_rfl) ?_
  refine Rn 1 (Qc B145 225) [Qs B145 113, .loop J1, .blk 0, Qs B145 15] ⟨36, [(0, VL A xs.length c), (3, .own 3 0), (4, VL none 0 0), (5, I6 (i_ : Int)), (21, VB (decide ((xs.getD (((i_ : Int)).toNat) pk0).1.x4 % 8192 ≤ x.1.x4 % 8192)))], [(3, ⟨196, [I8 x.1.x0, I8 x.1.x1, I8 x.1.x2, I1 x.1.x3, I1 x.1.x4, I8 x.1.x5, I8 x.1.x6, I8 x.1.x7, I8 x.1.x8, I8 x.1.x9, I8 x.1.y0, I8 x.1.y1, I8 x.1.y2, VT x.2]⟩)]⟩ ?_
  refine X.split 21 rfl (fun h9 => ?_) (fun h9 => ?_)
  ·
   replace h9 : (xs.getD (((i_ : Int)).toNat) pk0).1.x4 % 8192 ≤ x.1.x4 % 8192 := of_decide_eq_true h9
   have hle_ : plI (xs.getD i_ pk0) ≤ plI x := h9
   refine Rn 7 (Qo B145 226 2) [.blk 1, .loop J1, .blk 0, Qs B145 15] ⟨36, [(0, VL A xs.length c), (3, .own 3 0), (4, VL none 0 0), (5, I6 (i_ : Int)), (23, I6 (IntKind.i64.wrap ((i_ : Int) + 1)))], [(3, ⟨196, [I8 x.1.x0, I8 x.1.x1, I8 x.1.x2, I1 x.1.x3, I1 x.1.x4, I8 x.1.x5, I8 x.1.x6, I8 x.1.x7, I8 x.1.x8, I8 x.1.x9, I8 x.1.y0, I8 x.1.y1, I8 x.1.y2, VT x.2]⟩)]⟩ ?_
   refine Kn 23 .i64 ((i_ : Int) + 1) rfl (wi64 (by omega) (by omega)) ?_
   refine Rn 3 (.ex .normal) [.loop J1, .blk 0, Qs B145 15] ⟨36, [(0, VL A xs.length c), (3, .own 3 0), (4, VL none 0 0), (5, I6 ((i_ : Int) + 1))], [(3, ⟨196, [I8 x.1.x0, I8 x.1.x1, I8 x.1.x2, I1 x.1.x3, I1 x.1.x4, I8 x.1.x5, I8 x.1.x6, I8 x.1.x7, I8 x.1.x8, I8 x.1.x9, I8 x.1.y0, I8 x.1.y1, I8 x.1.y2, VT x.2]⟩)]⟩ ?_
   exact X.again (hJ1 _ _ _ _ ⟨(i_ + 1), rfl, rfl, ((hG1.trans hG7).trans hG8), ⟨by omega, fun j_ h_ => by
    rcases Nat.lt_or_ge j_ i_ with h1_ | h1_
    · exact hj_ j_ h1_
    · rw [show j_ = i_ by omega]; exact hle_⟩, rfl⟩ (by omega))
  ·
   replace h9 : ¬ ((xs.getD (((i_ : Int)).toNat) pk0).1.x4 % 8192 ≤ x.1.x4 % 8192) := of_decide_eq_false h9
   have hst_ : i_ = xs.length ∨ plI x < plI (xs.getD i_ pk0) := .inr (Int.not_le.mp h9)
   refine Rn 7 (Qc B145 30) [Qs B145 31] ⟨36, [(0, VL A xs.length c), (3, .own 3 0), (4, VL none 0 0), (5, I6 (i_ : Int))], [(3, ⟨196, [I8 x.1.x0, I8 x.1.x1, I8 x.1.x2, I1 x.1.x3, I1 x.1.x4, I8 x.1.x5, I8 x.1.x6, I8 x.1.x7, I8 x.1.x8, I8 x.1.x9, I8 x.1.y0, I8 x.1.y1, I8 x.1.y2, VT x.2]⟩)]⟩ ?_
   have hr_d10 := hr
   refine Og 4 B145 30 13 [⟨some 3, 3, 196, [I8 x.1.x0, I8 x.1.x1, I8 x.1.x2, I1 x.1.x3, I1 x.1.x4, I8 x.1.x5, I8 x.1.x6, I8 x.1.x7, I8 x.1.x8, I8 x.1.x9, I8 x.1.y0, I8 x.1.y1, I8 x.1.y2, VT x.2]⟩] [] [] ⟨⟨fun _ h => (by cases h; rfl), rfl⟩, trivial⟩ (by intro p hp hn; simp only [List.mem_cons, List.not_mem_nil, or_false] at hp; rcases hp with rfl <;> first | (cases hn; done) | exact absurd _ (Nat.le_of_ble_eq_true rfl)) (fun ρ0 => ?_)
   refine Tk 1 13 2 B145 30 (VL A xs.length c) QOk.ctxG ?_
   refine Tk 2 13 6 B145 30 (I6 (i_ : Int)) QOk.ctxG ?_
   have hlo11 : 0 ≤ ((i_ : Int)).toNat := by omega
   have hhi11 : ((i_ : Int)).toNat ≤ xs.length := by omega
   refine XD.cut (i := 3) (l' := (lb 13 14)) (o := (oA B145 (pa 30) 3)) (t := 192) (e := 196) (sz := 14) (n := xs.length) (c := c) (A := A) (x := .tmp 25) (l0 := none) (h := (some (.tmp 26))) (lv := none) (hv := (some (N6 (i_ : Int)))) 0 (((i_ : Int)).toNat) QOk.ctxG (by kernel_rfl) (by kernel_rfl) (by kernel_rfl) (by kernel_rfl) (by kernel_rfl) (by kernel_rfl) (by kernel_rfl) (by kernel_rfl) (by kernel_rfl) (rfl) (⟨_, _, rfl, by omega, rfl⟩) hlo11 (Nat.le_trans hhi11 hle) (by kernel_rfl) ?_
   obtain ⟨A11, hA11⟩ : ∃ A_, cutA A c 0 14 = A_ := ⟨_, rfl⟩
   obtain ⟨ys11, hys11⟩ : ∃ l_, (xs.take (((i_ : Int)).toNat)).drop 0 = l_ := ⟨_, rfl⟩
   have hr11 : rowAt pkD G8 (cutA A c 0 14) ((xs.take (((i_ : Int)).toNat)).drop 0) := rowAt_cut hr hlo11 hhi11 hle
   have hl11 : (((i_ : Int)).toNat) - 0 = ys11.length := by rw [← hys11, List.length_drop, List.length_take]; omega
   have hc11 : ys11.length ≤ c - 0 := by omega
   have hm11 : c - 0 ≤ maxLen := Nat.le_trans (Nat.sub_le _ _) hmx
   rw [hys11, show cutA A c 0 _ = A11 from hA11] at hr11
   rw [hA11, hl11]
   refine Tk 5 13 46 B145 30 (.v (.agg #[N8 x.1.x0, N8 x.1.x1, N8 x.1.x2, N1 x.1.x3, N1 x.1.x4, N8 x.1.x5, N8 x.1.x6, N8 x.1.x7, N8 x.1.x8, N8 x.1.x9, N8 x.1.y0, N8 x.1.y1, N8 x.1.y2, .string x.2])) QOk.ctxG ?_
   refine Tk 8 13 302 B145 30 (VL A xs.length c) QOk.ctxG ?_
   refine Tk 9 13 814 B145 30 (I6 (i_ : Int)) QOk.ctxG ?_
   have hlo12 : ((i_ : Int)).toNat ≤ xs.length := by omega
   have hhi12 : xs.length ≤ xs.length := by omega
   refine XD.cut (i := 10) (l' := (lb 13 1838)) (o := (oA B145 (pa 30) 10)) (t := 192) (e := 196) (sz := 14) (n := xs.length) (c := c) (A := A) (x := .tmp 32) (l0 := (some (.tmp 33))) (h := none) (lv := (some (N6 (i_ : Int)))) (hv := none) (((i_ : Int)).toNat) xs.length QOk.ctxG (by kernel_rfl) (by kernel_rfl) (by kernel_rfl) (by kernel_rfl) (by kernel_rfl) (by kernel_rfl) (by kernel_rfl) (by kernel_rfl) (by kernel_rfl) (⟨_, _, rfl, by omega, rfl⟩) (rfl) hlo12 (Nat.le_trans hhi12 hle) (by kernel_rfl) ?_
   obtain ⟨A12, hA12⟩ : ∃ A_, cutA A c (((i_ : Int)).toNat) 14 = A_ := ⟨_, rfl⟩
   obtain ⟨ys12, hys12⟩ : ∃ l_, (xs.take xs.length).drop (((i_ : Int)).toNat) = l_ := ⟨_, rfl⟩
   have hr12 : rowAt pkD G8 (cutA A c (((i_ : Int)).toNat) 14) ((xs.take xs.length).drop (((i_ : Int)).toNat)) := rowAt_cut hr hlo12 hhi12 hle
   have hl12 : xs.length - (((i_ : Int)).toNat) = ys12.length := by rw [← hys12, List.length_drop, List.length_take]; omega
   have hc12 : ys12.length ≤ c - (((i_ : Int)).toNat) := by omega
   have hm12 : c - (((i_ : Int)).toNat) ≤ maxLen := Nat.le_trans (Nat.sub_le _ _) hmx
   rw [hys12, show cutA A c (((i_ : Int)).toNat) _ = A12 from hA12] at hr12
   rw [hA12, hl12]
   refine XD.joinA (α := Option Addr × Nat × Option Addr) (fun x_ => ⟨36, [(3, .own 3 0), (4, VL none 0 0), (28, VL x_.1 (0 + ys11.length) x_.2.1), (30, VL x_.2.2 1 1), (34, VL A12 ys12.length (c - (((i_ : Int)).toNat)))], [(3, ⟨196, [I8 x.1.x0, I8 x.1.x1, I8 x.1.x2, I1 x.1.x3, I1 x.1.x4, I8 x.1.x5, I8 x.1.x6, I8 x.1.x7, I8 x.1.x8, I8 x.1.x9, I8 x.1.y0, I8 x.1.y1, I8 x.1.y2, VT x.2]⟩)]⟩) (fun x_ => [(24, RR 196 14 x_.1 (0 + ys11.length) x_.2.1 (([] ++ ys11).flatMap pkC)), (30, RR 196 14 x_.2.2 1 1 [N8 x.1.x0, N8 x.1.x1, N8 x.1.x2, N1 x.1.x3, N1 x.1.x4, N8 x.1.x5, N8 x.1.x6, N8 x.1.x7, N8 x.1.x8, N8 x.1.x9, N8 x.1.y0, N8 x.1.y1, N8 x.1.y2, .string x.2])]) (lb 13 1919) 3 ?_ fun hL12_1919 => ?_
   ·
    rintro ⟨A2013, c2013, A2813⟩ G6013 hG6013
    replace hr := hr.mono hG6013.le
    replace hr11 := hr11.mono hG6013.le
    replace hr12 := hr12.mono hG6013.le
    refine Dn ⟨36, [(3, .own 3 0), (4, VL none 0 0), (28, VL A2013 (0 + ys11.length) c2013), (30, VL A2813 1 1), (34, VL A12 ys12.length (c - (((i_ : Int)).toNat)))], [(3, ⟨196, [I8 x.1.x0, I8 x.1.x1, I8 x.1.x2, I1 x.1.x3, I1 x.1.x4, I8 x.1.x5, I8 x.1.x6, I8 x.1.x7, I8 x.1.x8, I8 x.1.x9, I8 x.1.y0, I8 x.1.y1, I8 x.1.y2, VT x.2]⟩)]⟩ ⟨⟨fun _ h => (by cases h; rfl), rfl⟩, trivial⟩ ?_
    refine XD.rows [24, 30] (R' := [(24, RR 196 14 A2013 (0 + ys11.length) c2013 (([] ++ ys11).flatMap pkC)), (30, RR 196 14 A2813 1 1 [N8 x.1.x0, N8 x.1.x1, N8 x.1.x2, N1 x.1.x3, N1 x.1.x4, N8 x.1.x5, N8 x.1.x6, N8 x.1.x7, N8 x.1.x8, N8 x.1.x9, N8 x.1.y0, N8 x.1.y1, N8 x.1.y2, .string x.2])]) rfl rfl ?_
    refine Dn ⟨36, [(3, .own 3 0), (4, VL none 0 0), (28, VL A2013 (0 + ys11.length) c2013), (30, VL A2813 1 1), (34, VL A12 ys12.length (c - (((i_ : Int)).toNat)))], [(3, ⟨196, [I8 x.1.x0, I8 x.1.x1, I8 x.1.x2, I1 x.1.x3, I1 x.1.x4, I8 x.1.x5, I8 x.1.x6, I8 x.1.x7, I8 x.1.x8, I8 x.1.x9, I8 x.1.y0, I8 x.1.y1, I8 x.1.y2, VT x.2]⟩)]⟩ ⟨⟨fun _ h => (by cases h; rfl), rfl⟩, trivial⟩ ?_
    refine Do 7 13 2047 B145 30 ?_
    refine Ap 24 (RR 196 14 A2013 (0 + ys11.length) c2013 (([] ++ ys11).flatMap pkC)) 192 32 (.agg #[N8 0, N8 0, N8 0, N1 0, N1 0, N8 0, N8 0, N8 0, N8 0, N8 0, N8 0, N8 0, N8 0, .string ByteArray.empty]) (.tmp 28) (.tmp 30) (0 + ys11.length) c2013 1 1 A2013 A2813 [N8 x.1.x0, N8 x.1.x1, N8 x.1.x2, N1 x.1.x3, N1 x.1.x4, N8 x.1.x5, N8 x.1.x6, N8 x.1.x7, N8 x.1.x8, N8 x.1.x9, N8 x.1.y0, N8 x.1.y1, N8 x.1.y2, .string x.2] (.inl rfl) (by kernel_rfl) (At.of_row (i := 30) (r := (RR 196 14 A2813 1 1 [N8 x.1.x0, N8 x.1.x1, N8 x.1.x2, N1 x.1.x3, N1 x.1.x4, N8 x.1.x5, N8 x.1.x6, N8 x.1.x7, N8 x.1.x8, N8 x.1.x9, N8 x.1.y0, N8 x.1.y1, N8 x.1.y2, .string x.2])) rfl rfl) (fun w hw e => absurd (rowSome (i := 30) (q := (RR 196 14 A2813 1 1 [N8 x.1.x0, N8 x.1.x1, N8 x.1.x2, N1 x.1.x3, N1 x.1.x4, N8 x.1.x5, N8 x.1.x6, N8 x.1.x7, N8 x.1.x8, N8 x.1.x9, N8 x.1.y0, N8 x.1.y1, N8 x.1.y2, .string x.2])) rfl rfl (Nat.succ_pos _) w hw) (by rw [e]; decide)) (ones (by kernel_rfl)) (by omega) ?_
    intro A3213 c3213 hc3213
    refine X.tellR [24, 30] (R' := [(24, RR 196 14 A3213 (0 + ys11.length + 1) c3213 ((([] ++ ys11) ++ [((⟨x.1.x0, x.1.x1, x.1.x2, x.1.x3, x.1.x4, x.1.x5, x.1.x6, x.1.x7, x.1.x8, x.1.x9, x.1.y0, x.1.y1, x.1.y2⟩ : Ih), x.2)]).flatMap pkC)), (30, RR 196 14 A2813 1 1 [N8 x.1.x0, N8 x.1.x1, N8 x.1.x2, N1 x.1.x3, N1 x.1.x4, N8 x.1.x5, N8 x.1.x6, N8 x.1.x7, N8 x.1.x8, N8 x.1.x9, N8 x.1.y0, N8 x.1.y1, N8 x.1.y2, .string x.2])]) (congrArg (fun cs_ => (24, (RR 196 14 A3213 (0 + ys11.length + 1) c3213 cs_ : Row)) :: [(30, RR 196 14 A2813 1 1 [N8 x.1.x0, N8 x.1.x1, N8 x.1.x2, N1 x.1.x3, N1 x.1.x4, N8 x.1.x5, N8 x.1.x6, N8 x.1.x7, N8 x.1.x8, N8 x.1.x9, N8 x.1.y0, N8 x.1.y1, N8 x.1.y2, .string x.2])]) (flat_snoc pkC ([] ++ ys11) (((⟨x.1.x0, x.1.x1, x.1.x2, x.1.x3, x.1.x4, x.1.x5, x.1.x6, x.1.x7, x.1.x8, x.1.x9, x.1.y0, x.1.y1, x.1.y2⟩ : Ih), x.2) : Pk))) ?_
    refine X.back ⟨⟨⟨fun _ h => (by cases h; rfl), rfl⟩, trivial⟩, hG6013.le, rfl, ?_⟩
    refine Dn ⟨36, [(3, .own 3 0), (4, VL none 0 0), (31, VL A3213 (0 + ys11.length + 1) c3213), (34, VL A12 ys12.length (c - (((i_ : Int)).toNat)))], [(3, ⟨196, [I8 x.1.x0, I8 x.1.x1, I8 x.1.x2, I1 x.1.x3, I1 x.1.x4, I8 x.1.x5, I8 x.1.x6, I8 x.1.x7, I8 x.1.x8, I8 x.1.x9, I8 x.1.y0, I8 x.1.y1, I8 x.1.y2, VT x.2]⟩)]⟩ ⟨⟨fun _ h => (by cases h; rfl), rfl⟩, trivial⟩ ?_
    refine Do 11 13 4095 B145 30 ?_
    refine Aw 24 (RR 196 14 A3213 (0 + ys11.length + 1) c3213 ((([] ++ ys11) ++ [((⟨x.1.x0, x.1.x1, x.1.x2, x.1.x3, x.1.x4, x.1.x5, x.1.x6, x.1.x7, x.1.x8, x.1.x9, x.1.y0, x.1.y1, x.1.y2⟩ : Ih), x.2)]).flatMap pkC)) 192 32 (.agg #[N8 0, N8 0, N8 0, N1 0, N1 0, N8 0, N8 0, N8 0, N8 0, N8 0, N8 0, N8 0, N8 0, .string ByteArray.empty]) (.tmp 31) (.tmp 34) (0 + ys11.length + 1) c3213 ys12.length (c - (((i_ : Int)).toNat)) A3213 A12 (ys12.flatMap pkC) (.inl rfl) (pks_len _) (at_pks [(24, RR 196 14 A3213 (0 + ys11.length + 1) c3213 ((([] ++ ys11) ++ [((⟨x.1.x0, x.1.x1, x.1.x2, x.1.x3, x.1.x4, x.1.x5, x.1.x6, x.1.x7, x.1.x8, x.1.x9, x.1.y0, x.1.y1, x.1.y2⟩ : Ih), x.2)]).flatMap pkC)), (30, RR 196 14 A2813 1 1 [N8 x.1.x0, N8 x.1.x1, N8 x.1.x2, N1 x.1.x3, N1 x.1.x4, N8 x.1.x5, N8 x.1.x6, N8 x.1.x7, N8 x.1.x8, N8 x.1.x9, N8 x.1.y0, N8 x.1.y1, N8 x.1.y2, .string x.2])] hr12) (fun _ _ e => rowAt.none hr12 e) ones_pk (by omega) ?_
    intro A4813 c4813 hc4813
    refine X.tellR [24] (R' := [(24, RR 196 14 A4813 (0 + ys11.length + 1 + ys12.length) c4813 (((([] ++ ys11) ++ [((⟨x.1.x0, x.1.x1, x.1.x2, x.1.x3, x.1.x4, x.1.x5, x.1.x6, x.1.x7, x.1.x8, x.1.x9, x.1.y0, x.1.y1, x.1.y2⟩ : Ih), x.2)]) ++ ys12).flatMap pkC))]) (congrArg (fun cs_ => (24, (RR 196 14 A4813 (0 + ys11.length + 1 + ys12.length) c4813 cs_ : Row)) :: []) (show (([] ++ ys11) ++ [((⟨x.1.x0, x.1.x1, x.1.x2, x.1.x3, x.1.x4, x.1.x5, x.1.x6, x.1.x7, x.1.x8, x.1.x9, x.1.y0, x.1.y1, x.1.y2⟩ : Ih), x.2)]).flatMap pkC ++ (ys12.flatMap pkC) = ((([] ++ ys11) ++ [((⟨x.1.x0, x.1.x1, x.1.x2, x.1.x3, x.1.x4, x.1.x5, x.1.x6, x.1.x7, x.1.x8, x.1.x9, x.1.y0, x.1.y1, x.1.y2⟩ : Ih), x.2)]) ++ ys12).flatMap pkC by simp)) ?_
    refine X.back ⟨⟨⟨fun _ h => (by cases h; rfl), rfl⟩, trivial⟩, hG6013.le, rfl, ?_⟩
    refine Ts [12] 13 8191 0 1 QOk.ctxG ?_
    refine XD.done (by kernel_rfl) ?_
    refine Rn 2 (.ex .ret) [] ⟨36, [(4, VL A4813 (0 + ys11.length + 1 + ys12.length) c4813)], []⟩ ?_
    refine Dg (.inl rfl) [.slice A4813 (0 + ys11.length + 1 + ys12.length) c4813] [24] rfl ((((hG1.trans hG7).trans hG8).trans hG6013)) ?_
    have hF_ : ((([] ++ ys11) ++ [((⟨x.1.x0, x.1.x1, x.1.x2, x.1.x3, x.1.x4, x.1.x5, x.1.x6, x.1.x7, x.1.x8, x.1.x9, x.1.y0, x.1.y1, x.1.y2⟩ : Ih), x.2)]) ++ ys12) = insP plI xs x := by
     rw [insP_at pk0 hi_ hj_ hst_, ← hys11, ← hys12]
     simp only [List.nil_append, List.append_assoc, List.drop_zero, List.take_length]
     rfl
    have hl_ : 0 + ys11.length + 1 + ys12.length = (insP plI xs x).length := by
     rw [← hF_]
     simp only [List.length_append, List.length_cons, List.length_nil] <;> omega
    rw [hF_, hl_]
    exact ⟨_, _, rfl, rfl⟩
   refine XD.joinA (α := Option Addr × Option Addr) (fun x_ => ⟨36, [(3, .own 3 0), (4, VL none 0 0), (24, VL x_.1 0 0), (27, VL A11 ys11.length (c - 0)), (30, VL x_.2 1 1), (34, VL A12 ys12.length (c - (((i_ : Int)).toNat)))], [(3, ⟨196, [I8 x.1.x0, I8 x.1.x1, I8 x.1.x2, I1 x.1.x3, I1 x.1.x4, I8 x.1.x5, I8 x.1.x6, I8 x.1.x7, I8 x.1.x8, I8 x.1.x9, I8 x.1.y0, I8 x.1.y1, I8 x.1.y2, VT x.2]⟩)]⟩) (fun x_ => [(24, RR 196 14 x_.1 0 0 []), (30, RR 196 14 x_.2 1 1 [N8 x.1.x0, N8 x.1.x1, N8 x.1.x2, N1 x.1.x3, N1 x.1.x4, N8 x.1.x5, N8 x.1.x6, N8 x.1.x7, N8 x.1.x8, N8 x.1.x9, N8 x.1.y0, N8 x.1.y1, N8 x.1.y2, .string x.2])]) (lb 13 1903) 4 ?_ fun hL12_1903 => ?_
   ·
    rintro ⟨A413, A2813⟩ G6014 hG6014
    replace hr := hr.mono hG6014.le
    replace hr11 := hr11.mono hG6014.le
    replace hr12 := hr12.mono hG6014.le
    refine Dn ⟨36, [(3, .own 3 0), (4, VL none 0 0), (24, VL A413 0 0), (27, VL A11 ys11.length (c - 0)), (30, VL A2813 1 1), (34, VL A12 ys12.length (c - (((i_ : Int)).toNat)))], [(3, ⟨196, [I8 x.1.x0, I8 x.1.x1, I8 x.1.x2, I1 x.1.x3, I1 x.1.x4, I8 x.1.x5, I8 x.1.x6, I8 x.1.x7, I8 x.1.x8, I8 x.1.x9, I8 x.1.y0, I8 x.1.y1, I8 x.1.y2, VT x.2]⟩)]⟩ ⟨⟨fun _ h => (by cases h; rfl), rfl⟩, trivial⟩ ?_
    refine XD.rows [24, 30] (R' := [(24, RR 196 14 A413 0 0 []), (30, RR 196 14 A2813 1 1 [N8 x.1.x0, N8 x.1.x1, N8 x.1.x2, N1 x.1.x3, N1 x.1.x4, N8 x.1.x5, N8 x.1.x6, N8 x.1.x7, N8 x.1.x8, N8 x.1.x9, N8 x.1.y0, N8 x.1.y1, N8 x.1.y2, .string x.2])]) rfl rfl ?_
    refine Dn ⟨36, [(3, .own 3 0), (4, VL none 0 0), (24, VL A413 0 0), (27, VL A11 ys11.length (c - 0)), (30, VL A2813 1 1), (34, VL A12 ys12.length (c - (((i_ : Int)).toNat)))], [(3, ⟨196, [I8 x.1.x0, I8 x.1.x1, I8 x.1.x2, I1 x.1.x3, I1 x.1.x4, I8 x.1.x5, I8 x.1.x6, I8 x.1.x7, I8 x.1.x8, I8 x.1.x9, I8 x.1.y0, I8 x.1.y1, I8 x.1.y2, VT x.2]⟩)]⟩ ⟨⟨fun _ h => (by cases h; rfl), rfl⟩, trivial⟩ ?_
    refine Do 4 13 1919 B145 30 ?_
    refine Aw 24 (RR 196 14 A413 0 0 []) 192 32 (.agg #[N8 0, N8 0, N8 0, N1 0, N1 0, N8 0, N8 0, N8 0, N8 0, N8 0, N8 0, N8 0, N8 0, .string ByteArray.empty]) (.tmp 24) (.tmp 27) 0 0 ys11.length (c - 0) A413 A11 (ys11.flatMap pkC) (.inl rfl) (pks_len _) (at_pks [(24, RR 196 14 A413 0 0 []), (30, RR 196 14 A2813 1 1 [N8 x.1.x0, N8 x.1.x1, N8 x.1.x2, N1 x.1.x3, N1 x.1.x4, N8 x.1.x5, N8 x.1.x6, N8 x.1.x7, N8 x.1.x8, N8 x.1.x9, N8 x.1.y0, N8 x.1.y1, N8 x.1.y2, .string x.2])] hr11) (fun _ _ e => rowAt.none hr11 e) ones_pk (by omega) ?_
    intro A2013 c2013 hc2013
    refine X.tellR [24, 30] (R' := [(24, RR 196 14 A2013 (0 + ys11.length) c2013 (([] ++ ys11).flatMap pkC)), (30, RR 196 14 A2813 1 1 [N8 x.1.x0, N8 x.1.x1, N8 x.1.x2, N1 x.1.x3, N1 x.1.x4, N8 x.1.x5, N8 x.1.x6, N8 x.1.x7, N8 x.1.x8, N8 x.1.x9, N8 x.1.y0, N8 x.1.y1, N8 x.1.y2, .string x.2])]) (congrArg (fun cs_ => (24, (RR 196 14 A2013 (0 + ys11.length) c2013 cs_ : Row)) :: [(30, RR 196 14 A2813 1 1 [N8 x.1.x0, N8 x.1.x1, N8 x.1.x2, N1 x.1.x3, N1 x.1.x4, N8 x.1.x5, N8 x.1.x6, N8 x.1.x7, N8 x.1.x8, N8 x.1.x9, N8 x.1.y0, N8 x.1.y1, N8 x.1.y2, .string x.2])]) (show [] ++ (ys11.flatMap pkC) = ([] ++ ys11).flatMap pkC by simp)) ?_
    refine X.back ⟨⟨⟨fun _ h => (by cases h; rfl), rfl⟩, trivial⟩, hG6014.le, rfl, ?_⟩
    refine Dn ⟨36, [(3, .own 3 0), (4, VL none 0 0), (28, VL A2013 (0 + ys11.length) c2013), (30, VL A2813 1 1), (34, VL A12 ys12.length (c - (((i_ : Int)).toNat)))], [(3, ⟨196, [I8 x.1.x0, I8 x.1.x1, I8 x.1.x2, I1 x.1.x3, I1 x.1.x4, I8 x.1.x5, I8 x.1.x6, I8 x.1.x7, I8 x.1.x8, I8 x.1.x9, I8 x.1.y0, I8 x.1.y1, I8 x.1.y2, VT x.2]⟩)]⟩ ⟨⟨fun _ h => (by cases h; rfl), rfl⟩, trivial⟩ ?_
    refine XD.rows [24, 30] (R' := [(24, RR 196 14 A2013 (0 + ys11.length) c2013 (([] ++ ys11).flatMap pkC)), (30, RR 196 14 A2813 1 1 [N8 x.1.x0, N8 x.1.x1, N8 x.1.x2, N1 x.1.x3, N1 x.1.x4, N8 x.1.x5, N8 x.1.x6, N8 x.1.x7, N8 x.1.x8, N8 x.1.x9, N8 x.1.y0, N8 x.1.y1, N8 x.1.y2, .string x.2])]) rfl rfl ?_
    exact hL12_1919 (A2013, c2013, A2813) _ hG6014
   refine Dn ⟨36, [(3, .own 3 0), (4, VL none 0 0), (27, VL A11 ys11.length (c - 0)), (29, .v (.agg #[N8 x.1.x0, N8 x.1.x1, N8 x.1.x2, N1 x.1.x3, N1 x.1.x4, N8 x.1.x5, N8 x.1.x6, N8 x.1.x7, N8 x.1.x8, N8 x.1.x9, N8 x.1.y0, N8 x.1.y1, N8 x.1.y2, .string x.2])), (34, VL A12 ys12.length (c - (((i_ : Int)).toNat)))], [(3, ⟨196, [I8 x.1.x0, I8 x.1.x1, I8 x.1.x2, I1 x.1.x3, I1 x.1.x4, I8 x.1.x5, I8 x.1.x6, I8 x.1.x7, I8 x.1.x8, I8 x.1.x9, I8 x.1.y0, I8 x.1.y1, I8 x.1.y2, VT x.2]⟩)]⟩ ⟨⟨fun _ h => (by cases h; rfl), rfl⟩, trivial⟩ ?_
   refine XD.two (i := 0) (j := 6) (li := (lb 13 1839)) (lj := (lb 13 1902)) (oA B145 (pa 30) 0) (oA B145 (pa 30) 6) (by kernel_rfl) (by kernel_rfl) (by kernel_rfl) (by kernel_rfl) (by kernel_rfl) ?_ ?_
   ·
    refine Lt 24 196 14 0 [] ?_
    intro A413
    refine X.back ⟨⟨⟨fun _ h => (by cases h; rfl), rfl⟩, trivial⟩, Le.refl _, rfl, ?_⟩
    refine Dn ⟨36, [(3, .own 3 0), (4, VL none 0 0), (24, VL A413 0 0), (27, VL A11 ys11.length (c - 0)), (29, .v (.agg #[N8 x.1.x0, N8 x.1.x1, N8 x.1.x2, N1 x.1.x3, N1 x.1.x4, N8 x.1.x5, N8 x.1.x6, N8 x.1.x7, N8 x.1.x8, N8 x.1.x9, N8 x.1.y0, N8 x.1.y1, N8 x.1.y2, .string x.2])), (34, VL A12 ys12.length (c - (((i_ : Int)).toNat)))], [(3, ⟨196, [I8 x.1.x0, I8 x.1.x1, I8 x.1.x2, I1 x.1.x3, I1 x.1.x4, I8 x.1.x5, I8 x.1.x6, I8 x.1.x7, I8 x.1.x8, I8 x.1.x9, I8 x.1.y0, I8 x.1.y1, I8 x.1.y2, VT x.2]⟩)]⟩ ⟨⟨fun _ h => (by cases h; rfl), rfl⟩, trivial⟩ ?_
    refine XD.two (i := 4) (j := 6) (li := (lb 13 1855)) (lj := (lb 13 1903)) (oA B145 (pa 30) 4) (oA B145 (pa 30) 6) (by kernel_rfl) (by kernel_rfl) (by kernel_rfl) (by kernel_rfl) (by kernel_rfl) ?_ ?_
    ·
     refine Aw 24 (RR 196 14 A413 0 0 []) 192 32 (.agg #[N8 0, N8 0, N8 0, N1 0, N1 0, N8 0, N8 0, N8 0, N8 0, N8 0, N8 0, N8 0, N8 0, .string ByteArray.empty]) (.tmp 24) (.tmp 27) 0 0 ys11.length (c - 0) A413 A11 (ys11.flatMap pkC) (.inl rfl) (pks_len _) (at_pks [(24, RR 196 14 A413 0 0 [])] hr11) (fun _ _ e => rowAt.none hr11 e) ones_pk (by omega) ?_
     intro A2013 c2013 hc2013
     refine X.tellR [24] (R' := [(24, RR 196 14 A2013 (0 + ys11.length) c2013 (([] ++ ys11).flatMap pkC))]) (congrArg (fun cs_ => (24, (RR 196 14 A2013 (0 + ys11.length) c2013 cs_ : Row)) :: []) (show [] ++ (ys11.flatMap pkC) = ([] ++ ys11).flatMap pkC by simp)) ?_
     refine X.back ⟨⟨⟨fun _ h => (by cases h; rfl), rfl⟩, trivial⟩, Le.refl _, rfl, ?_⟩
     refine Dn ⟨36, [(3, .own 3 0), (4, VL none 0 0), (28, VL A2013 (0 + ys11.length) c2013), (29, .v (.agg #[N8 x.1.x0, N8 x.1.x1, N8 x.1.x2, N1 x.1.x3, N1 x.1.x4, N8 x.1.x5, N8 x.1.x6, N8 x.1.x7, N8 x.1.x8, N8 x.1.x9, N8 x.1.y0, N8 x.1.y1, N8 x.1.y2, .string x.2])), (34, VL A12 ys12.length (c - (((i_ : Int)).toNat)))], [(3, ⟨196, [I8 x.1.x0, I8 x.1.x1, I8 x.1.x2, I1 x.1.x3, I1 x.1.x4, I8 x.1.x5, I8 x.1.x6, I8 x.1.x7, I8 x.1.x8, I8 x.1.x9, I8 x.1.y0, I8 x.1.y1, I8 x.1.y2, VT x.2]⟩)]⟩ ⟨⟨fun _ h => (by cases h; rfl), rfl⟩, trivial⟩ ?_
     refine Do 6 13 1919 B145 30 ?_
     refine Lt 30 196 14 1 [N8 x.1.x0, N8 x.1.x1, N8 x.1.x2, N1 x.1.x3, N1 x.1.x4, N8 x.1.x5, N8 x.1.x6, N8 x.1.x7, N8 x.1.x8, N8 x.1.x9, N8 x.1.y0, N8 x.1.y1, N8 x.1.y2, .string x.2] ?_
     intro A2813
     refine X.back ⟨⟨⟨fun _ h => (by cases h; rfl), rfl⟩, trivial⟩, Le.refl _, rfl, ?_⟩
     refine Dn ⟨36, [(3, .own 3 0), (4, VL none 0 0), (28, VL A2013 (0 + ys11.length) c2013), (30, VL A2813 1 1), (34, VL A12 ys12.length (c - (((i_ : Int)).toNat)))], [(3, ⟨196, [I8 x.1.x0, I8 x.1.x1, I8 x.1.x2, I1 x.1.x3, I1 x.1.x4, I8 x.1.x5, I8 x.1.x6, I8 x.1.x7, I8 x.1.x8, I8 x.1.x9, I8 x.1.y0, I8 x.1.y1, I8 x.1.y2, VT x.2]⟩)]⟩ ⟨⟨fun _ h => (by cases h; rfl), rfl⟩, trivial⟩ ?_
     refine XD.rows [24, 30] (R' := [(24, RR 196 14 A2013 (0 + ys11.length) c2013 (([] ++ ys11).flatMap pkC)), (30, RR 196 14 A2813 1 1 [N8 x.1.x0, N8 x.1.x1, N8 x.1.x2, N1 x.1.x3, N1 x.1.x4, N8 x.1.x5, N8 x.1.x6, N8 x.1.x7, N8 x.1.x8, N8 x.1.x9, N8 x.1.y0, N8 x.1.y1, N8 x.1.y2, .string x.2])]) rfl rfl ?_
     exact hL12_1919 (A2013, c2013, A2813) _ (Ge.refl _ _)
    ·
     refine Lt 30 196 14 1 [N8 x.1.x0, N8 x.1.x1, N8 x.1.x2, N1 x.1.x3, N1 x.1.x4, N8 x.1.x5, N8 x.1.x6, N8 x.1.x7, N8 x.1.x8, N8 x.1.x9, N8 x.1.y0, N8 x.1.y1, N8 x.1.y2, .string x.2] ?_
     intro A2813
     refine X.back ⟨⟨⟨fun _ h => (by cases h; rfl), rfl⟩, trivial⟩, Le.refl _, rfl, ?_⟩
     refine Dn ⟨36, [(3, .own 3 0), (4, VL none 0 0), (24, VL A413 0 0), (27, VL A11 ys11.length (c - 0)), (30, VL A2813 1 1), (34, VL A12 ys12.length (c - (((i_ : Int)).toNat)))], [(3, ⟨196, [I8 x.1.x0, I8 x.1.x1, I8 x.1.x2, I1 x.1.x3, I1 x.1.x4, I8 x.1.x5, I8 x.1.x6, I8 x.1.x7, I8 x.1.x8, I8 x.1.x9, I8 x.1.y0, I8 x.1.y1, I8 x.1.y2, VT x.2]⟩)]⟩ ⟨⟨fun _ h => (by cases h; rfl), rfl⟩, trivial⟩ ?_
     refine XD.rows [24, 30] (R' := [(24, RR 196 14 A413 0 0 []), (30, RR 196 14 A2813 1 1 [N8 x.1.x0, N8 x.1.x1, N8 x.1.x2, N1 x.1.x3, N1 x.1.x4, N8 x.1.x5, N8 x.1.x6, N8 x.1.x7, N8 x.1.x8, N8 x.1.x9, N8 x.1.y0, N8 x.1.y1, N8 x.1.y2, .string x.2])]) rfl rfl ?_
     exact hL12_1903 (A413, A2813) _ (Ge.refl _ _)
   ·
    refine Lt 30 196 14 1 [N8 x.1.x0, N8 x.1.x1, N8 x.1.x2, N1 x.1.x3, N1 x.1.x4, N8 x.1.x5, N8 x.1.x6, N8 x.1.x7, N8 x.1.x8, N8 x.1.x9, N8 x.1.y0, N8 x.1.y1, N8 x.1.y2, .string x.2] ?_
    intro A2813
    refine X.back ⟨⟨⟨fun _ h => (by cases h; rfl), rfl⟩, trivial⟩, Le.refl _, rfl, ?_⟩
    refine Dn ⟨36, [(3, .own 3 0), (4, VL none 0 0), (27, VL A11 ys11.length (c - 0)), (30, VL A2813 1 1), (34, VL A12 ys12.length (c - (((i_ : Int)).toNat)))], [(3, ⟨196, [I8 x.1.x0, I8 x.1.x1, I8 x.1.x2, I1 x.1.x3, I1 x.1.x4, I8 x.1.x5, I8 x.1.x6, I8 x.1.x7, I8 x.1.x8, I8 x.1.x9, I8 x.1.y0, I8 x.1.y1, I8 x.1.y2, VT x.2]⟩)]⟩ ⟨⟨fun _ h => (by cases h; rfl), rfl⟩, trivial⟩ ?_
    refine Do 0 13 1903 B145 30 ?_
    refine Lt 24 196 14 0 [] ?_
    intro A413
    refine X.back ⟨⟨⟨fun _ h => (by cases h; rfl), rfl⟩, trivial⟩, Le.refl _, rfl, ?_⟩
    refine Dn ⟨36, [(3, .own 3 0), (4, VL none 0 0), (24, VL A413 0 0), (27, VL A11 ys11.length (c - 0)), (30, VL A2813 1 1), (34, VL A12 ys12.length (c - (((i_ : Int)).toNat)))], [(3, ⟨196, [I8 x.1.x0, I8 x.1.x1, I8 x.1.x2, I1 x.1.x3, I1 x.1.x4, I8 x.1.x5, I8 x.1.x6, I8 x.1.x7, I8 x.1.x8, I8 x.1.x9, I8 x.1.y0, I8 x.1.y1, I8 x.1.y2, VT x.2]⟩)]⟩ ⟨⟨fun _ h => (by cases h; rfl), rfl⟩, trivial⟩ ?_
    refine XD.rows [24, 30] (R' := [(24, RR 196 14 A413 0 0 []), (30, RR 196 14 A2813 1 1 [N8 x.1.x0, N8 x.1.x1, N8 x.1.x2, N1 x.1.x3, N1 x.1.x4, N8 x.1.x5, N8 x.1.x6, N8 x.1.x7, N8 x.1.x8, N8 x.1.x9, N8 x.1.y0, N8 x.1.y1, N8 x.1.y2, .string x.2])]) rfl rfl ?_
    exact hL12_1903 (A413, A2813) _ (Ge.refl _ _)
 ·
  replace h3 : ¬ ((i_ : Int) < ((xs.length : Nat) : Int)) := of_decide_eq_false h3
  have hst_ : i_ = xs.length ∨ plI x < plI (xs.getD i_ pk0) := .inl (by omega)
  refine Ts [5, 6, 7, 8, 9, 10, 11, 12, 13, 14, 15] 16 65535 0 11 QOk.ctxG ?_
  refine XD.done (by kernel_rfl) ?_
  refine Rn 8 (Qc B145 30) [Qs B145 31] ⟨36, [(0, VL A xs.length c), (3, .own 3 0), (4, VL none 0 0), (5, I6 (i_ : Int))], [(3, ⟨196, [I8 x.1.x0, I8 x.1.x1, I8 x.1.x2, I1 x.1.x3, I1 x.1.x4, I8 x.1.x5, I8 x.1.x6, I8 x.1.x7, I8 x.1.x8, I8 x.1.x9, I8 x.1.y0, I8 x.1.y1, I8 x.1.y2, VT x.2]⟩)]⟩ ?_
  have hr_d6413 := hr
  refine Og 4 B145 30 13 [⟨some 3, 3, 196, [I8 x.1.x0, I8 x.1.x1, I8 x.1.x2, I1 x.1.x3, I1 x.1.x4, I8 x.1.x5, I8 x.1.x6, I8 x.1.x7, I8 x.1.x8, I8 x.1.x9, I8 x.1.y0, I8 x.1.y1, I8 x.1.y2, VT x.2]⟩] [] [] ⟨⟨fun _ h => (by cases h; rfl), rfl⟩, trivial⟩ (by intro p hp hn; simp only [List.mem_cons, List.not_mem_nil, or_false] at hp; rcases hp with rfl <;> first | (cases hn; done) | exact absurd _ (Nat.le_of_ble_eq_true rfl)) (fun ρ0 => ?_)
  refine Tk 1 13 2 B145 30 (VL A xs.length c) QOk.ctxG ?_
  refine Tk 2 13 6 B145 30 (I6 (i_ : Int)) QOk.ctxG ?_
  have hlo6414 : 0 ≤ ((i_ : Int)).toNat := by omega
  have hhi6414 : ((i_ : Int)).toNat ≤ xs.length := by omega
  refine XD.cut (i := 3) (l' := (lb 13 14)) (o := (oA B145 (pa 30) 3)) (t := 192) (e := 196) (sz := 14) (n := xs.length) (c := c) (A := A) (x := .tmp 25) (l0 := none) (h := (some (.tmp 26))) (lv := none) (hv := (some (N6 (i_ : Int)))) 0 (((i_ : Int)).toNat) QOk.ctxG (by kernel_rfl) (by kernel_rfl) (by kernel_rfl) (by kernel_rfl) (by kernel_rfl) (by kernel_rfl) (by kernel_rfl) (by kernel_rfl) (by kernel_rfl) (rfl) (⟨_, _, rfl, by omega, rfl⟩) hlo6414 (Nat.le_trans hhi6414 hle) (by kernel_rfl) ?_
  obtain ⟨A6414, hA6414⟩ : ∃ A_, cutA A c 0 14 = A_ := ⟨_, rfl⟩
  obtain ⟨ys6414, hys6414⟩ : ∃ l_, (xs.take (((i_ : Int)).toNat)).drop 0 = l_ := ⟨_, rfl⟩
  have hr6414 : rowAt pkD G1 (cutA A c 0 14) ((xs.take (((i_ : Int)).toNat)).drop 0) := rowAt_cut hr hlo6414 hhi6414 hle
  have hl6414 : (((i_ : Int)).toNat) - 0 = ys6414.length := by rw [← hys6414, List.length_drop, List.length_take]; omega
  have hc6414 : ys6414.length ≤ c - 0 := by omega
  have hm6414 : c - 0 ≤ maxLen := Nat.le_trans (Nat.sub_le _ _) hmx
  rw [hys6414, show cutA A c 0 _ = A6414 from hA6414] at hr6414
  rw [hA6414, hl6414]
  refine Tk 5 13 46 B145 30 (.v (.agg #[N8 x.1.x0, N8 x.1.x1, N8 x.1.x2, N1 x.1.x3, N1 x.1.x4, N8 x.1.x5, N8 x.1.x6, N8 x.1.x7, N8 x.1.x8, N8 x.1.x9, N8 x.1.y0, N8 x.1.y1, N8 x.1.y2, .string x.2])) QOk.ctxG ?_
  refine Tk 8 13 302 B145 30 (VL A xs.length c) QOk.ctxG ?_
  refine Tk 9 13 814 B145 30 (I6 (i_ : Int)) QOk.ctxG ?_
  have hlo6415 : ((i_ : Int)).toNat ≤ xs.length := by omega
  have hhi6415 : xs.length ≤ xs.length := by omega
  refine XD.cut (i := 10) (l' := (lb 13 1838)) (o := (oA B145 (pa 30) 10)) (t := 192) (e := 196) (sz := 14) (n := xs.length) (c := c) (A := A) (x := .tmp 32) (l0 := (some (.tmp 33))) (h := none) (lv := (some (N6 (i_ : Int)))) (hv := none) (((i_ : Int)).toNat) xs.length QOk.ctxG (by kernel_rfl) (by kernel_rfl) (by kernel_rfl) (by kernel_rfl) (by kernel_rfl) (by kernel_rfl) (by kernel_rfl) (by kernel_rfl) (by kernel_rfl) (⟨_, _, rfl, by omega, rfl⟩) (rfl) hlo6415 (Nat.le_trans hhi6415 hle) (by kernel_rfl) ?_
  obtain ⟨A6415, hA6415⟩ : ∃ A_, cutA A c (((i_ : Int)).toNat) 14 = A_ := ⟨_, rfl⟩
  obtain ⟨ys6415, hys6415⟩ : ∃ l_, (xs.take xs.length).drop (((i_ : Int)).toNat) = l_ := ⟨_, rfl⟩
  have hr6415 : rowAt pkD G1 (cutA A c (((i_ : Int)).toNat) 14) ((xs.take xs.length).drop (((i_ : Int)).toNat)) := rowAt_cut hr hlo6415 hhi6415 hle
  have hl6415 : xs.length - (((i_ : Int)).toNat) = ys6415.length := by rw [← hys6415, List.length_drop, List.length_take]; omega
  have hc6415 : ys6415.length ≤ c - (((i_ : Int)).toNat) := by omega
  have hm6415 : c - (((i_ : Int)).toNat) ≤ maxLen := Nat.le_trans (Nat.sub_le _ _) hmx
  rw [hys6415, show cutA A c (((i_ : Int)).toNat) _ = A6415 from hA6415] at hr6415
  rw [hA6415, hl6415]
  refine XD.joinA (α := Option Addr × Nat × Option Addr) (fun x_ => ⟨36, [(3, .own 3 0), (4, VL none 0 0), (28, VL x_.1 (0 + ys6414.length) x_.2.1), (30, VL x_.2.2 1 1), (34, VL A6415 ys6415.length (c - (((i_ : Int)).toNat)))], [(3, ⟨196, [I8 x.1.x0, I8 x.1.x1, I8 x.1.x2, I1 x.1.x3, I1 x.1.x4, I8 x.1.x5, I8 x.1.x6, I8 x.1.x7, I8 x.1.x8, I8 x.1.x9, I8 x.1.y0, I8 x.1.y1, I8 x.1.y2, VT x.2]⟩)]⟩) (fun x_ => [(24, RR 196 14 x_.1 (0 + ys6414.length) x_.2.1 (([] ++ ys6414).flatMap pkC)), (30, RR 196 14 x_.2.2 1 1 [N8 x.1.x0, N8 x.1.x1, N8 x.1.x2, N1 x.1.x3, N1 x.1.x4, N8 x.1.x5, N8 x.1.x6, N8 x.1.x7, N8 x.1.x8, N8 x.1.x9, N8 x.1.y0, N8 x.1.y1, N8 x.1.y2, .string x.2])]) (lb 13 1919) 3 ?_ fun hL6415_1919 => ?_
  ·
   rintro ⟨A8416, c8416, A9216⟩ G12416 hG12416
   replace hr := hr.mono hG12416.le
   replace hr6414 := hr6414.mono hG12416.le
   replace hr6415 := hr6415.mono hG12416.le
   refine Dn ⟨36, [(3, .own 3 0), (4, VL none 0 0), (28, VL A8416 (0 + ys6414.length) c8416), (30, VL A9216 1 1), (34, VL A6415 ys6415.length (c - (((i_ : Int)).toNat)))], [(3, ⟨196, [I8 x.1.x0, I8 x.1.x1, I8 x.1.x2, I1 x.1.x3, I1 x.1.x4, I8 x.1.x5, I8 x.1.x6, I8 x.1.x7, I8 x.1.x8, I8 x.1.x9, I8 x.1.y0, I8 x.1.y1, I8 x.1.y2, VT x.2]⟩)]⟩ ⟨⟨fun _ h => (by cases h; rfl), rfl⟩, trivial⟩ ?_
   refine XD.rows [24, 30] (R' := [(24, RR 196 14 A8416 (0 + ys6414.length) c8416 (([] ++ ys6414).flatMap pkC)), (30, RR 196 14 A9216 1 1 [N8 x.1.x0, N8 x.1.x1, N8 x.1.x2, N1 x.1.x3, N1 x.1.x4, N8 x.1.x5, N8 x.1.x6, N8 x.1.x7, N8 x.1.x8, N8 x.1.x9, N8 x.1.y0, N8 x.1.y1, N8 x.1.y2, .string x.2])]) rfl rfl ?_
   refine Dn ⟨36, [(3, .own 3 0), (4, VL none 0 0), (28, VL A8416 (0 + ys6414.length) c8416), (30, VL A9216 1 1), (34, VL A6415 ys6415.length (c - (((i_ : Int)).toNat)))], [(3, ⟨196, [I8 x.1.x0, I8 x.1.x1, I8 x.1.x2, I1 x.1.x3, I1 x.1.x4, I8 x.1.x5, I8 x.1.x6, I8 x.1.x7, I8 x.1.x8, I8 x.1.x9, I8 x.1.y0, I8 x.1.y1, I8 x.1.y2, VT x.2]⟩)]⟩ ⟨⟨fun _ h => (by cases h; rfl), rfl⟩, trivial⟩ ?_
   refine Do 7 13 2047 B145 30 ?_
   refine Ap 24 (RR 196 14 A8416 (0 + ys6414.length) c8416 (([] ++ ys6414).flatMap pkC)) 192 32 (.agg #[N8 0, N8 0, N8 0, N1 0, N1 0, N8 0, N8 0, N8 0, N8 0, N8 0, N8 0, N8 0, N8 0, .string ByteArray.empty]) (.tmp 28) (.tmp 30) (0 + ys6414.length) c8416 1 1 A8416 A9216 [N8 x.1.x0, N8 x.1.x1, N8 x.1.x2, N1 x.1.x3, N1 x.1.x4, N8 x.1.x5, N8 x.1.x6, N8 x.1.x7, N8 x.1.x8, N8 x.1.x9, N8 x.1.y0, N8 x.1.y1, N8 x.1.y2, .string x.2] (.inl rfl) (by kernel_rfl) (At.of_row (i := 30) (r := (RR 196 14 A9216 1 1 [N8 x.1.x0, N8 x.1.x1, N8 x.1.x2, N1 x.1.x3, N1 x.1.x4, N8 x.1.x5, N8 x.1.x6, N8 x.1.x7, N8 x.1.x8, N8 x.1.x9, N8 x.1.y0, N8 x.1.y1, N8 x.1.y2, .string x.2])) rfl rfl) (fun w hw e => absurd (rowSome (i := 30) (q := (RR 196 14 A9216 1 1 [N8 x.1.x0, N8 x.1.x1, N8 x.1.x2, N1 x.1.x3, N1 x.1.x4, N8 x.1.x5, N8 x.1.x6, N8 x.1.x7, N8 x.1.x8, N8 x.1.x9, N8 x.1.y0, N8 x.1.y1, N8 x.1.y2, .string x.2])) rfl rfl (Nat.succ_pos _) w hw) (by rw [e]; decide)) (ones (by kernel_rfl)) (by omega) ?_
   intro A9616 c9616 hc9616
   refine X.tellR [24, 30] (R' := [(24, RR 196 14 A9616 (0 + ys6414.length + 1) c9616 ((([] ++ ys6414) ++ [((⟨x.1.x0, x.1.x1, x.1.x2, x.1.x3, x.1.x4, x.1.x5, x.1.x6, x.1.x7, x.1.x8, x.1.x9, x.1.y0, x.1.y1, x.1.y2⟩ : Ih), x.2)]).flatMap pkC)), (30, RR 196 14 A9216 1 1 [N8 x.1.x0, N8 x.1.x1, N8 x.1.x2, N1 x.1.x3, N1 x.1.x4, N8 x.1.x5, N8 x.1.x6, N8 x.1.x7, N8 x.1.x8, N8 x.1.x9, N8 x.1.y0, N8 x.1.y1, N8 x.1.y2, .string x.2])]) (congrArg (fun cs_ => (24, (RR 196 14 A9616 (0 + ys6414.length + 1) c9616 cs_ : Row)) :: [(30, RR 196 14 A9216 1 1 [N8 x.1.x0, N8 x.1.x1, N8 x.1.x2, N1 x.1.x3, N1 x.1.x4, N8 x.1.x5, N8 x.1.x6, N8 x.1.x7, N8 x.1.x8, N8 x.1.x9, N8 x.1.y0, N8 x.1.y1, N8 x.1.y2, .string x.2])]) (flat_snoc pkC ([] ++ ys6414) (((⟨x.1.x0, x.1.x1, x.1.x2, x.1.x3, x.1.x4, x.1.x5, x.1.x6, x.1.x7, x.1.x8, x.1.x9, x.1.y0, x.1.y1, x.1.y2⟩ : Ih), x.2) : Pk))) ?_
   refine X.back ⟨⟨⟨fun _ h => (by cases h; rfl), rfl⟩, trivial⟩, hG12416.le, rfl, ?_⟩
   refine Dn ⟨36, [(3, .own 3 0), (4, VL none 0 0), (31, VL A9616 (0 + ys6414.length + 1) c9616), (34, VL A6415 ys6415.length (c - (((i_ : Int)).toNat)))], [(3, ⟨196, [I8 x.1.x0, I8 x.1.x1, I8 x.1.x2, I1 x.1.x3, I1 x.1.x4, I8 x.1.x5, I8 x.1.x6, I8 x.1.x7, I8 x.1.x8, I8 x.1.x9, I8 x.1.y0, I8 x.1.y1, I8 x.1.y2, VT x.2]⟩)]⟩ ⟨⟨fun _ h => (by cases h; rfl), rfl⟩, trivial⟩ ?_
   refine Do 11 13 4095 B145 30 ?_
   refine Aw 24 (RR 196 14 A9616 (0 + ys6414.length + 1) c9616 ((([] ++ ys6414) ++ [((⟨x.1.x0, x.1.x1, x.1.x2, x.1.x3, x.1.x4, x.1.x5, x.1.x6, x.1.x7, x.1.x8, x.1.x9, x.1.y0, x.1.y1, x.1.y2⟩ : Ih), x.2)]).flatMap pkC)) 192 32 (.agg #[N8 0, N8 0, N8 0, N1 0, N1 0, N8 0, N8 0, N8 0, N8 0, N8 0, N8 0, N8 0, N8 0, .string ByteArray.empty]) (.tmp 31) (.tmp 34) (0 + ys6414.length + 1) c9616 ys6415.length (c - (((i_ : Int)).toNat)) A9616 A6415 (ys6415.flatMap pkC) (.inl rfl) (pks_len _) (at_pks [(24, RR 196 14 A9616 (0 + ys6414.length + 1) c9616 ((([] ++ ys6414) ++ [((⟨x.1.x0, x.1.x1, x.1.x2, x.1.x3, x.1.x4, x.1.x5, x.1.x6, x.1.x7, x.1.x8, x.1.x9, x.1.y0, x.1.y1, x.1.y2⟩ : Ih), x.2)]).flatMap pkC)), (30, RR 196 14 A9216 1 1 [N8 x.1.x0, N8 x.1.x1, N8 x.1.x2, N1 x.1.x3, N1 x.1.x4, N8 x.1.x5, N8 x.1.x6, N8 x.1.x7, N8 x.1.x8, N8 x.1.x9, N8 x.1.y0, N8 x.1.y1, N8 x.1.y2, .string x.2])] hr6415) (fun _ _ e => rowAt.none hr6415 e) ones_pk (by omega) ?_
   intro A11216 c11216 hc11216
   refine X.tellR [24] (R' := [(24, RR 196 14 A11216 (0 + ys6414.length + 1 + ys6415.length) c11216 (((([] ++ ys6414) ++ [((⟨x.1.x0, x.1.x1, x.1.x2, x.1.x3, x.1.x4, x.1.x5, x.1.x6, x.1.x7, x.1.x8, x.1.x9, x.1.y0, x.1.y1, x.1.y2⟩ : Ih), x.2)]) ++ ys6415).flatMap pkC))]) (congrArg (fun cs_ => (24, (RR 196 14 A11216 (0 + ys6414.length + 1 + ys6415.length) c11216 cs_ : Row)) :: []) (show (([] ++ ys6414) ++ [((⟨x.1.x0, x.1.x1, x.1.x2, x.1.x3, x.1.x4, x.1.x5, x.1.x6, x.1.x7, x.1.x8, x.1.x9, x.1.y0, x.1.y1, x.1.y2⟩ : Ih), x.2)]).flatMap pkC ++ (ys6415.flatMap pkC) = ((([] ++ ys6414) ++ [((⟨x.1.x0, x.1.x1, x.1.x2, x.1.x3, x.1.x4, x.1.x5, x.1.x6, x.1.x7, x.1.x8, x.1.x9, x.1.y0, x.1.y1, x.1.y2⟩ : Ih), x.2)]) ++ ys6415).flatMap pkC by simp)) ?_
   refine X.back ⟨⟨⟨fun _ h => (by cases h; rfl), rfl⟩, trivial⟩, hG12416.le, rfl, ?_⟩
   refine Ts [12] 13 8191 0 1 QOk.ctxG ?_
   refine XD.done (by kernel_rfl) ?_
   refine Rn 2 (.ex .ret) [] ⟨36, [(4, VL A11216 (0 + ys6414.length + 1 + ys6415.length) c11216)], []⟩ ?_
   refine Dg (.inl rfl) [.slice A11216 (0 + ys6414.length + 1 + ys6415.length) c11216] [24] rfl ((hG1.trans hG12416)) ?_
   have hF_ : ((([] ++ ys6414) ++ [((⟨x.1.x0, x.1.x1, x.1.x2, x.1.x3, x.1.x4, x.1.x5, x.1.x6, x.1.x7, x.1.x8, x.1.x9, x.1.y0, x.1.y1, x.1.y2⟩ : Ih), x.2)]) ++ ys6415) = insP plI xs x := by
    rw [insP_at pk0 hi_ hj_ hst_, ← hys6414, ← hys6415]
    simp only [List.nil_append, List.append_assoc, List.drop_zero, List.take_length]
    rfl
   have hl_ : 0 + ys6414.length + 1 + ys6415.length = (insP plI xs x).length := by
    rw [← hF_]
    simp only [List.length_append, List.length_cons, List.length_nil] <;> omega
   rw [hF_, hl_]
   exact ⟨_, _, rfl, rfl⟩
  refine XD.joinA (α := Option Addr × Option Addr) (fun x_ => ⟨36, [(3, .own 3 0), (4, VL none 0 0), (24, VL x_.1 0 0), (27, VL A6414 ys6414.length (c - 0)), (30, VL x_.2 1 1), (34, VL A6415 ys6415.length (c - (((i_ : Int)).toNat)))], [(3, ⟨196, [I8 x.1.x0, I8 x.1.x1, I8 x.1.x2, I1 x.1.x3, I1 x.1.x4, I8 x.1.x5, I8 x.1.x6, I8 x.1.x7, I8 x.1.x8, I8 x.1.x9, I8 x.1.y0, I8 x.1.y1, I8 x.1.y2, VT x.2]⟩)]⟩) (fun x_ => [(24, RR 196 14 x_.1 0 0 []), (30, RR 196 14 x_.2 1 1 [N8 x.1.x0, N8 x.1.x1, N8 x.1.x2, N1 x.1.x3, N1 x.1.x4, N8 x.1.x5, N8 x.1.x6, N8 x.1.x7, N8 x.1.x8, N8 x.1.x9, N8 x.1.y0, N8 x.1.y1, N8 x.1.y2, .string x.2])]) (lb 13 1903) 4 ?_ fun hL6415_1903 => ?_
  ·
   rintro ⟨A6816, A9216⟩ G12417 hG12417
   replace hr := hr.mono hG12417.le
   replace hr6414 := hr6414.mono hG12417.le
   replace hr6415 := hr6415.mono hG12417.le
   refine Dn ⟨36, [(3, .own 3 0), (4, VL none 0 0), (24, VL A6816 0 0), (27, VL A6414 ys6414.length (c - 0)), (30, VL A9216 1 1), (34, VL A6415 ys6415.length (c - (((i_ : Int)).toNat)))], [(3, ⟨196, [I8 x.1.x0, I8 x.1.x1, I8 x.1.x2, I1 x.1.x3, I1 x.1.x4, I8 x.1.x5, I8 x.1.x6, I8 x.1.x7, I8 x.1.x8, I8 x.1.x9, I8 x.1.y0, I8 x.1.y1, I8 x.1.y2, VT x.2]⟩)]⟩ ⟨⟨fun _ h => (by cases h; rfl), rfl⟩, trivial⟩ ?_
   refine XD.rows [24, 30] (R' := [(24, RR 196 14 A6816 0 0 []), (30, RR 196 14 A9216 1 1 [N8 x.1.x0, N8 x.1.x1, N8 x.1.x2, N1 x.1.x3, N1 x.1.x4, N8 x.1.x5, N8 x.1.x6, N8 x.1.x7, N8 x.1.x8, N8 x.1.x9, N8 x.1.y0, N8 x.1.y1, N8 x.1.y2, .string x.2])]) rfl rfl ?_
   refine Dn ⟨36, [(3, .own 3 0), (4, VL none 0 0), (24, VL A6816 0 0), (27, VL A6414 ys6414.length (c - 0)), (30, VL A9216 1 1), (34, VL A6415 ys6415.length (c - (((i_ : Int)).toNat)))], [(3, ⟨196, [I8 x.1.x0, I8 x.1.x1, I8 x.1.x2, I1 x.1.x3, I1 x.1.x4, I8 x.1.x5, I8 x.1.x6, I8 x.1.x7, I8 x.1.x8, I8 x.1.x9, I8 x.1.y0, I8 x.1.y1, I8 x.1.y2, VT x.2]⟩)]⟩ ⟨⟨fun _ h => (by cases h; rfl), rfl⟩, trivial⟩ ?_
   refine Do 4 13 1919 B145 30 ?_
   refine Aw 24 (RR 196 14 A6816 0 0 []) 192 32 (.agg #[N8 0, N8 0, N8 0, N1 0, N1 0, N8 0, N8 0, N8 0, N8 0, N8 0, N8 0, N8 0, N8 0, .string ByteArray.empty]) (.tmp 24) (.tmp 27) 0 0 ys6414.length (c - 0) A6816 A6414 (ys6414.flatMap pkC) (.inl rfl) (pks_len _) (at_pks [(24, RR 196 14 A6816 0 0 []), (30, RR 196 14 A9216 1 1 [N8 x.1.x0, N8 x.1.x1, N8 x.1.x2, N1 x.1.x3, N1 x.1.x4, N8 x.1.x5, N8 x.1.x6, N8 x.1.x7, N8 x.1.x8, N8 x.1.x9, N8 x.1.y0, N8 x.1.y1, N8 x.1.y2, .string x.2])] hr6414) (fun _ _ e => rowAt.none hr6414 e) ones_pk (by omega) ?_
   intro A8416 c8416 hc8416
   refine X.tellR [24, 30] (R' := [(24, RR 196 14 A8416 (0 + ys6414.length) c8416 (([] ++ ys6414).flatMap pkC)), (30, RR 196 14 A9216 1 1 [N8 x.1.x0, N8 x.1.x1, N8 x.1.x2, N1 x.1.x3, N1 x.1.x4, N8 x.1.x5, N8 x.1.x6, N8 x.1.x7, N8 x.1.x8, N8 x.1.x9, N8 x.1.y0, N8 x.1.y1, N8 x.1.y2, .string x.2])]) (congrArg (fun cs_ => (24, (RR 196 14 A8416 (0 + ys6414.length) c8416 cs_ : Row)) :: [(30, RR 196 14 A9216 1 1 [N8 x.1.x0, N8 x.1.x1, N8 x.1.x2, N1 x.1.x3, N1 x.1.x4, N8 x.1.x5, N8 x.1.x6, N8 x.1.x7, N8 x.1.x8, N8 x.1.x9, N8 x.1.y0, N8 x.1.y1, N8 x.1.y2, .string x.2])]) (show [] ++ (ys6414.flatMap pkC) = ([] ++ ys6414).flatMap pkC by simp)) ?_
   refine X.back ⟨⟨⟨fun _ h => (by cases h; rfl), rfl⟩, trivial⟩, hG12417.le, rfl, ?_⟩
   refine Dn ⟨36, [(3, .own 3 0), (4, VL none 0 0), (28, VL A8416 (0 + ys6414.length) c8416), (30, VL A9216 1 1), (34, VL A6415 ys6415.length (c - (((i_ : Int)).toNat)))], [(3, ⟨196, [I8 x.1.x0, I8 x.1.x1, I8 x.1.x2, I1 x.1.x3, I1 x.1.x4, I8 x.1.x5, I8 x.1.x6, I8 x.1.x7, I8 x.1.x8, I8 x.1.x9, I8 x.1.y0, I8 x.1.y1, I8 x.1.y2, VT x.2]⟩)]⟩ ⟨⟨fun _ h => (by cases h; rfl), rfl⟩, trivial⟩ ?_
   refine XD.rows [24, 30] (R' := [(24, RR 196 14 A8416 (0 + ys6414.length) c8416 (([] ++ ys6414).flatMap pkC)), (30, RR 196 14 A9216 1 1 [N8 x.1.x0, N8 x.1.x1, N8 x.1.x2, N1 x.1.x3, N1 x.1.x4, N8 x.1.x5, N8 x.1.x6, N8 x.1.x7, N8 x.1.x8, N8 x.1.x9, N8 x.1.y0, N8 x.1.y1, N8 x.1.y2, .string x.2])]) rfl rfl ?_
   exact hL6415_1919 (A8416, c8416, A9216) _ hG12417
  refine Dn ⟨36, [(3, .own 3 0), (4, VL none 0 0), (27, VL A6414 ys6414.length (c - 0)), (29, .v (.agg #[N8 x.1.x0, N8 x.1.x1, N8 x.1.x2, N1 x.1.x3, N1 x.1.x4, N8 x.1.x5, N8 x.1.x6, N8 x.1.x7, N8 x.1.x8, N8 x.1.x9, N8 x.1.y0, N8 x.1.y1, N8 x.1.y2, .string x.2])), (34, VL A6415 ys6415.length (c - (((i_ : Int)).toNat)))], [(3, ⟨196, [I8 x.1.x0, I8 x.1.x1, I8 x.1.x2, I1 x.1.x3, I1 x.1.x4, I8 x.1.x5, I8 x.1.x6, I8 x.1.x7, I8 x.1.x8, I8 x.1.x9, I8 x.1.y0, I8 x.1.y1, I8 x.1.y2, VT x.2]⟩)]⟩ ⟨⟨fun _ h => (by cases h; rfl), rfl⟩, trivial⟩ ?_
  refine XD.two (i := 0) (j := 6) (li := (lb 13 1839)) (lj := (lb 13 1902)) (oA B145 (pa 30) 0) (oA B145 (pa 30) 6) (by kernel_rfl) (by kernel_rfl) (by kernel_rfl) (by kernel_rfl) (by kernel_rfl) ?_ ?_
  ·
   refine Lt 24 196 14 0 [] ?_
   intro A6816
   refine X.back ⟨⟨⟨fun _ h => (by cases h; rfl), rfl⟩, trivial⟩, Le.refl _, rfl, ?_⟩
   refine Dn ⟨36, [(3, .own 3 0), (4, VL none 0 0), (24, VL A6816 0 0), (27, VL A6414 ys6414.length (c - 0)), (29, .v (.agg #[N8 x.1.x0, N8 x.1.x1, N8 x.1.x2, N1 x.1.x3, N1 x.1.x4, N8 x.1.x5, N8 x.1.x6, N8 x.1.x7, N8 x.1.x8, N8 x.1.x9, N8 x.1.y0, N8 x.1.y1, N8 x.1.y2, .string x.2])), (34, VL A6415 ys6415.length (c - (((i_ : Int)).toNat)))], [(3, ⟨196, [I8 x.1.x0, I8 x.1.x1, I8 x.1.x2, I1 x.1.x3, I1 x.1.x4, I8 x.1.x5, I8 x.1.x6, I8 x.1.x7, I8 x.1.x8, I8 x.1.x9, I8 x.1.y0, I8 x.1.y1, I8 x.1.y2, VT x.2]⟩)]⟩ ⟨⟨fun _ h => (by cases h; rfl), rfl⟩, trivial⟩ ?_
   refine XD.two (i := 4) (j := 6) (li := (lb 13 1855)) (lj := (lb 13 1903)) (oA B145 (pa 30) 4) (oA B145 (pa 30) 6) (by kernel_rfl) (by kernel_rfl) (by kernel_rfl) (by kernel_rfl) (by kernel_rfl) ?_ ?_
   ·
    refine Aw 24 (RR 196 14 A6816 0 0 []) 192 32 (.agg #[N8 0, N8 0, N8 0, N1 0, N1 0, N8 0, N8 0, N8 0, N8 0, N8 0, N8 0, N8 0, N8 0, .string ByteArray.empty]) (.tmp 24) (.tmp 27) 0 0 ys6414.length (c - 0) A6816 A6414 (ys6414.flatMap pkC) (.inl rfl) (pks_len _) (at_pks [(24, RR 196 14 A6816 0 0 [])] hr6414) (fun _ _ e => rowAt.none hr6414 e) ones_pk (by omega) ?_
    intro A8416 c8416 hc8416
    refine X.tellR [24] (R' := [(24, RR 196 14 A8416 (0 + ys6414.length) c8416 (([] ++ ys6414).flatMap pkC))]) (congrArg (fun cs_ => (24, (RR 196 14 A8416 (0 + ys6414.length) c8416 cs_ : Row)) :: []) (show [] ++ (ys6414.flatMap pkC) = ([] ++ ys6414).flatMap pkC by simp)) ?_
    refine X.back ⟨⟨⟨fun _ h => (by cases h; rfl), rfl⟩, trivial⟩, Le.refl _, rfl, ?_⟩
    refine Dn ⟨36, [(3, .own 3 0), (4, VL none 0 0), (28, VL A8416 (0 + ys6414.length) c8416), (29, .v (.agg #[N8 x.1.x0, N8 x.1.x1, N8 x.1.x2, N1 x.1.x3, N1 x.1.x4, N8 x.1.x5, N8 x.1.x6, N8 x.1.x7, N8 x.1.x8, N8 x.1.x9, N8 x.1.y0, N8 x.1.y1, N8 x.1.y2, .string x.2])), (34, VL A6415 ys6415.length (c - (((i_ : Int)).toNat)))], [(3, ⟨196, [I8 x.1.x0, I8 x.1.x1, I8 x.1.x2, I1 x.1.x3, I1 x.1.x4, I8 x.1.x5, I8 x.1.x6, I8 x.1.x7, I8 x.1.x8, I8 x.1.x9, I8 x.1.y0, I8 x.1.y1, I8 x.1.y2, VT x.2]⟩)]⟩ ⟨⟨fun _ h => (by cases h; rfl), rfl⟩, trivial⟩ ?_
    refine Do 6 13 1919 B145 30 ?_
    refine Lt 30 196 14 1 [N8 x.1.x0, N8 x.1.x1, N8 x.1.x2, N1 x.1.x3, N1 x.1.x4, N8 x.1.x5, N8 x.1.x6, N8 x.1.x7, N8 x.1.x8, N8 x.1.x9, N8 x.1.y0, N8 x.1.y1, N8 x.1.y2, .string x.2] ?_
    intro A9216
    refine X.back ⟨⟨⟨fun _ h => (by cases h; rfl), rfl⟩, trivial⟩, Le.refl _, rfl, ?_⟩
    refine Dn ⟨36, [(3, .own 3 0), (4, VL none 0 0), (28, VL A8416 (0 + ys6414.length) c8416), (30, VL A9216 1 1), (34, VL A6415 ys6415.length (c - (((i_ : Int)).toNat)))], [(3, ⟨196, [I8 x.1.x0, I8 x.1.x1, I8 x.1.x2, I1 x.1.x3, I1 x.1.x4, I8 x.1.x5, I8 x.1.x6, I8 x.1.x7, I8 x.1.x8, I8 x.1.x9, I8 x.1.y0, I8 x.1.y1, I8 x.1.y2, VT x.2]⟩)]⟩ ⟨⟨fun _ h => (by cases h; rfl), rfl⟩, trivial⟩ ?_
    refine XD.rows [24, 30] (R' := [(24, RR 196 14 A8416 (0 + ys6414.length) c8416 (([] ++ ys6414).flatMap pkC)), (30, RR 196 14 A9216 1 1 [N8 x.1.x0, N8 x.1.x1, N8 x.1.x2, N1 x.1.x3, N1 x.1.x4, N8 x.1.x5, N8 x.1.x6, N8 x.1.x7, N8 x.1.x8, N8 x.1.x9, N8 x.1.y0, N8 x.1.y1, N8 x.1.y2, .string x.2])]) rfl rfl ?_
    exact hL6415_1919 (A8416, c8416, A9216) _ (Ge.refl _ _)
   ·
    refine Lt 30 196 14 1 [N8 x.1.x0, N8 x.1.x1, N8 x.1.x2, N1 x.1.x3, N1 x.1.x4, N8 x.1.x5, N8 x.1.x6, N8 x.1.x7, N8 x.1.x8, N8 x.1.x9, N8 x.1.y0, N8 x.1.y1, N8 x.1.y2, .string x.2] ?_
    intro A9216
    refine X.back ⟨⟨⟨fun _ h => (by cases h; rfl), rfl⟩, trivial⟩, Le.refl _, rfl, ?_⟩
    refine Dn ⟨36, [(3, .own 3 0), (4, VL none 0 0), (24, VL A6816 0 0), (27, VL A6414 ys6414.length (c - 0)), (30, VL A9216 1 1), (34, VL A6415 ys6415.length (c - (((i_ : Int)).toNat)))], [(3, ⟨196, [I8 x.1.x0, I8 x.1.x1, I8 x.1.x2, I1 x.1.x3, I1 x.1.x4, I8 x.1.x5, I8 x.1.x6, I8 x.1.x7, I8 x.1.x8, I8 x.1.x9, I8 x.1.y0, I8 x.1.y1, I8 x.1.y2, VT x.2]⟩)]⟩ ⟨⟨fun _ h => (by cases h; rfl), rfl⟩, trivial⟩ ?_
    refine XD.rows [24, 30] (R' := [(24, RR 196 14 A6816 0 0 []), (30, RR 196 14 A9216 1 1 [N8 x.1.x0, N8 x.1.x1, N8 x.1.x2, N1 x.1.x3, N1 x.1.x4, N8 x.1.x5, N8 x.1.x6, N8 x.1.x7, N8 x.1.x8, N8 x.1.x9, N8 x.1.y0, N8 x.1.y1, N8 x.1.y2, .string x.2])]) rfl rfl ?_
    exact hL6415_1903 (A6816, A9216) _ (Ge.refl _ _)
  ·
   refine Lt 30 196 14 1 [N8 x.1.x0, N8 x.1.x1, N8 x.1.x2, N1 x.1.x3, N1 x.1.x4, N8 x.1.x5, N8 x.1.x6, N8 x.1.x7, N8 x.1.x8, N8 x.1.x9, N8 x.1.y0, N8 x.1.y1, N8 x.1.y2, .string x.2] ?_
   intro A9216
   refine X.back ⟨⟨⟨fun _ h => (by cases h; rfl), rfl⟩, trivial⟩, Le.refl _, rfl, ?_⟩
   refine Dn ⟨36, [(3, .own 3 0), (4, VL none 0 0), (27, VL A6414 ys6414.length (c - 0)), (30, VL A9216 1 1), (34, VL A6415 ys6415.length (c - (((i_ : Int)).toNat)))], [(3, ⟨196, [I8 x.1.x0, I8 x.1.x1, I8 x.1.x2, I1 x.1.x3, I1 x.1.x4, I8 x.1.x5, I8 x.1.x6, I8 x.1.x7, I8 x.1.x8, I8 x.1.x9, I8 x.1.y0, I8 x.1.y1, I8 x.1.y2, VT x.2]⟩)]⟩ ⟨⟨fun _ h => (by cases h; rfl), rfl⟩, trivial⟩ ?_
   refine Do 0 13 1903 B145 30 ?_
   refine Lt 24 196 14 0 [] ?_
   intro A6816
   refine X.back ⟨⟨⟨fun _ h => (by cases h; rfl), rfl⟩, trivial⟩, Le.refl _, rfl, ?_⟩
   refine Dn ⟨36, [(3, .own 3 0), (4, VL none 0 0), (24, VL A6816 0 0), (27, VL A6414 ys6414.length (c - 0)), (30, VL A9216 1 1), (34, VL A6415 ys6415.length (c - (((i_ : Int)).toNat)))], [(3, ⟨196, [I8 x.1.x0, I8 x.1.x1, I8 x.1.x2, I1 x.1.x3, I1 x.1.x4, I8 x.1.x5, I8 x.1.x6, I8 x.1.x7, I8 x.1.x8, I8 x.1.x9, I8 x.1.y0, I8 x.1.y1, I8 x.1.y2, VT x.2]⟩)]⟩ ⟨⟨fun _ h => (by cases h; rfl), rfl⟩, trivial⟩ ?_
   refine XD.rows [24, 30] (R' := [(24, RR 196 14 A6816 0 0 []), (30, RR 196 14 A9216 1 1 [N8 x.1.x0, N8 x.1.x1, N8 x.1.x2, N1 x.1.x3, N1 x.1.x4, N8 x.1.x5, N8 x.1.x6, N8 x.1.x7, N8 x.1.x8, N8 x.1.x9, N8 x.1.y0, N8 x.1.y1, N8 x.1.y2, .string x.2])]) rfl rfl ?_
   exact hL6415_1903 (A6816, A9216) _ (Ge.refl _ _)
end Go.Proofs.YtjgpdbkkpomhjaaX
