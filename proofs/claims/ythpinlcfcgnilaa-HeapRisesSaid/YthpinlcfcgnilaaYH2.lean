/- leatlaw06.HeapRises. Walked; printed by a small program of this session. Conditions: none. -/
import Derived.Test.YthpinlcfcgnilaaProg
import Derived.KernelRfl
import Derived.Test.YthpinlcfcgnilaaYHQ
import Derived.Test.YthpinlcfcgnilaaYH1
namespace Go.Proofs.YthpinlcfcgnilaaX
open Go.RowKit
open Go.Proofs.YthpinlcfcgnilaaW.PrintLast
set_option linter.unusedVariables false
set_option linter.unusedSimpArgs false
set_option maxRecDepth 100000
/-- leat/leatlaw06.HeapRises -/
noncomputable def B3 : Code := bodyOf Try.f3
set_option maxHeartbeats 4000000 in
theorem HeapRises_ok (A : Option Addr) (c : Nat) (xs : List Int) (G : Mem) (hr : rowAt (D.int .i64) G A xs) (hle : xs.length ≤ c) (hmx : c ≤ maxLen) : CallsG Try.prog 3 [.slice A xs.length c] G (fun _ v rows => v = .bool true ∧ rows = []) := by
 simp only [maxLen] at hmx
 refine CallsG.enter Try.func3 rfl rfl ?_
 intro w
 refine Rn 11 (Qo B3 6 4) [Qs B3 7] ⟨112, [(0, VL A xs.length c), (2, VB false), (11, VL A xs.length c), (14, I6 (imin (xs.length : Int) 100))], []⟩ ?_
 refine Kn 14 .i64 (min (xs.length : Int) 100) rfl (by simp only [imin_eq, imax_eq]) ?_
 have hlo1 : 0 ≤ (min ((xs.length : Nat) : Int) 100).toNat := by omega
 have hhi1 : (min ((xs.length : Nat) : Int) 100).toNat ≤ xs.length := by omega
 refine X.cut (t := 22) (e := 2) (sz := 1) (n := xs.length) (c := c) (A := A) (x := .tmp 11) (l := none) (h := (some (.tmp 14))) (lv := none) (hv := (some (N6 (min (xs.length : Int) 100)))) 0 ((min (xs.length : Int) 100).toNat) (by kernel_rfl) (by kernel_rfl) (by kernel_rfl) (by kernel_rfl) (by kernel_rfl) (by kernel_rfl) (by kernel_rfl) (rfl) (⟨_, _, rfl, by omega, rfl⟩) hlo1 (Nat.le_trans hhi1 hle) ?_
 obtain ⟨A1, hA1⟩ : ∃ A_, cutA A c 0 1 = A_ := ⟨_, rfl⟩
 obtain ⟨ys1, hys1⟩ : ∃ l_, (xs.take ((min ((xs.length : Nat) : Int) 100).toNat)).drop 0 = l_ := ⟨_, rfl⟩
 have hr1 : rowAt (D.int .i64) G (cutA A c 0 1) ((xs.take ((min ((xs.length : Nat) : Int) 100).toNat)).drop 0) := rowAt_cut hr hlo1 hhi1 hle
 have hl1 : ((min ((xs.length : Nat) : Int) 100).toNat) - 0 = ys1.length := by rw [← hys1, List.length_drop, List.length_take]; omega
 have hc1 : ys1.length ≤ c - 0 := by omega
 have hm1 : c - 0 ≤ maxLen := Nat.le_trans (Nat.sub_le _ _) hmx
 rw [hys1, show cutA A c 0 _ = A1 from hA1] at hr1
 rw [hA1, hl1]
 refine Rn 5 (Qo B3 14 0) [Qs B3 15] ⟨112, [(0, VL A1 ys1.length (c - 0)), (2, VB false)], []⟩ ?_
 refine X.inlineNew (f := 14) (l := []) (fn := Try.f14) (c := B14) 700 (by kernel_rfl) (by kernel_rfl) Try.func14 (by kernel_rfl) ?_
 intro Q2 M2 hM2 hQ2 fin2
 refine Rn 13 (.ex .ret) [] ⟨3, [(0, .own 2 0)], [(2, ⟨87, [VL none 0 0, I7 0]⟩)]⟩ ?_
 refine fin2 _ _ _ _ 2 87 [VL none 0 0, I7 0] [] (.inl rfl) (by kernel_rfl) (by kernel_rfl) (by kernel_rfl) (by kernel_rfl) (by kernel_rfl) (by kernel_rfl) ?_
 refine Rn 12 (Qc B3 122) [.blk 0, Qs B3 31] ⟨112, [(0, VL A1 ys1.length (c - 0)), (2, VB false), (3, .own 700 0), (17, VL A1 ys1.length (c - 0)), (18, I6 (ys1.length : Int)), (19, I6 0)], [(700, ⟨87, [VL none 0 0, I7 0]⟩)]⟩ ?_
 refine X.nilRow 600 89 5 rfl ?_
 refine X.loopJ (fun m s R' G' => ∃ (C_ : Option Addr) (c1_ n1_ : Nat) (l1_ : List Item) (i1_ : Nat), s = ⟨112, [(0, VL A1 ys1.length (c - 0)), (2, VB false), (3, .own 700 0), (17, VL A1 ys1.length (c - 0)), (18, I6 (ys1.length : Int)), (19, I6 (i1_ : Int))], [(700, ⟨87, [VL C_ n1_ c1_, I7 (i1_ : Int)]⟩)]⟩ ∧ R' = [(600, RR 89 5 C_ n1_ c1_ (l1_.flatMap itC))] ∧ Ge G w.heap.size G' ∧ (n1_ = i1_ ∧ i1_ ≤ ys1.length ∧ l1_.length = n1_ ∧ HeapFrom l1_ 0 ∧ l1_.Perm (pushL ys1 i1_)) ∧ m = (ys1.length - i1_)) _ ⟨none, 0, 0, [], 0, rfl, rfl, Ge.refl _ _, ⟨rfl, by omega, rfl, fun j_ h0_ h1_ => absurd h1_ (Nat.not_lt_zero _), List.Perm.refl _⟩, rfl⟩ ?_
 rintro m3 s3 R3 G3 ⟨C_, c1_, n1_, l1_, i1_, rfl, rfl, hG3, hF3, rfl⟩ J3 hJ3
 replace hr := hr.mono hG3.le
 replace hr1 := hr1.mono hG3.le
 obtain ⟨hni_, hi1_, hln1_, hh1_, hp1_⟩ := hF3
 refine Rn 6 (Qc B3 978) [Qs B3 979, .loop J3, .blk 0, Qs B3 31] ⟨112, [(0, VL A1 ys1.length (c - 0)), (2, VB false), (3, .own 700 0), (17, VL A1 ys1.length (c - 0)), (18, I6 (ys1.length : Int)), (19, I6 (i1_ : Int)), (20, VB (decide ((i1_ : Int) < (ys1.length : Int))))], [(700, ⟨87, [VL C_ n1_ c1_, I7 (i1_ : Int)]⟩)]⟩ ?_
 refine X.split 20 rfl (fun h4 => ?_) (fun h4 => ?_)
 ·
  replace h4 : (i1_ : Int) < ((ys1.length : Nat) : Int) := of_decide_eq_true h4
  refine Rn 8 (Qo B3 7832 1) [Qs B3 7833, .blk 1, Qs B3 1959, .loop J3, .blk 0, Qs B3 31] ⟨112, [(0, VL A1 ys1.length (c - 0)), (2, VB false), (3, .own 700 0), (17, VL A1 ys1.length (c - 0)), (18, I6 (ys1.length : Int)), (19, I6 (i1_ : Int)), (21, I6 (i1_ : Int))], [(700, ⟨87, [VL C_ n1_ c1_, I7 (i1_ : Int)]⟩)]⟩ ?_
  have b5 : (0 : Int) ≤ (i1_ : Int) := by omega
  have b6 : (i1_ : Int) < ((ys1.length : Nat) : Int) := by omega
  refine Ix 22 2 1 A1 ys1.length (c - 0) .i64 (i1_ : Int) (.tmp 17) (.tmp 19) b5 b6 (fun _ _ => rowAt.so hr1 (by omega)) ?_
  obtain ⟨at7, lo7, hi7⟩ := At.int [(600, ⟨89, 5, .slice C_ n1_ c1_, n1_, l1_.flatMap itC⟩)] hr1 (((i1_ : Int)).toNat) (by omega)
  simp only [IntKind.lo, IntKind.hi] at lo7 hi7
  refine Ld 2 A1 (((i1_ : Int)).toNat * 1) (.tmp 22) (N6 (ys1.getD (((i1_ : Int)).toNat) 0)) [N6 (ys1.getD (((i1_ : Int)).toNat) 0)] at7 ?_
  refine Rn 9 (Qo B3 7833 4) [.blk 1, Qs B3 1959, .loop J3, .blk 0, Qs B3 31] ⟨112, [(0, VL A1 ys1.length (c - 0)), (2, VB false), (3, .own 700 0), (17, VL A1 ys1.length (c - 0)), (18, I6 (ys1.length : Int)), (19, I6 (i1_ : Int)), (24, .own 700 0), (27, .v (.agg #[N6 (ys1.getD (((i1_ : Int)).toNat) 0), N6 0, N6 0, N6 (i1_ : Int)]))], [(700, ⟨87, [VL C_ n1_ c1_, I7 (i1_ : Int)]⟩)]⟩ ?_
  refine X.inline (f := 15) (l := [.own 700 0, .v (.agg #[N6 (ys1.getD (((i1_ : Int)).toNat) 0), N6 0, N6 0, N6 (i1_ : Int)])]) (fn := Try.f15) (c := B15) (by kernel_rfl) (by kernel_rfl) Try.func15 (by kernel_rfl) ?_
  intro Q8 M8 hM8 hQ8 fin8
  refine Rn 9 (Qo B15 12 1) [Qs B15 13, Qs B15 7] ⟨36, [(0, .own 1700 0), (3, .own 3 0), (4, .own 1700 0)], [(3, ⟨27, [I6 (ys1.getD (((i1_ : Int)).toNat) 0), I6 0, I6 0, I6 (i1_ : Int)]⟩), (1700, ⟨87, [VL C_ n1_ c1_, I7 (i1_ : Int)]⟩)]⟩ ?_
  refine X.eqOwnNil (t := 23) (t' := 23) (e := 87) (b := 1700) (off := 0) (x := .tmp 4) (y := .const (.pointer none)) (by kernel_rfl) (fun g => by kernel_rfl) (by kernel_rfl) (by kernel_rfl) (by kernel_rfl) (by kernel_rfl) ?_
  refine Rn 6 (Qc B15 14) [Qs B15 15] ⟨36, [(0, .own 1700 0), (3, .own 3 0)], [(3, ⟨27, [I6 (ys1.getD (((i1_ : Int)).toNat) 0), I6 0, I6 0, I6 (i1_ : Int)]⟩), (1700, ⟨87, [VL C_ n1_ c1_, I7 (i1_ : Int)]⟩)]⟩ ?_
  have hr_d9 := hr
  have hr1_d9 := hr1
  refine Og 2 B15 14 16 [⟨some 0, 1700, 87, [VL C_ n1_ c1_, I7 (i1_ : Int)]⟩, ⟨some 3, 3, 27, [I6 (ys1.getD (((i1_ : Int)).toNat) 0), I6 0, I6 0, I6 (i1_ : Int)]⟩] [] [15] ⟨⟨fun _ h => (by cases h; rfl), rfl⟩, ⟨fun _ h => (by cases h; rfl), rfl⟩, trivial⟩ (by intro p hp hn; simp only [List.mem_cons, List.not_mem_nil, or_false] at hp; rcases hp with rfl | rfl <;> first | (cases hn; done) | exact hM8 _ (Nat.le_of_ble_eq_true rfl)) (fun ρ0 => ?_)
  refine Tk 0 16 1 B15 14 (.own 1700 0) hQ8 ?_
  refine Tk 1 16 3 B15 14 (.own 1700 0) hQ8 ?_
  refine XD.nilOwn (i := 2) (l' := (lb 16 7)) (oA B15 (pa 14) 2) (x := .tmp 7) (b := 1700) (off := 0) hQ8 (by kernel_rfl) (by kernel_rfl) (by kernel_rfl) (by kernel_rfl) (by kernel_rfl) (by kernel_rfl) ?_
  refine Tk 3 16 15 B15 14 (.own 1700 0) hQ8 ?_
  refine Tk 4 16 31 B15 14 (VL C_ n1_ c1_) hQ8 ?_
  refine Tk 5 16 63 B15 14 (.v (.agg #[N6 (ys1.getD (((i1_ : Int)).toNat) 0), N6 0, N6 0, N6 (i1_ : Int)])) hQ8 ?_
  refine Tk 6 16 127 B15 14 (.own 1700 0) hQ8 ?_
  refine XD.nilOwn (i := 7) (l' := (lb 16 255)) (oA B15 (pa 14) 7) (x := .tmp 12) (b := 1700) (off := 0) hQ8 (by kernel_rfl) (by kernel_rfl) (by kernel_rfl) (by kernel_rfl) (by kernel_rfl) (by kernel_rfl) ?_
  refine Ts [8, 9, 10] 16 2047 5 8 hQ8 ?_
  refine Dn ⟨36, [(0, .own 1700 0), (3, .own 3 0), (6, .own 1700 0), (10, VL C_ n1_ c1_), (16, .v (.agg #[N6 (ys1.getD (((i1_ : Int)).toNat) 0), N6 0, N6 0, N6 (i1_ : Int), N7 (i1_ : Int)]))], [(3, ⟨27, [I6 (ys1.getD (((i1_ : Int)).toNat) 0), I6 0, I6 0, I6 (i1_ : Int)]⟩), (1700, ⟨87, [VL C_ n1_ c1_, I7 (i1_ : Int)]⟩)]⟩ ⟨⟨fun _ h => (by cases h; rfl), rfl⟩, ⟨fun _ h => (by cases h; rfl), rfl⟩, trivial⟩ ?_
  refine Do 11 16 4095 B15 14 ?_
  refine Lt 17 89 5 1 [N6 (ys1.getD (((i1_ : Int)).toNat) 0), N6 0, N6 0, N6 (i1_ : Int), N7 (i1_ : Int)] ?_
  intro A10
  refine X.back ⟨⟨⟨fun _ h => (by cases h; rfl), rfl⟩, ⟨fun _ h => (by cases h; rfl), rfl⟩, trivial⟩, Le.refl _, rfl, ?_⟩
  refine Dn ⟨36, [(0, .own 1700 0), (3, .own 3 0), (6, .own 1700 0), (10, VL C_ n1_ c1_), (17, VL A10 1 1)], [(3, ⟨27, [I6 (ys1.getD (((i1_ : Int)).toNat) 0), I6 0, I6 0, I6 (i1_ : Int)]⟩), (1700, ⟨87, [VL C_ n1_ c1_, I7 (i1_ : Int)]⟩)]⟩ ⟨⟨fun _ h => (by cases h; rfl), rfl⟩, ⟨fun _ h => (by cases h; rfl), rfl⟩, trivial⟩ ?_
  refine Do 12 16 8191 B15 14 ?_
  refine Ap 600 (RR 89 5 C_ n1_ c1_ (l1_.flatMap itC)) 84 40 (.agg #[N6 0, N6 0, N6 0, N6 0, N7 0]) (.tmp 10) (.tmp 17) n1_ c1_ 1 1 C_ A10 [N6 (ys1.getD (((i1_ : Int)).toNat) 0), N6 0, N6 0, N6 (i1_ : Int), N7 (i1_ : Int)] (.inl rfl) (by kernel_rfl) (At.of_row (i := 17) (r := (RR 89 5 A10 1 1 [N6 (ys1.getD (((i1_ : Int)).toNat) 0), N6 0, N6 0, N6 (i1_ : Int), N7 (i1_ : Int)])) rfl rfl) (fun w hw e => absurd (rowSome (i := 17) (q := (RR 89 5 A10 1 1 [N6 (ys1.getD (((i1_ : Int)).toNat) 0), N6 0, N6 0, N6 (i1_ : Int), N7 (i1_ : Int)])) rfl rfl (Nat.succ_pos _) w hw) (by rw [e]; decide)) (ones (by kernel_rfl)) (by omega) ?_
  intro A11 c11 hc11
  refine X.tellR [600, 17] (R' := [(600, RR 89 5 A11 (n1_ + 1) c11 ((l1_ ++ [((ys1.getD (((i1_ : Int)).toNat) 0), (0 : Int), (0 : Int), (i1_ : Int), (i1_ : Int))]).flatMap itC)), (17, RR 89 5 A10 1 1 [N6 (ys1.getD (((i1_ : Int)).toNat) 0), N6 0, N6 0, N6 (i1_ : Int), N7 (i1_ : Int)])]) (congrArg (fun cs_ => (600, (RR 89 5 A11 (n1_ + 1) c11 cs_ : Row)) :: [(17, RR 89 5 A10 1 1 [N6 (ys1.getD (((i1_ : Int)).toNat) 0), N6 0, N6 0, N6 (i1_ : Int), N7 (i1_ : Int)])]) (flat_snoc itC l1_ (((ys1.getD (((i1_ : Int)).toNat) 0), (0 : Int), (0 : Int), (i1_ : Int), (i1_ : Int)) : Item))) ?_
  obtain ⟨l11, hl11⟩ : ∃ z_, (l1_ ++ [((ys1.getD (((i1_ : Int)).toNat) 0), (0 : Int), (0 : Int), (i1_ : Int), (i1_ : Int))]) = z_ := ⟨_, rfl⟩
  rw [hl11]
  have hn11 : l11.length = n1_ + 1 := by rw [← hl11, List.length_append, hln1_]; rfl
  refine X.back ⟨⟨⟨fun _ h => (by cases h; rfl), rfl⟩, ⟨fun _ h => (by cases h; rfl), rfl⟩, trivial⟩, Le.refl _, rfl, ?_⟩
  refine XD.nilOwn (i := 13) (l' := (lb 16 16383)) (oA B15 (pa 14) 13) (x := .tmp 6) (b := 1700) (off := 0) hQ8 (by kernel_rfl) (by kernel_rfl) (by kernel_rfl) (by kernel_rfl) (by kernel_rfl) (by kernel_rfl) ?_
  refine Ts [14] 16 32767 1 2 hQ8 ?_
  refine XD.toE ?_
  refine En ⟨36, [(0, .own 1700 0), (3, .own 3 0), (18, VL A11 (n1_ + 1) c11), (20, .own 1700 0)], [(3, ⟨27, [I6 (ys1.getD (((i1_ : Int)).toNat) 0), I6 0, I6 0, I6 (i1_ : Int)]⟩), (1700, ⟨87, [VL C_ n1_ c1_, I7 (i1_ : Int)]⟩)]⟩ ?_
  refine Eo 15 16 65535 B15 14 ?_
  refine X.simple (by kernel_rfl) ?_
  refine X.back ?_
  refine XE.done (by kernel_rfl) ?_
  refine Rn 8 (Qo B15 30 5) [Qs B15 31] ⟨36, [(0, .own 1700 0), (21, .own 1700 0), (25, I7 (IntKind.u64.wrap ((i1_ : Int) + 1)))], [(1700, ⟨87, [VL A11 (n1_ + 1) c11, I7 (i1_ : Int)]⟩)]⟩ ?_
  refine Kn 25 .u64 ((i1_ : Int) + 1) rfl (wu64 (by omega) (by omega)) ?_
  refine Rn 13 (Qo B15 31 7) [] ⟨36, [(28, .own 1700 0), (34, I6 (IntKind.i64.wrap (((n1_ + 1 : Nat) : Int) - 1)))], [(1700, ⟨87, [VL A11 (n1_ + 1) c11, I7 ((i1_ : Int) + 1)]⟩)]⟩ ?_
  refine Kn 34 .i64 (n1_ : Int) rfl (by rw [wi64 (by omega) (by omega)]; omega) ?_
  refine X.inline (f := 49) (l := [.own 1700 0, I6 (n1_ : Int)]) (fn := Try.f49) (c := B49) (by kernel_rfl) (by kernel_rfl) Try.func49 (by kernel_rfl) ?_
  intro Q12 M12 hM12 hQ12 fin12
  refine Rn 1 (Qc B49 2) [.blk 0] ⟨42, [(0, .own 2700 0), (1, I6 (n1_ : Int))], [(2700, ⟨87, [VL A11 (n1_ + 1) c11, I7 ((i1_ : Int) + 1)]⟩)]⟩ ?_
  refine X.loopJ (fun m s R' G' => ∃ (i2_ : Nat) (l2_ : List Item), s = ⟨42, [(0, .own 2700 0), (1, I6 (i2_ : Int))], [(2700, ⟨87, [VL A11 (n1_ + 1) c11, I7 ((i1_ : Int) + 1)]⟩)]⟩ ∧ R' = [(600, RR 89 5 A11 (n1_ + 1) c11 (l2_.flatMap itC)), (17, RR 89 5 A10 1 1 [N6 (ys1.getD (((i1_ : Int)).toNat) 0), N6 0, N6 0, N6 (i1_ : Int), N7 (i1_ : Int)])] ∧ Ge G3 w.heap.size G' ∧ (i2_ < n1_ + 1 ∧ l2_.length = n1_ + 1 ∧ UpOk l2_ i2_ ∧ l2_.Perm l11) ∧ m = (i2_ + 1)) _ ⟨n1_, l11, rfl, rfl, Ge.refl _ _, ⟨by omega, hn11, by rw [← hl11, ← hln1_]; exact up_new hh1_ _, List.Perm.refl _⟩, rfl⟩ ?_
  rintro m13 s13 R13 G13 ⟨i2_, l2_, rfl, rfl, hG13, hF13, rfl⟩ J13 hJ13
  replace hr := hr.mono hG13.le
  replace hr1 := hr1.mono hG13.le
  obtain ⟨hi2_, hln2_, hup_, hpm_⟩ := hF13
  refine Rn 7 (Qc B49 17) [Qs B49 9, .loop J13, .blk 0] ⟨42, [(0, .own 2700 0), (1, I6 (i2_ : Int)), (6, VB (decide ((i2_ : Int) > 0)))], [(2700, ⟨87, [VL A11 (n1_ + 1) c11, I7 ((i1_ : Int) + 1)]⟩)]⟩ ?_
  refine X.split 6 rfl (fun h14 => ?_) (fun h14 => ?_)
  ·
   replace h14 : (i2_ : Int) > 0 := of_decide_eq_true h14
   refine Rn 8 (Qo B49 36 2) [Qs B49 37, .blk 1, .loop J13, .blk 0] ⟨42, [(0, .own 2700 0), (1, I6 (i2_ : Int)), (8, I6 (IntKind.i64.wrap ((i2_ : Int) - 1)))], [(2700, ⟨87, [VL A11 (n1_ + 1) c11, I7 ((i1_ : Int) + 1)]⟩)]⟩ ?_
   refine Kn 8 .i64 ((i2_ : Int) - 1) rfl (wi64 (by omega) (by omega)) ?_
   refine Rn 1 (Qo B49 36 3) [Qs B49 37, .blk 1, .loop J13, .blk 0] ⟨42, [(0, .own 2700 0), (1, I6 (i2_ : Int)), (9, I6 (IntKind.i64.wrap (Int.tdiv ((i2_ : Int) - 1) 2)))], [(2700, ⟨87, [VL A11 (n1_ + 1) c11, I7 ((i1_ : Int) + 1)]⟩)]⟩ ?_
   refine Kn 9 .i64 (((i2_ - 1) / 2 : Nat) : Int) rfl (by rw [wdiv_i64 (by omega) (by omega) (by omega)]; omega) ?_
   refine Rn 9 (Qo B49 148 3) [Qs B49 149, Qs B49 75, .blk 1, .loop J13, .blk 0] ⟨42, [(0, .own 2700 0), (1, I6 (i2_ : Int)), (4, I6 (((i2_ - 1) / 2 : Nat) : Int)), (10, .own 2700 0), (11, I6 (i2_ : Int)), (12, I6 (((i2_ - 1) / 2 : Nat) : Int))], [(2700, ⟨87, [VL A11 (n1_ + 1) c11, I7 ((i1_ : Int) + 1)]⟩)]⟩ ?_
   refine X.joinCG (Qc B49 149) [Qs B49 75, .blk 1, .loop J13, .blk 0] ⟨42, [(0, .own 2700 0), (1, I6 (i2_ : Int)), (4, I6 (((i2_ - 1) / 2 : Nat) : Int)), (14, VB (!(decide (ltI (l2_.getD ((i2_ : Int)).toNat it0) (l2_.getD ((((i2_ - 1) / 2 : Nat) : Int)).toNat it0)))))], [(2700, ⟨87, [VL A11 (n1_ + 1) c11, I7 ((i1_ : Int) + 1)]⟩)]⟩ ?_ fun hY15 => ?_
   ·
    intro G15 hG15
    replace hr := hr.mono hG15.le
    replace hr1 := hr1.mono hG15.le
    refine Rn 0 (Qc B49 149) [Qs B49 75, .blk 1, .loop J13, .blk 0] ⟨42, [(0, .own 2700 0), (1, I6 (i2_ : Int)), (4, I6 (((i2_ - 1) / 2 : Nat) : Int)), (14, VB (!(decide (ltI (l2_.getD ((i2_ : Int)).toNat it0) (l2_.getD ((((i2_ - 1) / 2 : Nat) : Int)).toNat it0)))))], [(2700, ⟨87, [VL A11 (n1_ + 1) c11, I7 ((i1_ : Int) + 1)]⟩)]⟩ ?_
    refine X.split 14 rfl (fun h16 => ?_) (fun h16 => ?_)
    ·
     replace h16 : (decide (ltI (l2_.getD ((i2_ : Int)).toNat it0) (l2_.getD ((((i2_ - 1) / 2 : Nat) : Int)).toNat it0))) = false := by first | (simpa using h16; done) | (have h_ := congrArg (fun b_ => !b_) h16; simpa only [Bool.not_not, Bool.not_true, Bool.not_false] using h_)
     replace h16 : ¬ (ltI (l2_.getD ((i2_ : Int)).toNat it0) (l2_.getD ((((i2_ - 1) / 2 : Nat) : Int)).toNat it0)) := of_decide_eq_false h16
     have hh2_ : HeapFrom l2_ 0 := up_end hup_ (.inr h16)
     refine Rn 6 (.ex .ret) [] ⟨42, [], [(2700, ⟨87, [VL A11 (n1_ + 1) c11, I7 ((i1_ : Int) + 1)]⟩)]⟩ ?_
     refine fin12 _ _ _ _ [] [(1700, ⟨87, [VL A11 (n1_ + 1) c11, I7 ((i1_ : Int) + 1)]⟩)] (.inl rfl) (by kernel_rfl) (by kernel_rfl) ?_
     refine Rn 1 (.ex .normal) [] ⟨36, [], [(1700, ⟨87, [VL A11 (n1_ + 1) c11, I7 ((i1_ : Int) + 1)]⟩)]⟩ ?_
     refine fin8 _ _ _ _ [] [(700, ⟨87, [VL A11 (n1_ + 1) c11, I7 ((i1_ : Int) + 1)]⟩)] (.inr rfl) (by kernel_rfl) (by kernel_rfl) ?_
     refine Rn 5 (Qo B3 1959 1) [.loop J3, .blk 0, Qs B3 31] ⟨112, [(0, VL A1 ys1.length (c - 0)), (2, VB false), (3, .own 700 0), (17, VL A1 ys1.length (c - 0)), (18, I6 (ys1.length : Int)), (19, I6 (i1_ : Int)), (29, I6 (IntKind.i64.wrap ((i1_ : Int) + 1)))], [(700, ⟨87, [VL A11 (n1_ + 1) c11, I7 ((i1_ : Int) + 1)]⟩)]⟩ ?_
     refine Kn 29 .i64 ((i1_ : Int) + 1) rfl (wi64 (by omega) (by omega)) ?_
     refine Rn 2 (.ex .normal) [.loop J3, .blk 0, Qs B3 31] ⟨112, [(0, VL A1 ys1.length (c - 0)), (2, VB false), (3, .own 700 0), (17, VL A1 ys1.length (c - 0)), (18, I6 (ys1.length : Int)), (19, I6 ((i1_ : Int) + 1))], [(700, ⟨87, [VL A11 (n1_ + 1) c11, I7 ((i1_ : Int) + 1)]⟩)]⟩ ?_
     refine X.tellR [600] (R' := [(600, RR 89 5 A11 (n1_ + 1) c11 (l2_.flatMap itC))]) rfl ?_
     exact X.again (hJ3 _ _ _ _ ⟨A11, c11, (n1_ + 1), l2_, (i1_ + 1), rfl, rfl, ((hG3.trans hG13).trans hG15), ⟨by omega, by omega, hln2_, hh2_, hpm_.trans (by rw [← hl11, pushL_succ]; exact hp1_.append_right _)⟩, rfl⟩ (by omega))
    ·
     replace h16 : (decide (ltI (l2_.getD ((i2_ : Int)).toNat it0) (l2_.getD ((((i2_ - 1) / 2 : Nat) : Int)).toNat it0))) = true := by first | (simpa using h16; done) | (have h_ := congrArg (fun b_ => !b_) h16; simpa only [Bool.not_not, Bool.not_true, Bool.not_false] using h_)
     replace h16 : ltI (l2_.getD ((i2_ : Int)).toNat it0) (l2_.getD ((((i2_ - 1) / 2 : Nat) : Int)).toNat it0) := of_decide_eq_true h16
     have hlt_ : ltI (at_ l2_ i2_) (at_ l2_ ((i2_ - 1) / 2)) := h16
     refine Rn 4 (Qc B49 150) [Qs B49 151, .blk 1, .loop J13, .blk 0] ⟨42, [(0, .own 2700 0), (1, I6 (i2_ : Int)), (4, I6 (((i2_ - 1) / 2 : Nat) : Int))], [(2700, ⟨87, [VL A11 (n1_ + 1) c11, I7 ((i1_ : Int) + 1)]⟩)]⟩ ?_
     have hr_d17 := hr
     have hr1_d17 := hr1
     refine Og 3 B49 150 28 [⟨some 0, 2700, 87, [VL A11 (n1_ + 1) c11, I7 ((i1_ : Int) + 1)]⟩] [(600, RR 89 5 A11 (n1_ + 1) c11 (l2_.flatMap itC))] [25, 26, 27] ⟨⟨fun _ h => (by cases h; rfl), rfl⟩, trivial⟩ (by intro p hp hn; simp only [List.mem_cons, List.not_mem_nil, or_false] at hp; rcases hp with rfl <;> first | (cases hn; done) | exact hM12 _ (Nat.le_of_ble_eq_true rfl)) (fun ρ0 => ?_)
     refine Tk 0 28 1 B49 150 (.own 2700 0) hQ12 ?_
     refine XD.nilOwn (i := 1) (l' := (lb 28 3)) (oA B49 (pa 150) 1) (x := .tmp 15) (b := 2700) (off := 0) hQ12 (by kernel_rfl) (by kernel_rfl) (by kernel_rfl) (by kernel_rfl) (by kernel_rfl) (by kernel_rfl) ?_
     refine Tk 2 28 7 B49 150 (.own 2700 0) hQ12 ?_
     refine Tk 3 28 15 B49 150 (VL A11 (n1_ + 1) c11) hQ12 ?_
     refine Tk 4 28 31 B49 150 (I6 (i2_ : Int)) hQ12 ?_
     refine Tk 5 28 63 B49 150 (.own 2700 0) hQ12 ?_
     refine XD.nilOwn (i := 6) (l' := (lb 28 127)) (oA B49 (pa 150) 6) (x := .tmp 20) (b := 2700) (off := 0) hQ12 (by kernel_rfl) (by kernel_rfl) (by kernel_rfl) (by kernel_rfl) (by kernel_rfl) (by kernel_rfl) ?_
     refine Tk 7 28 255 B49 150 (.own 2700 0) hQ12 ?_
     refine Tk 8 28 511 B49 150 (VL A11 (n1_ + 1) c11) hQ12 ?_
     refine XD.pureMove (i := 9) (l' := (lb 28 1023)) (x := .tmp 4) (oA B49 (pa 150) 9) (I6 (((i2_ - 1) / 2 : Nat) : Int)) hQ12 (by kernel_rfl) (by kernel_rfl) (by kernel_rfl) (by kernel_rfl) (by kernel_rfl) (by kernel_rfl) ?_
     refine Tk 10 28 2047 B49 150 (.own 2700 0) hQ12 ?_
     refine XD.nilOwn (i := 11) (l' := (lb 28 4095)) (oA B49 (pa 150) 11) (x := .tmp 25) (b := 2700) (off := 0) hQ12 (by kernel_rfl) (by kernel_rfl) (by kernel_rfl) (by kernel_rfl) (by kernel_rfl) (by kernel_rfl) ?_
     refine Tk 12 28 8191 B49 150 (.own 2700 0) hQ12 ?_
     refine Tk 13 28 16383 B49 150 (VL A11 (n1_ + 1) c11) hQ12 ?_
     refine Tk 14 28 32767 B49 150 (I6 (((i2_ - 1) / 2 : Nat) : Int)) hQ12 ?_
     have b18 : (0 : Int) ≤ (((i2_ - 1) / 2 : Nat) : Int) := by omega
     have b19 : (((i2_ - 1) / 2 : Nat) : Int) < ((n1_ + 1 : Nat) : Int) := by omega
     have at20 : At G15 [(600, ⟨89, 5, .slice A11 (n1_ + 1) c11, n1_ + 1, l2_.flatMap itC⟩)] A11 (((((i2_ - 1) / 2 : Nat) : Int)).toNat * 5) [.int .i64 ((l2_.getD (((((i2_ - 1) / 2 : Nat) : Int)).toNat) it0).1), .int .i64 ((l2_.getD (((((i2_ - 1) / 2 : Nat) : Int)).toNat) it0).2.1), .int .i64 ((l2_.getD (((((i2_ - 1) / 2 : Nat) : Int)).toNat) it0).2.2.1), .int .i64 ((l2_.getD (((((i2_ - 1) / 2 : Nat) : Int)).toNat) it0).2.2.2.1), .int .u64 ((l2_.getD (((((i2_ - 1) / 2 : Nat) : Int)).toNat) it0).2.2.2.2)] := At.rowF itC itC_len (i := 600) (r := ⟨89, 5, .slice A11 (n1_ + 1) c11, n1_ + 1, l2_.flatMap itC⟩) it0 rfl rfl rfl (by rw [hln2_]; omega)
     refine Dx 15 28 65535 B49 150 84 89 5 A11 (n1_ + 1) c11 .i64 (((i2_ - 1) / 2 : Nat) : Int) (.tmp 28) (.tmp 29) hQ12 b18 b19 (rowSome (i := 600) (q := (RR 89 5 A11 (n1_ + 1) c11 (l2_.flatMap itC))) rfl rfl (flat_pos itC_len (by decide) (by rw [hln2_]; omega))) ?_
     have at21 : At G15 [(600, ⟨89, 5, .slice A11 (n1_ + 1) c11, n1_ + 1, l2_.flatMap itC⟩)] A11 (((((i2_ - 1) / 2 : Nat) : Int)).toNat * 5) [.int .i64 ((l2_.getD (((((i2_ - 1) / 2 : Nat) : Int)).toNat) it0).1), .int .i64 ((l2_.getD (((((i2_ - 1) / 2 : Nat) : Int)).toNat) it0).2.1), .int .i64 ((l2_.getD (((((i2_ - 1) / 2 : Nat) : Int)).toNat) it0).2.2.1), .int .i64 ((l2_.getD (((((i2_ - 1) / 2 : Nat) : Int)).toNat) it0).2.2.2.1), .int .u64 ((l2_.getD (((((i2_ - 1) / 2 : Nat) : Int)).toNat) it0).2.2.2.2)] := At.rowF itC itC_len (i := 600) (r := ⟨89, 5, .slice A11 (n1_ + 1) c11, n1_ + 1, l2_.flatMap itC⟩) it0 rfl rfl rfl (by rw [hln2_]; omega)
     refine Dl 16 28 131071 B49 150 89 A11 (((((i2_ - 1) / 2 : Nat) : Int)).toNat * 5) (.tmp 30) (.agg #[N6 ((l2_.getD (((((i2_ - 1) / 2 : Nat) : Int)).toNat) it0).1), N6 ((l2_.getD (((((i2_ - 1) / 2 : Nat) : Int)).toNat) it0).2.1), N6 ((l2_.getD (((((i2_ - 1) / 2 : Nat) : Int)).toNat) it0).2.2.1), N6 ((l2_.getD (((((i2_ - 1) / 2 : Nat) : Int)).toNat) it0).2.2.2.1), N7 ((l2_.getD (((((i2_ - 1) / 2 : Nat) : Int)).toNat) it0).2.2.2.2)]) [N6 ((l2_.getD (((((i2_ - 1) / 2 : Nat) : Int)).toNat) it0).1), N6 ((l2_.getD (((((i2_ - 1) / 2 : Nat) : Int)).toNat) it0).2.1), N6 ((l2_.getD (((((i2_ - 1) / 2 : Nat) : Int)).toNat) it0).2.2.1), N6 ((l2_.getD (((((i2_ - 1) / 2 : Nat) : Int)).toNat) it0).2.2.2.1), N7 ((l2_.getD (((((i2_ - 1) / 2 : Nat) : Int)).toNat) it0).2.2.2.2)] hQ12 at21 ?_
     refine Tk 17 28 262143 B49 150 (.own 2700 0) hQ12 ?_
     refine XD.nilOwn (i := 18) (l' := (lb 28 524287)) (oA B49 (pa 150) 18) (x := .tmp 32) (b := 2700) (off := 0) hQ12 (by kernel_rfl) (by kernel_rfl) (by kernel_rfl) (by kernel_rfl) (by kernel_rfl) (by kernel_rfl) ?_
     refine Tk 19 28 1048575 B49 150 (.own 2700 0) hQ12 ?_
     refine Tk 20 28 2097151 B49 150 (VL A11 (n1_ + 1) c11) hQ12 ?_
     refine Tk 21 28 4194303 B49 150 (I6 (i2_ : Int)) hQ12 ?_
     have b22 : (0 : Int) ≤ (i2_ : Int) := by omega
     have b23 : (i2_ : Int) < ((n1_ + 1 : Nat) : Int) := by omega
     have at24 : At G15 [(600, ⟨89, 5, .slice A11 (n1_ + 1) c11, n1_ + 1, l2_.flatMap itC⟩)] A11 (((i2_ : Int)).toNat * 5) [.int .i64 ((l2_.getD (((i2_ : Int)).toNat) it0).1), .int .i64 ((l2_.getD (((i2_ : Int)).toNat) it0).2.1), .int .i64 ((l2_.getD (((i2_ : Int)).toNat) it0).2.2.1), .int .i64 ((l2_.getD (((i2_ : Int)).toNat) it0).2.2.2.1), .int .u64 ((l2_.getD (((i2_ : Int)).toNat) it0).2.2.2.2)] := At.rowF itC itC_len (i := 600) (r := ⟨89, 5, .slice A11 (n1_ + 1) c11, n1_ + 1, l2_.flatMap itC⟩) it0 rfl rfl rfl (by rw [hln2_]; omega)
     refine Dx 22 28 8388607 B49 150 84 89 5 A11 (n1_ + 1) c11 .i64 (i2_ : Int) (.tmp 35) (.tmp 36) hQ12 b22 b23 (rowSome (i := 600) (q := (RR 89 5 A11 (n1_ + 1) c11 (l2_.flatMap itC))) rfl rfl (flat_pos itC_len (by decide) (by rw [hln2_]; omega))) ?_
     have at25 : At G15 [(600, ⟨89, 5, .slice A11 (n1_ + 1) c11, n1_ + 1, l2_.flatMap itC⟩)] A11 (((i2_ : Int)).toNat * 5) [.int .i64 ((l2_.getD (((i2_ : Int)).toNat) it0).1), .int .i64 ((l2_.getD (((i2_ : Int)).toNat) it0).2.1), .int .i64 ((l2_.getD (((i2_ : Int)).toNat) it0).2.2.1), .int .i64 ((l2_.getD (((i2_ : Int)).toNat) it0).2.2.2.1), .int .u64 ((l2_.getD (((i2_ : Int)).toNat) it0).2.2.2.2)] := At.rowF itC itC_len (i := 600) (r := ⟨89, 5, .slice A11 (n1_ + 1) c11, n1_ + 1, l2_.flatMap itC⟩) it0 rfl rfl rfl (by rw [hln2_]; omega)
     refine Dl 23 28 16777215 B49 150 89 A11 (((i2_ : Int)).toNat * 5) (.tmp 37) (.agg #[N6 ((l2_.getD (((i2_ : Int)).toNat) it0).1), N6 ((l2_.getD (((i2_ : Int)).toNat) it0).2.1), N6 ((l2_.getD (((i2_ : Int)).toNat) it0).2.2.1), N6 ((l2_.getD (((i2_ : Int)).toNat) it0).2.2.2.1), N7 ((l2_.getD (((i2_ : Int)).toNat) it0).2.2.2.2)]) [N6 ((l2_.getD (((i2_ : Int)).toNat) it0).1), N6 ((l2_.getD (((i2_ : Int)).toNat) it0).2.1), N6 ((l2_.getD (((i2_ : Int)).toNat) it0).2.2.1), N6 ((l2_.getD (((i2_ : Int)).toNat) it0).2.2.2.1), N7 ((l2_.getD (((i2_ : Int)).toNat) it0).2.2.2.2)] hQ12 at25 ?_
     have b26 : (0 : Int) ≤ (i2_ : Int) := by omega
     have b27 : (i2_ : Int) < ((n1_ + 1 : Nat) : Int) := by omega
     have at28 : At G15 [(600, ⟨89, 5, .slice A11 (n1_ + 1) c11, n1_ + 1, l2_.flatMap itC⟩)] A11 (((i2_ : Int)).toNat * 5) [.int .i64 ((l2_.getD (((i2_ : Int)).toNat) it0).1), .int .i64 ((l2_.getD (((i2_ : Int)).toNat) it0).2.1), .int .i64 ((l2_.getD (((i2_ : Int)).toNat) it0).2.2.1), .int .i64 ((l2_.getD (((i2_ : Int)).toNat) it0).2.2.2.1), .int .u64 ((l2_.getD (((i2_ : Int)).toNat) it0).2.2.2.2)] := At.rowF itC itC_len (i := 600) (r := ⟨89, 5, .slice A11 (n1_ + 1) c11, n1_ + 1, l2_.flatMap itC⟩) it0 rfl rfl rfl (by rw [hln2_]; omega)
     refine Dx 24 28 33554431 B49 150 84 89 5 A11 (n1_ + 1) c11 .i64 (i2_ : Int) (.tmp 18) (.tmp 19) hQ12 b26 b27 (rowSome (i := 600) (q := (RR 89 5 A11 (n1_ + 1) c11 (l2_.flatMap itC))) rfl rfl (flat_pos itC_len (by decide) (by rw [hln2_]; omega))) ?_
     refine XD.toE ?_
     refine En ⟨42, [(0, .own 2700 0), (1, I6 (i2_ : Int)), (4, I6 (((i2_ - 1) / 2 : Nat) : Int)), (23, VL A11 (n1_ + 1) c11), (24, I6 (((i2_ - 1) / 2 : Nat) : Int)), (31, .v (.agg #[N6 ((l2_.getD (((((i2_ - 1) / 2 : Nat) : Int)).toNat) it0).1), N6 ((l2_.getD (((((i2_ - 1) / 2 : Nat) : Int)).toNat) it0).2.1), N6 ((l2_.getD (((((i2_ - 1) / 2 : Nat) : Int)).toNat) it0).2.2.1), N6 ((l2_.getD (((((i2_ - 1) / 2 : Nat) : Int)).toNat) it0).2.2.2.1), N7 ((l2_.getD (((((i2_ - 1) / 2 : Nat) : Int)).toNat) it0).2.2.2.2)])), (38, .v (.agg #[N6 ((l2_.getD (((i2_ : Int)).toNat) it0).1), N6 ((l2_.getD (((i2_ : Int)).toNat) it0).2.1), N6 ((l2_.getD (((i2_ : Int)).toNat) it0).2.2.1), N6 ((l2_.getD (((i2_ : Int)).toNat) it0).2.2.2.1), N7 ((l2_.getD (((i2_ : Int)).toNat) it0).2.2.2.2)])), (39, .v (elt A11 (((i2_ : Int)).toNat * 5)))], [(2700, ⟨87, [VL A11 (n1_ + 1) c11, I7 ((i1_ : Int) + 1)]⟩)]⟩ ?_
     refine Eo 25 28 67108863 B49 150 ?_
     refine X.storeElem (i := 600) (t := 89) (j := ((i2_ : Int)).toNat * 5) (n := n1_ + 1) (c := c11) (q := (RR 89 5 A11 (n1_ + 1) c11 (l2_.flatMap itC))) (A := A11) (x := .tmp 39) (y := .tmp 31) (z := .agg #[N6 ((l2_.getD (((((i2_ - 1) / 2 : Nat) : Int)).toNat) it0).1), N6 ((l2_.getD (((((i2_ - 1) / 2 : Nat) : Int)).toNat) it0).2.1), N6 ((l2_.getD (((((i2_ - 1) / 2 : Nat) : Int)).toNat) it0).2.2.1), N6 ((l2_.getD (((((i2_ - 1) / 2 : Nat) : Int)).toNat) it0).2.2.2.1), N7 ((l2_.getD (((((i2_ - 1) / 2 : Nat) : Int)).toNat) it0).2.2.2.2)]) (by kernel_rfl) (by kernel_rfl) (by kernel_rfl) rfl rfl (by kernel_rfl) (by rw [show _ = _ from flat_len itC_len _, hln2_]; show ((i2_ : Int)).toNat * 5 + 5 ≤ _; omega) (by kernel_rfl) (Nat.succ_pos _) (by kernel_rfl) ?_
     refine X.tellR [600, 17] (R' := [(600, RR 89 5 A11 (n1_ + 1) c11 ((l2_.set (((i2_ : Int)).toNat) ((l2_.getD (((((i2_ - 1) / 2 : Nat) : Int)).toNat) it0).1, (l2_.getD (((((i2_ - 1) / 2 : Nat) : Int)).toNat) it0).2.1, (l2_.getD (((((i2_ - 1) / 2 : Nat) : Int)).toNat) it0).2.2.1, (l2_.getD (((((i2_ - 1) / 2 : Nat) : Int)).toNat) it0).2.2.2.1, (l2_.getD (((((i2_ - 1) / 2 : Nat) : Int)).toNat) it0).2.2.2.2)).flatMap itC)), (17, RR 89 5 A10 1 1 [N6 (ys1.getD (((i1_ : Int)).toNat) 0), N6 0, N6 0, N6 (i1_ : Int), N7 (i1_ : Int)])]) (congrArg (fun cs_ => (600, (RR 89 5 A11 (n1_ + 1) c11 cs_ : Row)) :: [(17, RR 89 5 A10 1 1 [N6 (ys1.getD (((i1_ : Int)).toNat) 0), N6 0, N6 0, N6 (i1_ : Int), N7 (i1_ : Int)])]) (splice_flat itC_len (((l2_.getD (((((i2_ - 1) / 2 : Nat) : Int)).toNat) it0).1, (l2_.getD (((((i2_ - 1) / 2 : Nat) : Int)).toNat) it0).2.1, (l2_.getD (((((i2_ - 1) / 2 : Nat) : Int)).toNat) it0).2.2.1, (l2_.getD (((((i2_ - 1) / 2 : Nat) : Int)).toNat) it0).2.2.2.1, (l2_.getD (((((i2_ - 1) / 2 : Nat) : Int)).toNat) it0).2.2.2.2) : Item) l2_ (((i2_ : Int)).toNat) (by rw [hln2_]; omega))) ?_
     obtain ⟨l29, hl29⟩ : ∃ z_, (l2_.set (((i2_ : Int)).toNat) ((l2_.getD (((((i2_ - 1) / 2 : Nat) : Int)).toNat) it0).1, (l2_.getD (((((i2_ - 1) / 2 : Nat) : Int)).toNat) it0).2.1, (l2_.getD (((((i2_ - 1) / 2 : Nat) : Int)).toNat) it0).2.2.1, (l2_.getD (((((i2_ - 1) / 2 : Nat) : Int)).toNat) it0).2.2.2.1, (l2_.getD (((((i2_ - 1) / 2 : Nat) : Int)).toNat) it0).2.2.2.2)) = z_ := ⟨_, rfl⟩
     rw [hl29]
     have hn29 : l29.length = n1_ + 1 := by rw [← hl29, List.length_set, hln2_]
     refine X.back ?_
     refine En ⟨42, [(0, .own 2700 0), (1, I6 (i2_ : Int)), (4, I6 (((i2_ - 1) / 2 : Nat) : Int)), (23, VL A11 (n1_ + 1) c11), (24, I6 (((i2_ - 1) / 2 : Nat) : Int)), (38, .v (.agg #[N6 ((l2_.getD (((i2_ : Int)).toNat) it0).1), N6 ((l2_.getD (((i2_ : Int)).toNat) it0).2.1), N6 ((l2_.getD (((i2_ : Int)).toNat) it0).2.2.1), N6 ((l2_.getD (((i2_ : Int)).toNat) it0).2.2.2.1), N7 ((l2_.getD (((i2_ : Int)).toNat) it0).2.2.2.2)]))], [(2700, ⟨87, [VL A11 (n1_ + 1) c11, I7 ((i1_ : Int) + 1)]⟩)]⟩ ?_
     refine Eo 26 28 134217727 B49 150 ?_
     have b30 : (0 : Int) ≤ (((i2_ - 1) / 2 : Nat) : Int) := by omega
     have b31 : (((i2_ - 1) / 2 : Nat) : Int) < ((n1_ + 1 : Nat) : Int) := by omega
     refine Ix 84 89 5 A11 (n1_ + 1) c11 .i64 (((i2_ - 1) / 2 : Nat) : Int) (.tmp 23) (.tmp 24) b30 b31 (rowSome (i := 600) (q := (RR 89 5 A11 (n1_ + 1) c11 (l29.flatMap itC))) rfl rfl (flat_pos itC_len (by decide) (by rw [hn29]; omega))) ?_
     have at32 : At G15 [(600, ⟨89, 5, .slice A11 (n1_ + 1) c11, n1_ + 1, l29.flatMap itC⟩), (17, ⟨89, 5, .slice A10 1 1, 1, [.int .i64 (ys1.getD (((i1_ : Int)).toNat) 0), .int .i64 0, .int .i64 0, .int .i64 (i1_ : Int), .int .u64 (i1_ : Int)]⟩)] A11 (((((i2_ - 1) / 2 : Nat) : Int)).toNat * 5) [.int .i64 ((l29.getD (((((i2_ - 1) / 2 : Nat) : Int)).toNat) it0).1), .int .i64 ((l29.getD (((((i2_ - 1) / 2 : Nat) : Int)).toNat) it0).2.1), .int .i64 ((l29.getD (((((i2_ - 1) / 2 : Nat) : Int)).toNat) it0).2.2.1), .int .i64 ((l29.getD (((((i2_ - 1) / 2 : Nat) : Int)).toNat) it0).2.2.2.1), .int .u64 ((l29.getD (((((i2_ - 1) / 2 : Nat) : Int)).toNat) it0).2.2.2.2)] := At.rowF itC itC_len (i := 600) (r := ⟨89, 5, .slice A11 (n1_ + 1) c11, n1_ + 1, l29.flatMap itC⟩) it0 rfl rfl rfl (by rw [hn29]; omega)
     refine X.back ?_
     refine En ⟨42, [(0, .own 2700 0), (1, I6 (i2_ : Int)), (4, I6 (((i2_ - 1) / 2 : Nat) : Int)), (38, .v (.agg #[N6 ((l2_.getD (((i2_ : Int)).toNat) it0).1), N6 ((l2_.getD (((i2_ : Int)).toNat) it0).2.1), N6 ((l2_.getD (((i2_ : Int)).toNat) it0).2.2.1), N6 ((l2_.getD (((i2_ : Int)).toNat) it0).2.2.2.1), N7 ((l2_.getD (((i2_ : Int)).toNat) it0).2.2.2.2)])), (40, .v (elt A11 (((((i2_ - 1) / 2 : Nat) : Int)).toNat * 5)))], [(2700, ⟨87, [VL A11 (n1_ + 1) c11, I7 ((i1_ : Int) + 1)]⟩)]⟩ ?_
     refine Eo 27 28 268435455 B49 150 ?_
     refine X.storeElem (i := 600) (t := 89) (j := ((((i2_ - 1) / 2 : Nat) : Int)).toNat * 5) (n := n1_ + 1) (c := c11) (q := (RR 89 5 A11 (n1_ + 1) c11 (l29.flatMap itC))) (A := A11) (x := .tmp 40) (y := .tmp 38) (z := .agg #[N6 ((l2_.getD (((i2_ : Int)).toNat) it0).1), N6 ((l2_.getD (((i2_ : Int)).toNat) it0).2.1), N6 ((l2_.getD (((i2_ : Int)).toNat) it0).2.2.1), N6 ((l2_.getD (((i2_ : Int)).toNat) it0).2.2.2.1), N7 ((l2_.getD (((i2_ : Int)).toNat) it0).2.2.2.2)]) (by kernel_rfl) (by kernel_rfl) (by kernel_rfl) rfl rfl (by kernel_rfl) (by rw [show _ = _ from flat_len itC_len _, hn29]; show ((((i2_ - 1) / 2 : Nat) : Int)).toNat * 5 + 5 ≤ _; omega) (by kernel_rfl) (Nat.succ_pos _) (by kernel_rfl) ?_
     refine X.tellR [600, 17] (R' := [(600, RR 89 5 A11 (n1_ + 1) c11 ((l29.set (((((i2_ - 1) / 2 : Nat) : Int)).toNat) ((l2_.getD (((i2_ : Int)).toNat) it0).1, (l2_.getD (((i2_ : Int)).toNat) it0).2.1, (l2_.getD (((i2_ : Int)).toNat) it0).2.2.1, (l2_.getD (((i2_ : Int)).toNat) it0).2.2.2.1, (l2_.getD (((i2_ : Int)).toNat) it0).2.2.2.2)).flatMap itC)), (17, RR 89 5 A10 1 1 [N6 (ys1.getD (((i1_ : Int)).toNat) 0), N6 0, N6 0, N6 (i1_ : Int), N7 (i1_ : Int)])]) (congrArg (fun cs_ => (600, (RR 89 5 A11 (n1_ + 1) c11 cs_ : Row)) :: [(17, RR 89 5 A10 1 1 [N6 (ys1.getD (((i1_ : Int)).toNat) 0), N6 0, N6 0, N6 (i1_ : Int), N7 (i1_ : Int)])]) (splice_flat itC_len (((l2_.getD (((i2_ : Int)).toNat) it0).1, (l2_.getD (((i2_ : Int)).toNat) it0).2.1, (l2_.getD (((i2_ : Int)).toNat) it0).2.2.1, (l2_.getD (((i2_ : Int)).toNat) it0).2.2.2.1, (l2_.getD (((i2_ : Int)).toNat) it0).2.2.2.2) : Item) l29 (((((i2_ - 1) / 2 : Nat) : Int)).toNat) (by rw [hn29]; omega))) ?_
     obtain ⟨l33, hl33⟩ : ∃ z_, (l29.set (((((i2_ - 1) / 2 : Nat) : Int)).toNat) ((l2_.getD (((i2_ : Int)).toNat) it0).1, (l2_.getD (((i2_ : Int)).toNat) it0).2.1, (l2_.getD (((i2_ : Int)).toNat) it0).2.2.1, (l2_.getD (((i2_ : Int)).toNat) it0).2.2.2.1, (l2_.getD (((i2_ : Int)).toNat) it0).2.2.2.2)) = z_ := ⟨_, rfl⟩
     rw [hl33]
     have hn33 : l33.length = n1_ + 1 := by rw [← hl33, List.length_set, hn29]
     refine X.back ?_
     refine XE.done (by kernel_rfl) ?_
     refine Rn 6 (.ex .normal) [.loop J13, .blk 0] ⟨42, [(0, .own 2700 0), (1, I6 (((i2_ - 1) / 2 : Nat) : Int))], [(2700, ⟨87, [VL A11 (n1_ + 1) c11, I7 ((i1_ : Int) + 1)]⟩)]⟩ ?_
     have hsw_ : l33 = swp l2_ i2_ ((i2_ - 1) / 2) := by rw [← hl33, ← hl29]; rfl
     exact X.again (hJ13 _ _ _ _ ⟨((i2_ - 1) / 2), l33, rfl, rfl, (hG13.trans hG15), ⟨by omega, by rw [hsw_, swp_len]; exact hln2_, by rw [hsw_]; exact up_step hup_ (by omega) (by omega) hlt_, by rw [hsw_]; exact (swp_perm (by omega) (by omega)).trans hpm_⟩, rfl⟩ (by omega))
   ·
    refine X.inline (f := 81) (l := [.own 2700 0, I6 (i2_ : Int), I6 (((i2_ - 1) / 2 : Nat) : Int)]) (fn := Try.f81) (c := B81) (by kernel_rfl) (by kernel_rfl) Try.func81 (by kernel_rfl) ?_
    intro Q34 M34 hM34 hQ34 fin34
    refine Rn 6 (Qc B81 6) [Qs B81 7] ⟨52, [(0, .own 3700 0), (1, I6 (i2_ : Int)), (2, I6 (((i2_ - 1) / 2 : Nat) : Int)), (6, VB false)], [(3700, ⟨87, [VL A11 (n1_ + 1) c11, I7 ((i1_ : Int) + 1)]⟩)]⟩ ?_
    have hr_d35 := hr
    have hr1_d35 := hr1
    refine Og 1 B81 6 14 [⟨some 0, 3700, 87, [VL A11 (n1_ + 1) c11, I7 ((i1_ : Int) + 1)]⟩] [(600, RR 89 5 A11 (n1_ + 1) c11 (l2_.flatMap itC))] [] ⟨⟨fun _ h => (by cases h; rfl), rfl⟩, trivial⟩ (by intro p hp hn; simp only [List.mem_cons, List.not_mem_nil, or_false] at hp; rcases hp with rfl <;> first | (cases hn; done) | exact hM34 _ (Nat.le_of_ble_eq_true rfl)) (fun ρ0 => ?_)
    refine Tk 0 14 1 B81 6 (.own 3700 0) hQ34 ?_
    refine XD.nilOwn (i := 1) (l' := (lb 14 3)) (oA B81 (pa 6) 1) (x := .tmp 9) (b := 3700) (off := 0) hQ34 (by kernel_rfl) (by kernel_rfl) (by kernel_rfl) (by kernel_rfl) (by kernel_rfl) (by kernel_rfl) ?_
    refine Tk 2 14 7 B81 6 (.own 3700 0) hQ34 ?_
    refine Tk 3 14 15 B81 6 (VL A11 (n1_ + 1) c11) hQ34 ?_
    refine Tk 4 14 31 B81 6 (I6 (i2_ : Int)) hQ34 ?_
    have b36 : (0 : Int) ≤ (i2_ : Int) := by omega
    have b37 : (i2_ : Int) < ((n1_ + 1 : Nat) : Int) := by omega
    have at38 : At G13 [(600, ⟨89, 5, .slice A11 (n1_ + 1) c11, n1_ + 1, l2_.flatMap itC⟩)] A11 (((i2_ : Int)).toNat * 5) [.int .i64 ((l2_.getD (((i2_ : Int)).toNat) it0).1), .int .i64 ((l2_.getD (((i2_ : Int)).toNat) it0).2.1), .int .i64 ((l2_.getD (((i2_ : Int)).toNat) it0).2.2.1), .int .i64 ((l2_.getD (((i2_ : Int)).toNat) it0).2.2.2.1), .int .u64 ((l2_.getD (((i2_ : Int)).toNat) it0).2.2.2.2)] := At.rowF itC itC_len (i := 600) (r := ⟨89, 5, .slice A11 (n1_ + 1) c11, n1_ + 1, l2_.flatMap itC⟩) it0 rfl rfl rfl (by rw [hln2_]; omega)
    refine Dx 5 14 63 B81 6 84 89 5 A11 (n1_ + 1) c11 .i64 (i2_ : Int) (.tmp 12) (.tmp 13) hQ34 b36 b37 (rowSome (i := 600) (q := (RR 89 5 A11 (n1_ + 1) c11 (l2_.flatMap itC))) rfl rfl (flat_pos itC_len (by decide) (by rw [hln2_]; omega))) ?_
    refine Tk 6 14 127 B81 6 (.own 3700 0) hQ34 ?_
    refine XD.nilOwn (i := 7) (l' := (lb 14 255)) (oA B81 (pa 6) 7) (x := .tmp 15) (b := 3700) (off := 0) hQ34 (by kernel_rfl) (by kernel_rfl) (by kernel_rfl) (by kernel_rfl) (by kernel_rfl) (by kernel_rfl) ?_
    refine Tk 8 14 511 B81 6 (.own 3700 0) hQ34 ?_
    refine Tk 9 14 1023 B81 6 (VL A11 (n1_ + 1) c11) hQ34 ?_
    refine Tk 10 14 2047 B81 6 (I6 (((i2_ - 1) / 2 : Nat) : Int)) hQ34 ?_
    have b39 : (0 : Int) ≤ (((i2_ - 1) / 2 : Nat) : Int) := by omega
    have b40 : (((i2_ - 1) / 2 : Nat) : Int) < ((n1_ + 1 : Nat) : Int) := by omega
    have at41 : At G13 [(600, ⟨89, 5, .slice A11 (n1_ + 1) c11, n1_ + 1, l2_.flatMap itC⟩)] A11 (((((i2_ - 1) / 2 : Nat) : Int)).toNat * 5) [.int .i64 ((l2_.getD (((((i2_ - 1) / 2 : Nat) : Int)).toNat) it0).1), .int .i64 ((l2_.getD (((((i2_ - 1) / 2 : Nat) : Int)).toNat) it0).2.1), .int .i64 ((l2_.getD (((((i2_ - 1) / 2 : Nat) : Int)).toNat) it0).2.2.1), .int .i64 ((l2_.getD (((((i2_ - 1) / 2 : Nat) : Int)).toNat) it0).2.2.2.1), .int .u64 ((l2_.getD (((((i2_ - 1) / 2 : Nat) : Int)).toNat) it0).2.2.2.2)] := At.rowF itC itC_len (i := 600) (r := ⟨89, 5, .slice A11 (n1_ + 1) c11, n1_ + 1, l2_.flatMap itC⟩) it0 rfl rfl rfl (by rw [hln2_]; omega)
    refine Dx 11 14 4095 B81 6 84 89 5 A11 (n1_ + 1) c11 .i64 (((i2_ - 1) / 2 : Nat) : Int) (.tmp 18) (.tmp 19) hQ34 b39 b40 (rowSome (i := 600) (q := (RR 89 5 A11 (n1_ + 1) c11 (l2_.flatMap itC))) rfl rfl (flat_pos itC_len (by decide) (by rw [hln2_]; omega))) ?_
    refine Ts [12, 13] 14 16383 0 2 hQ34 ?_
    refine XD.done (by kernel_rfl) ?_
    refine Rn 3 (Qc B81 28) [Qs B81 29, Qs B81 15] ⟨52, [(6, VB false), (7, .v (elt A11 (((i2_ : Int)).toNat * 5))), (8, .v (elt A11 (((((i2_ - 1) / 2 : Nat) : Int)).toNat * 5)))], [(3700, ⟨87, [VL A11 (n1_ + 1) c11, I7 ((i1_ : Int) + 1)]⟩)]⟩ ?_
    have hr_d42 := hr
    have hr1_d42 := hr1
    refine Og 2 B81 28 11 [] [(600, RR 89 5 A11 (n1_ + 1) c11 (l2_.flatMap itC))] [] trivial (by simp) (fun ρ0 => ?_)
    refine Tk 0 11 1 B81 28 (.v (elt A11 (((i2_ : Int)).toNat * 5))) hQ34 ?_
    refine XD.nilElt (i := 1) (l' := (lb 11 3)) (oA B81 (pa 28) 1) (x := .tmp 21) (A := A11) (j := ((i2_ : Int)).toNat * 5) hQ34 (by kernel_rfl) (by kernel_rfl) (by kernel_rfl) (by kernel_rfl) (by kernel_rfl) (by kernel_rfl) ?_
    refine XD.field (i := 2) (l' := (lb 11 7)) (o := (oA B81 (pa 28) 2)) (t := 89) (f := 0) (n := 0) (A := A11) (j := ((i2_ : Int)).toNat * 5) (x := .tmp 22) hQ34 (by kernel_rfl) (by kernel_rfl) (by kernel_rfl) (by kernel_rfl) (by kernel_rfl) (by kernel_rfl) (by kernel_rfl) ?_
    refine XD.field (i := 3) (l' := (lb 11 15)) (o := (oA B81 (pa 28) 3)) (t := 27) (f := 0) (n := 0) (A := A11) (j := ((i2_ : Int)).toNat * 5 + 0) (x := .tmp 23) hQ34 (by kernel_rfl) (by kernel_rfl) (by kernel_rfl) (by kernel_rfl) (by kernel_rfl) (by kernel_rfl) (by kernel_rfl) ?_
    have at43 : At G13 [(600, ⟨89, 5, .slice A11 (n1_ + 1) c11, n1_ + 1, l2_.flatMap itC⟩)] A11 (((i2_ : Int)).toNat * 5) [.int .i64 ((l2_.getD (((i2_ : Int)).toNat) it0).1), .int .i64 ((l2_.getD (((i2_ : Int)).toNat) it0).2.1), .int .i64 ((l2_.getD (((i2_ : Int)).toNat) it0).2.2.1), .int .i64 ((l2_.getD (((i2_ : Int)).toNat) it0).2.2.2.1), .int .u64 ((l2_.getD (((i2_ : Int)).toNat) it0).2.2.2.2)] := At.rowF itC itC_len (i := 600) (r := ⟨89, 5, .slice A11 (n1_ + 1) c11, n1_ + 1, l2_.flatMap itC⟩) it0 rfl rfl rfl (by rw [hln2_]; omega)
    refine Dl 4 11 31 B81 28 2 A11 (((i2_ : Int)).toNat * 5 + 0 + 0) (.tmp 24) (N6 ((l2_.getD (((i2_ : Int)).toNat) it0).1)) [N6 ((l2_.getD (((i2_ : Int)).toNat) it0).1)] hQ34 (at43.part 0 1) ?_
    refine Tk 5 11 63 B81 28 (.v (elt A11 (((((i2_ - 1) / 2 : Nat) : Int)).toNat * 5))) hQ34 ?_
    refine XD.nilElt (i := 6) (l' := (lb 11 127)) (oA B81 (pa 28) 6) (x := .tmp 26) (A := A11) (j := ((((i2_ - 1) / 2 : Nat) : Int)).toNat * 5) hQ34 (by kernel_rfl) (by kernel_rfl) (by kernel_rfl) (by kernel_rfl) (by kernel_rfl) (by kernel_rfl) ?_
    refine XD.field (i := 7) (l' := (lb 11 255)) (o := (oA B81 (pa 28) 7)) (t := 89) (f := 0) (n := 0) (A := A11) (j := ((((i2_ - 1) / 2 : Nat) : Int)).toNat * 5) (x := .tmp 27) hQ34 (by kernel_rfl) (by kernel_rfl) (by kernel_rfl) (by kernel_rfl) (by kernel_rfl) (by kernel_rfl) (by kernel_rfl) ?_
    refine XD.field (i := 8) (l' := (lb 11 511)) (o := (oA B81 (pa 28) 8)) (t := 27) (f := 0) (n := 0) (A := A11) (j := ((((i2_ - 1) / 2 : Nat) : Int)).toNat * 5 + 0) (x := .tmp 28) hQ34 (by kernel_rfl) (by kernel_rfl) (by kernel_rfl) (by kernel_rfl) (by kernel_rfl) (by kernel_rfl) (by kernel_rfl) ?_
    have at44 : At G13 [(600, ⟨89, 5, .slice A11 (n1_ + 1) c11, n1_ + 1, l2_.flatMap itC⟩)] A11 (((((i2_ - 1) / 2 : Nat) : Int)).toNat * 5) [.int .i64 ((l2_.getD (((((i2_ - 1) / 2 : Nat) : Int)).toNat) it0).1), .int .i64 ((l2_.getD (((((i2_ - 1) / 2 : Nat) : Int)).toNat) it0).2.1), .int .i64 ((l2_.getD (((((i2_ - 1) / 2 : Nat) : Int)).toNat) it0).2.2.1), .int .i64 ((l2_.getD (((((i2_ - 1) / 2 : Nat) : Int)).toNat) it0).2.2.2.1), .int .u64 ((l2_.getD (((((i2_ - 1) / 2 : Nat) : Int)).toNat) it0).2.2.2.2)] := At.rowF itC itC_len (i := 600) (r := ⟨89, 5, .slice A11 (n1_ + 1) c11, n1_ + 1, l2_.flatMap itC⟩) it0 rfl rfl rfl (by rw [hln2_]; omega)
    refine Dl 9 11 1023 B81 28 2 A11 (((((i2_ - 1) / 2 : Nat) : Int)).toNat * 5 + 0 + 0) (.tmp 29) (N6 ((l2_.getD (((((i2_ - 1) / 2 : Nat) : Int)).toNat) it0).1)) [N6 ((l2_.getD (((((i2_ - 1) / 2 : Nat) : Int)).toNat) it0).1)] hQ34 (at44.part 0 1) ?_
    refine Ts [10] 11 2047 0 1 hQ34 ?_
    refine XD.done (by kernel_rfl) ?_
    refine Rn 1 (Qc B81 29) [Qs B81 15] ⟨52, [(6, VB false), (7, .v (elt A11 (((i2_ : Int)).toNat * 5))), (8, .v (elt A11 (((((i2_ - 1) / 2 : Nat) : Int)).toNat * 5))), (31, VB (((l2_.getD (((i2_ : Int)).toNat) it0).1) != ((l2_.getD (((((i2_ - 1) / 2 : Nat) : Int)).toNat) it0).1)))], [(3700, ⟨87, [VL A11 (n1_ + 1) c11, I7 ((i1_ : Int) + 1)]⟩)]⟩ ?_
    refine X.split 31 rfl (fun h45 => ?_) (fun h45 => ?_)
    ·
     replace h45 : ((l2_.getD (((i2_ : Int)).toNat) it0).1) ≠ ((l2_.getD (((((i2_ - 1) / 2 : Nat) : Int)).toNat) it0).1) := by simpa using h45
     refine Rn 2 (Qc B81 116) [Qs B81 117, Qs B81 15] ⟨52, [(6, VB false), (7, .v (elt A11 (((i2_ : Int)).toNat * 5))), (8, .v (elt A11 (((((i2_ - 1) / 2 : Nat) : Int)).toNat * 5)))], [(3700, ⟨87, [VL A11 (n1_ + 1) c11, I7 ((i1_ : Int) + 1)]⟩)]⟩ ?_
     have hr_d46 := hr
     have hr1_d46 := hr1
     refine Og 3 B81 116 12 [] [(600, RR 89 5 A11 (n1_ + 1) c11 (l2_.flatMap itC))] [] trivial (by simp) (fun ρ0 => ?_)
     refine Tk 0 12 1 B81 116 (.v (elt A11 (((i2_ : Int)).toNat * 5))) hQ34 ?_
     refine XD.nilElt (i := 1) (l' := (lb 12 3)) (oA B81 (pa 116) 1) (x := .tmp 32) (A := A11) (j := ((i2_ : Int)).toNat * 5) hQ34 (by kernel_rfl) (by kernel_rfl) (by kernel_rfl) (by kernel_rfl) (by kernel_rfl) (by kernel_rfl) ?_
     refine XD.field (i := 2) (l' := (lb 12 7)) (o := (oA B81 (pa 116) 2)) (t := 89) (f := 0) (n := 0) (A := A11) (j := ((i2_ : Int)).toNat * 5) (x := .tmp 33) hQ34 (by kernel_rfl) (by kernel_rfl) (by kernel_rfl) (by kernel_rfl) (by kernel_rfl) (by kernel_rfl) (by kernel_rfl) ?_
     refine XD.field (i := 3) (l' := (lb 12 15)) (o := (oA B81 (pa 116) 3)) (t := 27) (f := 0) (n := 0) (A := A11) (j := ((i2_ : Int)).toNat * 5 + 0) (x := .tmp 34) hQ34 (by kernel_rfl) (by kernel_rfl) (by kernel_rfl) (by kernel_rfl) (by kernel_rfl) (by kernel_rfl) (by kernel_rfl) ?_
     have at47 : At G13 [(600, ⟨89, 5, .slice A11 (n1_ + 1) c11, n1_ + 1, l2_.flatMap itC⟩)] A11 (((i2_ : Int)).toNat * 5) [.int .i64 ((l2_.getD (((i2_ : Int)).toNat) it0).1), .int .i64 ((l2_.getD (((i2_ : Int)).toNat) it0).2.1), .int .i64 ((l2_.getD (((i2_ : Int)).toNat) it0).2.2.1), .int .i64 ((l2_.getD (((i2_ : Int)).toNat) it0).2.2.2.1), .int .u64 ((l2_.getD (((i2_ : Int)).toNat) it0).2.2.2.2)] := At.rowF itC itC_len (i := 600) (r := ⟨89, 5, .slice A11 (n1_ + 1) c11, n1_ + 1, l2_.flatMap itC⟩) it0 rfl rfl rfl (by rw [hln2_]; omega)
     refine Dl 4 12 31 B81 116 2 A11 (((i2_ : Int)).toNat * 5 + 0 + 0) (.tmp 35) (N6 ((l2_.getD (((i2_ : Int)).toNat) it0).1)) [N6 ((l2_.getD (((i2_ : Int)).toNat) it0).1)] hQ34 (at47.part 0 1) ?_
     refine Tk 5 12 63 B81 116 (.v (elt A11 (((((i2_ - 1) / 2 : Nat) : Int)).toNat * 5))) hQ34 ?_
     refine XD.nilElt (i := 6) (l' := (lb 12 127)) (oA B81 (pa 116) 6) (x := .tmp 37) (A := A11) (j := ((((i2_ - 1) / 2 : Nat) : Int)).toNat * 5) hQ34 (by kernel_rfl) (by kernel_rfl) (by kernel_rfl) (by kernel_rfl) (by kernel_rfl) (by kernel_rfl) ?_
     refine XD.field (i := 7) (l' := (lb 12 255)) (o := (oA B81 (pa 116) 7)) (t := 89) (f := 0) (n := 0) (A := A11) (j := ((((i2_ - 1) / 2 : Nat) : Int)).toNat * 5) (x := .tmp 38) hQ34 (by kernel_rfl) (by kernel_rfl) (by kernel_rfl) (by kernel_rfl) (by kernel_rfl) (by kernel_rfl) (by kernel_rfl) ?_
     refine XD.field (i := 8) (l' := (lb 12 511)) (o := (oA B81 (pa 116) 8)) (t := 27) (f := 0) (n := 0) (A := A11) (j := ((((i2_ - 1) / 2 : Nat) : Int)).toNat * 5 + 0) (x := .tmp 39) hQ34 (by kernel_rfl) (by kernel_rfl) (by kernel_rfl) (by kernel_rfl) (by kernel_rfl) (by kernel_rfl) (by kernel_rfl) ?_
     have at48 : At G13 [(600, ⟨89, 5, .slice A11 (n1_ + 1) c11, n1_ + 1, l2_.flatMap itC⟩)] A11 (((((i2_ - 1) / 2 : Nat) : Int)).toNat * 5) [.int .i64 ((l2_.getD (((((i2_ - 1) / 2 : Nat) : Int)).toNat) it0).1), .int .i64 ((l2_.getD (((((i2_ - 1) / 2 : Nat) : Int)).toNat) it0).2.1), .int .i64 ((l2_.getD (((((i2_ - 1) / 2 : Nat) : Int)).toNat) it0).2.2.1), .int .i64 ((l2_.getD (((((i2_ - 1) / 2 : Nat) : Int)).toNat) it0).2.2.2.1), .int .u64 ((l2_.getD (((((i2_ - 1) / 2 : Nat) : Int)).toNat) it0).2.2.2.2)] := At.rowF itC itC_len (i := 600) (r := ⟨89, 5, .slice A11 (n1_ + 1) c11, n1_ + 1, l2_.flatMap itC⟩) it0 rfl rfl rfl (by rw [hln2_]; omega)
     refine Dl 9 12 1023 B81 116 2 A11 (((((i2_ - 1) / 2 : Nat) : Int)).toNat * 5 + 0 + 0) (.tmp 40) (N6 ((l2_.getD (((((i2_ - 1) / 2 : Nat) : Int)).toNat) it0).1)) [N6 ((l2_.getD (((((i2_ - 1) / 2 : Nat) : Int)).toNat) it0).1)] hQ34 (at48.part 0 1) ?_
     refine Ts [10, 11] 12 4095 0 2 hQ34 ?_
     refine XD.done (by kernel_rfl) ?_
     refine Rn 3 (.ex .ret) [] ⟨52, [(6, VB (decide ((l2_.getD (((i2_ : Int)).toNat) it0).1 < (l2_.getD (((((i2_ - 1) / 2 : Nat) : Int)).toNat) it0).1)))], [(3700, ⟨87, [VL A11 (n1_ + 1) c11, I7 ((i1_ : Int) + 1)]⟩)]⟩ ?_
     refine fin34 _ _ _ _ [.bool (decide ((l2_.getD (((i2_ : Int)).toNat) it0).1 < (l2_.getD (((((i2_ - 1) / 2 : Nat) : Int)).toNat) it0).1))] [(2700, ⟨87, [VL A11 (n1_ + 1) c11, I7 ((i1_ : Int) + 1)]⟩)] (.inl rfl) (by kernel_rfl) (by kernel_rfl) ?_
     refine Rn 3 (Qc B49 149) [Qs B49 75, .blk 1, .loop J13, .blk 0] ⟨42, [(0, .own 2700 0), (1, I6 (i2_ : Int)), (4, I6 (((i2_ - 1) / 2 : Nat) : Int)), (14, VB (!(decide ((l2_.getD (((i2_ : Int)).toNat) it0).1 < (l2_.getD (((((i2_ - 1) / 2 : Nat) : Int)).toNat) it0).1))))], [(2700, ⟨87, [VL A11 (n1_ + 1) c11, I7 ((i1_ : Int) + 1)]⟩)]⟩ ?_
     refine X.castS ⟨42, [(0, .own 2700 0), (1, I6 (i2_ : Int)), (4, I6 (((i2_ - 1) / 2 : Nat) : Int)), (14, VB (!(decide (ltI (l2_.getD ((i2_ : Int)).toNat it0) (l2_.getD ((((i2_ - 1) / 2 : Nat) : Int)).toNat it0)))))], [(2700, ⟨87, [VL A11 (n1_ + 1) c11, I7 ((i1_ : Int) + 1)]⟩)]⟩ (congrArg (fun zb_ : Bool => (⟨42, [(0, .own 2700 0), (1, I6 (i2_ : Int)), (4, I6 (((i2_ - 1) / 2 : Nat) : Int)), (14, VB zb_)], [(2700, ⟨87, [VL A11 (n1_ + 1) c11, I7 ((i1_ : Int) + 1)]⟩)]⟩ : S)) (show (!(decide ((l2_.getD (((i2_ : Int)).toNat) it0).1 < (l2_.getD (((((i2_ - 1) / 2 : Nat) : Int)).toNat) it0).1))) = (!(decide (ltI (l2_.getD ((i2_ : Int)).toNat it0) (l2_.getD ((((i2_ - 1) / 2 : Nat) : Int)).toNat it0)))) by first | exact congrArg (fun b_ => !b_) (decide_eq_decide.mpr (by unfold ltI; omega)) | exact decide_eq_decide.mpr (by unfold ltI; omega))) ?_
     exact hY15 _ (Ge.refl _ _)
    ·
     replace h45 : ((l2_.getD (((i2_ : Int)).toNat) it0).1) = ((l2_.getD (((((i2_ - 1) / 2 : Nat) : Int)).toNat) it0).1) := by simpa using h45
     refine Rn 4 (Qc B81 30) [Qs B81 31] ⟨52, [(6, VB false), (7, .v (elt A11 (((i2_ : Int)).toNat * 5))), (8, .v (elt A11 (((((i2_ - 1) / 2 : Nat) : Int)).toNat * 5)))], [(3700, ⟨87, [VL A11 (n1_ + 1) c11, I7 ((i1_ : Int) + 1)]⟩)]⟩ ?_
     have hr_d49 := hr
     have hr1_d49 := hr1
     refine Og 4 B81 30 10 [] [(600, RR 89 5 A11 (n1_ + 1) c11 (l2_.flatMap itC))] [] trivial (by simp) (fun ρ0 => ?_)
     refine Tk 0 10 1 B81 30 (.v (elt A11 (((i2_ : Int)).toNat * 5))) hQ34 ?_
     refine XD.nilElt (i := 1) (l' := (lb 10 3)) (oA B81 (pa 30) 1) (x := .tmp 43) (A := A11) (j := ((i2_ : Int)).toNat * 5) hQ34 (by kernel_rfl) (by kernel_rfl) (by kernel_rfl) (by kernel_rfl) (by kernel_rfl) (by kernel_rfl) ?_
     refine XD.field (i := 2) (l' := (lb 10 7)) (o := (oA B81 (pa 30) 2)) (t := 89) (f := 1) (n := 4) (A := A11) (j := ((i2_ : Int)).toNat * 5) (x := .tmp 44) hQ34 (by kernel_rfl) (by kernel_rfl) (by kernel_rfl) (by kernel_rfl) (by kernel_rfl) (by kernel_rfl) (by kernel_rfl) ?_
     have at50 : At G13 [(600, ⟨89, 5, .slice A11 (n1_ + 1) c11, n1_ + 1, l2_.flatMap itC⟩)] A11 (((i2_ : Int)).toNat * 5) [.int .i64 ((l2_.getD (((i2_ : Int)).toNat) it0).1), .int .i64 ((l2_.getD (((i2_ : Int)).toNat) it0).2.1), .int .i64 ((l2_.getD (((i2_ : Int)).toNat) it0).2.2.1), .int .i64 ((l2_.getD (((i2_ : Int)).toNat) it0).2.2.2.1), .int .u64 ((l2_.getD (((i2_ : Int)).toNat) it0).2.2.2.2)] := At.rowF itC itC_len (i := 600) (r := ⟨89, 5, .slice A11 (n1_ + 1) c11, n1_ + 1, l2_.flatMap itC⟩) it0 rfl rfl rfl (by rw [hln2_]; omega)
     refine Dl 3 10 15 B81 30 85 A11 (((i2_ : Int)).toNat * 5 + 4) (.tmp 45) (N7 ((l2_.getD (((i2_ : Int)).toNat) it0).2.2.2.2)) [N7 ((l2_.getD (((i2_ : Int)).toNat) it0).2.2.2.2)] hQ34 (at50.part 4 1) ?_
     refine Tk 4 10 31 B81 30 (.v (elt A11 (((((i2_ - 1) / 2 : Nat) : Int)).toNat * 5))) hQ34 ?_
     refine XD.nilElt (i := 5) (l' := (lb 10 63)) (oA B81 (pa 30) 5) (x := .tmp 47) (A := A11) (j := ((((i2_ - 1) / 2 : Nat) : Int)).toNat * 5) hQ34 (by kernel_rfl) (by kernel_rfl) (by kernel_rfl) (by kernel_rfl) (by kernel_rfl) (by kernel_rfl) ?_
     refine XD.field (i := 6) (l' := (lb 10 127)) (o := (oA B81 (pa 30) 6)) (t := 89) (f := 1) (n := 4) (A := A11) (j := ((((i2_ - 1) / 2 : Nat) : Int)).toNat * 5) (x := .tmp 48) hQ34 (by kernel_rfl) (by kernel_rfl) (by kernel_rfl) (by kernel_rfl) (by kernel_rfl) (by kernel_rfl) (by kernel_rfl) ?_
     have at51 : At G13 [(600, ⟨89, 5, .slice A11 (n1_ + 1) c11, n1_ + 1, l2_.flatMap itC⟩)] A11 (((((i2_ - 1) / 2 : Nat) : Int)).toNat * 5) [.int .i64 ((l2_.getD (((((i2_ - 1) / 2 : Nat) : Int)).toNat) it0).1), .int .i64 ((l2_.getD (((((i2_ - 1) / 2 : Nat) : Int)).toNat) it0).2.1), .int .i64 ((l2_.getD (((((i2_ - 1) / 2 : Nat) : Int)).toNat) it0).2.2.1), .int .i64 ((l2_.getD (((((i2_ - 1) / 2 : Nat) : Int)).toNat) it0).2.2.2.1), .int .u64 ((l2_.getD (((((i2_ - 1) / 2 : Nat) : Int)).toNat) it0).2.2.2.2)] := At.rowF itC itC_len (i := 600) (r := ⟨89, 5, .slice A11 (n1_ + 1) c11, n1_ + 1, l2_.flatMap itC⟩) it0 rfl rfl rfl (by rw [hln2_]; omega)
     refine Dl 7 10 255 B81 30 85 A11 (((((i2_ - 1) / 2 : Nat) : Int)).toNat * 5 + 4) (.tmp 49) (N7 ((l2_.getD (((((i2_ - 1) / 2 : Nat) : Int)).toNat) it0).2.2.2.2)) [N7 ((l2_.getD (((((i2_ - 1) / 2 : Nat) : Int)).toNat) it0).2.2.2.2)] hQ34 (at51.part 4 1) ?_
     refine Ts [8, 9] 10 1023 0 2 hQ34 ?_
     refine XD.done (by kernel_rfl) ?_
     refine Rn 2 (.ex .ret) [] ⟨52, [(6, VB (decide ((l2_.getD (((i2_ : Int)).toNat) it0).2.2.2.2 < (l2_.getD (((((i2_ - 1) / 2 : Nat) : Int)).toNat) it0).2.2.2.2)))], [(3700, ⟨87, [VL A11 (n1_ + 1) c11, I7 ((i1_ : Int) + 1)]⟩)]⟩ ?_
     refine fin34 _ _ _ _ [.bool (decide ((l2_.getD (((i2_ : Int)).toNat) it0).2.2.2.2 < (l2_.getD (((((i2_ - 1) / 2 : Nat) : Int)).toNat) it0).2.2.2.2))] [(2700, ⟨87, [VL A11 (n1_ + 1) c11, I7 ((i1_ : Int) + 1)]⟩)] (.inl rfl) (by kernel_rfl) (by kernel_rfl) ?_
     refine Rn 3 (Qc B49 149) [Qs B49 75, .blk 1, .loop J13, .blk 0] ⟨42, [(0, .own 2700 0), (1, I6 (i2_ : Int)), (4, I6 (((i2_ - 1) / 2 : Nat) : Int)), (14, VB (!(decide ((l2_.getD (((i2_ : Int)).toNat) it0).2.2.2.2 < (l2_.getD (((((i2_ - 1) / 2 : Nat) : Int)).toNat) it0).2.2.2.2))))], [(2700, ⟨87, [VL A11 (n1_ + 1) c11, I7 ((i1_ : Int) + 1)]⟩)]⟩ ?_
     refine X.castS ⟨42, [(0, .own 2700 0), (1, I6 (i2_ : Int)), (4, I6 (((i2_ - 1) / 2 : Nat) : Int)), (14, VB (!(decide (ltI (l2_.getD ((i2_ : Int)).toNat it0) (l2_.getD ((((i2_ - 1) / 2 : Nat) : Int)).toNat it0)))))], [(2700, ⟨87, [VL A11 (n1_ + 1) c11, I7 ((i1_ : Int) + 1)]⟩)]⟩ (congrArg (fun zb_ : Bool => (⟨42, [(0, .own 2700 0), (1, I6 (i2_ : Int)), (4, I6 (((i2_ - 1) / 2 : Nat) : Int)), (14, VB zb_)], [(2700, ⟨87, [VL A11 (n1_ + 1) c11, I7 ((i1_ : Int) + 1)]⟩)]⟩ : S)) (show (!(decide ((l2_.getD (((i2_ : Int)).toNat) it0).2.2.2.2 < (l2_.getD (((((i2_ - 1) / 2 : Nat) : Int)).toNat) it0).2.2.2.2))) = (!(decide (ltI (l2_.getD ((i2_ : Int)).toNat it0) (l2_.getD ((((i2_ - 1) / 2 : Nat) : Int)).toNat it0)))) by first | exact congrArg (fun b_ => !b_) (decide_eq_decide.mpr (by unfold ltI; omega)) | exact decide_eq_decide.mpr (by unfold ltI; omega))) ?_
     exact hY15 _ (Ge.refl _ _)
  ·
   replace h14 : ¬ ((i2_ : Int) > 0) := of_decide_eq_false h14
   have hh2_ : HeapFrom l2_ 0 := up_end hup_ (.inl (by omega))
   refine Rn 5 (.ex .normal) [] ⟨42, [], [(2700, ⟨87, [VL A11 (n1_ + 1) c11, I7 ((i1_ : Int) + 1)]⟩)]⟩ ?_
   refine fin12 _ _ _ _ [] [(1700, ⟨87, [VL A11 (n1_ + 1) c11, I7 ((i1_ : Int) + 1)]⟩)] (.inr rfl) (by kernel_rfl) (by kernel_rfl) ?_
   refine Rn 1 (.ex .normal) [] ⟨36, [], [(1700, ⟨87, [VL A11 (n1_ + 1) c11, I7 ((i1_ : Int) + 1)]⟩)]⟩ ?_
   refine fin8 _ _ _ _ [] [(700, ⟨87, [VL A11 (n1_ + 1) c11, I7 ((i1_ : Int) + 1)]⟩)] (.inr rfl) (by kernel_rfl) (by kernel_rfl) ?_
   refine Rn 5 (Qo B3 1959 1) [.loop J3, .blk 0, Qs B3 31] ⟨112, [(0, VL A1 ys1.length (c - 0)), (2, VB false), (3, .own 700 0), (17, VL A1 ys1.length (c - 0)), (18, I6 (ys1.length : Int)), (19, I6 (i1_ : Int)), (29, I6 (IntKind.i64.wrap ((i1_ : Int) + 1)))], [(700, ⟨87, [VL A11 (n1_ + 1) c11, I7 ((i1_ : Int) + 1)]⟩)]⟩ ?_
   refine Kn 29 .i64 ((i1_ : Int) + 1) rfl (wi64 (by omega) (by omega)) ?_
   refine Rn 2 (.ex .normal) [.loop J3, .blk 0, Qs B3 31] ⟨112, [(0, VL A1 ys1.length (c - 0)), (2, VB false), (3, .own 700 0), (17, VL A1 ys1.length (c - 0)), (18, I6 (ys1.length : Int)), (19, I6 ((i1_ : Int) + 1))], [(700, ⟨87, [VL A11 (n1_ + 1) c11, I7 ((i1_ : Int) + 1)]⟩)]⟩ ?_
   refine X.tellR [600] (R' := [(600, RR 89 5 A11 (n1_ + 1) c11 (l2_.flatMap itC))]) rfl ?_
   exact X.again (hJ3 _ _ _ _ ⟨A11, c11, (n1_ + 1), l2_, (i1_ + 1), rfl, rfl, (hG3.trans hG13), ⟨by omega, by omega, hln2_, hh2_, hpm_.trans (by rw [← hl11, pushL_succ]; exact hp1_.append_right _)⟩, rfl⟩ (by omega))
 ·
  replace h4 : ¬ ((i1_ : Int) < ((ys1.length : Nat) : Int)) := of_decide_eq_false h4
  refine Rn 10 (Qo B3 62 2) [Qs B3 63] ⟨112, [(0, VL A1 ys1.length (c - 0)), (2, VB false), (3, .own 700 0), (31, I6 (ys1.length : Int))], [(700, ⟨87, [VL C_ n1_ c1_, I7 (i1_ : Int)]⟩)]⟩ ?_
  refine X.makeN (t := 28) (e := 4) (bytes := 1) 32 (.bool false) (x := .tmp 31) (y := .tmp 31) (n := ys1.length) (by kernel_rfl) (by kernel_rfl) (by kernel_rfl) (by kernel_rfl) (by kernel_rfl) (by kernel_rfl) (by kernel_rfl) (by omega) (by omega) ?_
  intro A52
  refine X.tellR [32, 600] (R' := [(32, RR 4 1 A52 ys1.length ys1.length ((List.replicate ys1.length false).flatMap blC)), (600, RR 89 5 C_ n1_ c1_ (l1_.flatMap itC))]) (congrArg (fun cs_ => (32, (RR 4 1 A52 ys1.length ys1.length cs_ : Row)) :: [(600, RR 89 5 C_ n1_ c1_ (l1_.flatMap itC))]) (blC_rep ys1.length)) ?_
  refine Rn 19 (Qc B3 1018) [.blk 2, Qs B3 255] ⟨112, [(0, VL A1 ys1.length (c - 0)), (2, VB false), (3, .own 700 0), (6, VL A52 ys1.length ys1.length), (7, .own 7 0), (35, I6 (ys1.length : Int)), (36, I6 0)], [(7, ⟨27, [I6 0, I6 0, I6 0, I6 0]⟩), (700, ⟨87, [VL C_ n1_ c1_, I7 (i1_ : Int)]⟩)]⟩ ?_
  refine X.tellR [600, 32] (R' := [(600, RR 89 5 C_ n1_ c1_ (l1_.flatMap itC)), (32, RR 4 1 A52 ys1.length ys1.length ((List.replicate ys1.length false).flatMap blC))]) rfl ?_
  refine Rn 0 (Qc B3 1018) [.blk 2, Qs B3 255] ⟨112, [(0, VL A1 ys1.length (c - 0)), (3, .own 700 0), (6, VL A52 ys1.length ys1.length), (7, .own 7 0), (35, I6 (ys1.length : Int)), (36, I6 0)], [(7, ⟨27, [I6 0, I6 0, I6 0, I6 0]⟩), (700, ⟨87, [VL C_ n1_ c1_, I7 (i1_ : Int)]⟩)]⟩ ?_
  refine X.loopJ (fun m s R' G' => ∃ (D_ : Option Addr) (c_ m_ : Nat) (l_ : List Item) (bl_ : List Bool) (z_ : Item) (k_ : Nat), s = ⟨112, [(0, VL A1 ys1.length (c - 0)), (3, .own 700 0), (6, VL A52 ys1.length ys1.length), (7, .own 7 0), (35, I6 (ys1.length : Int)), (36, I6 (k_ : Int))], [(7, ⟨27, [I6 z_.1, I6 z_.2.1, I6 z_.2.2.1, I6 z_.2.2.2.1]⟩), (700, ⟨87, [VL D_ m_ c_, I7 (i1_ : Int)]⟩)]⟩ ∧ R' = [(600, RR 89 5 D_ m_ c_ (l_.flatMap itC)), (32, RR 4 1 A52 ys1.length ys1.length (bl_.flatMap blC))] ∧ Ge G3 w.heap.size G' ∧ (k_ ≤ ys1.length ∧ m_ = ys1.length - k_ ∧ l_.length = m_ ∧ bl_.length = ys1.length ∧ Left ys1 l_ bl_ z_ k_) ∧ m = (ys1.length - k_)) _ ⟨C_, c1_, n1_, l1_, (List.replicate ys1.length false), it0, 0, rfl, rfl, Ge.refl _ _, ⟨by omega, by omega, hln1_, List.length_replicate, left_zero hh1_ (by rw [show i1_ = ys1.length by omega] at hp1_; exact hp1_)⟩, rfl⟩ ?_
  rintro m53 s53 R53 G53 ⟨D_, c_, m_, l_, bl_, z_, k_, rfl, rfl, hG53, hF53, rfl⟩ J53 hJ53
  replace hr := hr.mono hG53.le
  replace hr1 := hr1.mono hG53.le
  obtain ⟨hk_, hm_, hln_, hlb_, hL_⟩ := hF53
  refine Rn 6 (Qc B3 8146) [Qs B3 8147, .loop J53, .blk 2, Qs B3 255] ⟨112, [(0, VL A1 ys1.length (c - 0)), (3, .own 700 0), (6, VL A52 ys1.length ys1.length), (7, .own 7 0), (35, I6 (ys1.length : Int)), (36, I6 (k_ : Int)), (37, VB (decide ((k_ : Int) < (ys1.length : Int))))], [(7, ⟨27, [I6 z_.1, I6 z_.2.1, I6 z_.2.2.1, I6 z_.2.2.2.1]⟩), (700, ⟨87, [VL D_ m_ c_, I7 (i1_ : Int)]⟩)]⟩ ?_
  refine X.split 37 rfl (fun h54 => ?_) (fun h54 => ?_)
  ·
   replace h54 : (k_ : Int) < ((ys1.length : Nat) : Int) := of_decide_eq_true h54
   obtain ⟨j_, hj_, hx_⟩ := hL_.of _ (at_mem (l := l_) (j := 0) (by omega))
   have e1_ : (l_.getD 0 it0).1 = ys1.getD j_ 0 := congrArg (fun x_ : Item => x_.1) hx_
   have e4_ : (l_.getD 0 it0).2.2.2.1 = (j_ : Int) := congrArg (fun x_ : Item => x_.2.2.2.1) hx_
   have e5_ : (l_.getD 0 it0).2.2.2.2 = (j_ : Int) := congrArg (fun x_ : Item => x_.2.2.2.2) hx_
   refine Rn 14 (Qo B3 130354 1) [Qs B3 130355, .blk 3, Qs B3 16295, .loop J53, .blk 2, Qs B3 255] ⟨112, [(0, VL A1 ys1.length (c - 0)), (3, .own 700 0), (6, VL A52 ys1.length ys1.length), (7, .own 7 0), (8, I6 (k_ : Int)), (35, I6 (ys1.length : Int)), (36, I6 (k_ : Int)), (40, .own 700 0)], [(7, ⟨27, [I6 z_.1, I6 z_.2.1, I6 z_.2.2.1, I6 z_.2.2.2.1]⟩), (700, ⟨87, [VL D_ m_ c_, I7 (i1_ : Int)]⟩)]⟩ ?_
   refine X.inline (f := 16) (l := [.own 700 0]) (fn := Try.f16) (c := B16) (by kernel_rfl) (by kernel_rfl) Try.func16 (by kernel_rfl) ?_
   intro Q55 M55 hM55 hQ55 fin55
   refine Rn 9 (Qo B16 6 1) [Qs B16 7] ⟨45, [(0, .own 1700 0), (2, .own 2 0), (3, VB false), (8, .own 1700 0)], [(2, ⟨27, [I6 0, I6 0, I6 0, I6 0]⟩), (1007, ⟨27, [I6 z_.1, I6 z_.2.1, I6 z_.2.2.1, I6 z_.2.2.2.1]⟩), (1700, ⟨87, [VL D_ m_ c_, I7 (i1_ : Int)]⟩)]⟩ ?_
   refine X.inline (f := 32) (l := [.own 1700 0]) (fn := Try.f32) (c := B32) (by kernel_rfl) (by kernel_rfl) Try.func32 (by kernel_rfl) ?_
   intro Q56 M56 hM56 hQ56 fin56
   refine Rn 10 (Qo B32 12 1) [Qs B32 13, Qs B32 7] ⟨15, [(0, .own 2700 0), (2, .own 2 0), (3, VB false), (4, .own 2700 0)], [(2, ⟨27, [I6 0, I6 0, I6 0, I6 0]⟩), (1002, ⟨27, [I6 0, I6 0, I6 0, I6 0]⟩), (2007, ⟨27, [I6 z_.1, I6 z_.2.1, I6 z_.2.2.1, I6 z_.2.2.2.1]⟩), (2700, ⟨87, [VL D_ m_ c_, I7 (i1_ : Int)]⟩)]⟩ ?_
   refine X.inline (f := 17) (l := [.own 2700 0]) (fn := Try.f17) (c := B17) (by kernel_rfl) (by kernel_rfl) Try.func17 (by kernel_rfl) ?_
   intro Q57 M57 hM57 hQ57 fin57
   refine Rn 9 (Qo B17 12 1) [Qs B17 13, Qs B17 7] ⟨10, [(0, .own 3700 0), (2, I6 0), (3, .own 3700 0)], [(1002, ⟨27, [I6 0, I6 0, I6 0, I6 0]⟩), (2002, ⟨27, [I6 0, I6 0, I6 0, I6 0]⟩), (3007, ⟨27, [I6 z_.1, I6 z_.2.1, I6 z_.2.2.1, I6 z_.2.2.2.1]⟩), (3700, ⟨87, [VL D_ m_ c_, I7 (i1_ : Int)]⟩)]⟩ ?_
   refine X.eqOwnNil (t := 23) (t' := 23) (e := 87) (b := 3700) (off := 0) (x := .tmp 3) (y := .const (.pointer none)) (by kernel_rfl) (fun g => by kernel_rfl) (by kernel_rfl) (by kernel_rfl) (by kernel_rfl) (by kernel_rfl) ?_
   refine Rn 16 (.ex .ret) [] ⟨10, [(2, I6 ((m_ : Nat) : Int))], [(1002, ⟨27, [I6 0, I6 0, I6 0, I6 0]⟩), (2002, ⟨27, [I6 0, I6 0, I6 0, I6 0]⟩), (3007, ⟨27, [I6 z_.1, I6 z_.2.1, I6 z_.2.2.1, I6 z_.2.2.2.1]⟩), (3700, ⟨87, [VL D_ m_ c_, I7 (i1_ : Int)]⟩)]⟩ ?_
   refine fin57 _ _ _ _ [N6 ((m_ : Nat) : Int)] [(2, ⟨27, [I6 0, I6 0, I6 0, I6 0]⟩), (1002, ⟨27, [I6 0, I6 0, I6 0, I6 0]⟩), (2007, ⟨27, [I6 z_.1, I6 z_.2.1, I6 z_.2.2.1, I6 z_.2.2.2.1]⟩), (2700, ⟨87, [VL D_ m_ c_, I7 (i1_ : Int)]⟩)] (.inl rfl) (by kernel_rfl) (by kernel_rfl) ?_
   refine Rn 3 (Qc B32 13) [Qs B32 7] ⟨15, [(0, .own 2700 0), (2, .own 2 0), (3, VB false), (6, VB (((m_ : Nat) : Int) == 0))], [(2, ⟨27, [I6 0, I6 0, I6 0, I6 0]⟩), (1002, ⟨27, [I6 0, I6 0, I6 0, I6 0]⟩), (2007, ⟨27, [I6 z_.1, I6 z_.2.1, I6 z_.2.2.1, I6 z_.2.2.2.1]⟩), (2700, ⟨87, [VL D_ m_ c_, I7 (i1_ : Int)]⟩)]⟩ ?_
   refine X.isFalse 6 rfl (beq_eq_false_iff_ne.mpr (by omega)) ?_
   refine Rn 9 (Qo B32 14 4) [Qs B32 15] ⟨15, [(2, .own 2 0), (3, VB false), (11, VL D_ m_ c_)], [(2, ⟨27, [I6 0, I6 0, I6 0, I6 0]⟩), (1002, ⟨27, [I6 0, I6 0, I6 0, I6 0]⟩), (2007, ⟨27, [I6 z_.1, I6 z_.2.1, I6 z_.2.2.1, I6 z_.2.2.2.1]⟩), (2700, ⟨87, [VL D_ m_ c_, I7 (i1_ : Int)]⟩)]⟩ ?_
   have b58 : (0 : Int) ≤ 0 := by omega
   have b59 : 0 < ((m_ : Nat) : Int) := by omega
   refine Ix 84 89 5 D_ m_ c_ .i64 0 (.tmp 11) (.const (N6 0)) b58 b59 (rowSome (i := 600) (q := (RR 89 5 D_ m_ c_ (l_.flatMap itC))) rfl rfl (flat_pos itC_len (by decide) (by rw [hln_]; omega))) ?_
   have at60 : At G53 [(600, ⟨89, 5, .slice D_ m_ c_, m_, l_.flatMap itC⟩), (32, ⟨4, 1, .slice A52 ys1.length ys1.length, ys1.length, bl_.flatMap blC⟩)] D_ (0 * 5) [.int .i64 ((l_.getD 0 it0).1), .int .i64 ((l_.getD 0 it0).2.1), .int .i64 ((l_.getD 0 it0).2.2.1), .int .i64 ((l_.getD 0 it0).2.2.2.1), .int .u64 ((l_.getD 0 it0).2.2.2.2)] := At.rowF itC itC_len (i := 600) (r := ⟨89, 5, .slice D_ m_ c_, m_, l_.flatMap itC⟩) it0 rfl rfl rfl (by rw [hln_]; omega)
   refine Rn 0 (Qo B32 14 5) [Qs B32 15] ⟨15, [(2, .own 2 0), (3, VB false), (12, .v (elt D_ (0 * 5)))], [(2, ⟨27, [I6 0, I6 0, I6 0, I6 0]⟩), (1002, ⟨27, [I6 0, I6 0, I6 0, I6 0]⟩), (2007, ⟨27, [I6 z_.1, I6 z_.2.1, I6 z_.2.2.1, I6 z_.2.2.2.1]⟩), (2700, ⟨87, [VL D_ m_ c_, I7 (i1_ : Int)]⟩)]⟩ ?_
   refine X.field (t := 89) (f := 0) (n := 0) (A := D_) (j := 0 * 5) (x := .tmp 12) (by kernel_rfl) (by kernel_rfl) (by kernel_rfl) (by kernel_rfl) ?_
   refine Rn 0 (Qo B32 14 6) [Qs B32 15] ⟨15, [(2, .own 2 0), (3, VB false), (13, .v (elt D_ (0 * 5 + 0)))], [(2, ⟨27, [I6 0, I6 0, I6 0, I6 0]⟩), (1002, ⟨27, [I6 0, I6 0, I6 0, I6 0]⟩), (2007, ⟨27, [I6 z_.1, I6 z_.2.1, I6 z_.2.2.1, I6 z_.2.2.2.1]⟩), (2700, ⟨87, [VL D_ m_ c_, I7 (i1_ : Int)]⟩)]⟩ ?_
   have at61 : At G53 [(600, ⟨89, 5, .slice D_ m_ c_, m_, l_.flatMap itC⟩), (32, ⟨4, 1, .slice A52 ys1.length ys1.length, ys1.length, bl_.flatMap blC⟩)] D_ (0 * 5) [.int .i64 ((l_.getD 0 it0).1), .int .i64 ((l_.getD 0 it0).2.1), .int .i64 ((l_.getD 0 it0).2.2.1), .int .i64 ((l_.getD 0 it0).2.2.2.1), .int .u64 ((l_.getD 0 it0).2.2.2.2)] := At.rowF itC itC_len (i := 600) (r := ⟨89, 5, .slice D_ m_ c_, m_, l_.flatMap itC⟩) it0 rfl rfl rfl (by rw [hln_]; omega)
   refine Ld 27 D_ (0 * 5 + 0) (.tmp 13) (.agg #[N6 ((l_.getD 0 it0).1), N6 ((l_.getD 0 it0).2.1), N6 ((l_.getD 0 it0).2.2.1), N6 ((l_.getD 0 it0).2.2.2.1)]) [N6 ((l_.getD 0 it0).1), N6 ((l_.getD 0 it0).2.1), N6 ((l_.getD 0 it0).2.2.1), N6 ((l_.getD 0 it0).2.2.2.1)] (at61.part 0 4) ?_
   refine Rn 5 (.ex .ret) [] ⟨15, [(2, .own 2 0), (3, VB true)], [(2, ⟨27, [I6 ((l_.getD 0 it0).1), I6 ((l_.getD 0 it0).2.1), I6 ((l_.getD 0 it0).2.2.1), I6 ((l_.getD 0 it0).2.2.2.1)]⟩), (1002, ⟨27, [I6 0, I6 0, I6 0, I6 0]⟩), (2007, ⟨27, [I6 z_.1, I6 z_.2.1, I6 z_.2.2.1, I6 z_.2.2.2.1]⟩), (2700, ⟨87, [VL D_ m_ c_, I7 (i1_ : Int)]⟩)]⟩ ?_
   refine fin56 _ _ _ _ [.agg #[N6 ((l_.getD 0 it0).1), N6 ((l_.getD 0 it0).2.1), N6 ((l_.getD 0 it0).2.2.1), N6 ((l_.getD 0 it0).2.2.2.1)], .bool true] [(2, ⟨27, [I6 0, I6 0, I6 0, I6 0]⟩), (1007, ⟨27, [I6 z_.1, I6 z_.2.1, I6 z_.2.2.1, I6 z_.2.2.2.1]⟩), (1700, ⟨87, [VL D_ m_ c_, I7 (i1_ : Int)]⟩)] (.inl rfl) (by kernel_rfl) (by kernel_rfl) ?_
   refine Rn 26 (Qo B16 30 6) [Qs B16 31] ⟨45, [(0, .own 1700 0), (2, .own 2 0), (3, VB false), (4, .own 4 0), (20, I6 (IntKind.i64.wrap (((m_ : Nat) : Int) - 1)))], [(2, ⟨27, [I6 0, I6 0, I6 0, I6 0]⟩), (4, ⟨27, [I6 ((l_.getD 0 it0).1), I6 ((l_.getD 0 it0).2.1), I6 ((l_.getD 0 it0).2.2.1), I6 ((l_.getD 0 it0).2.2.2.1)]⟩), (1007, ⟨27, [I6 z_.1, I6 z_.2.1, I6 z_.2.2.1, I6 z_.2.2.2.1]⟩), (1700, ⟨87, [VL D_ m_ c_, I7 (i1_ : Int)]⟩)]⟩ ?_
   refine Kn 20 .i64 ((m_ - 1 : Nat) : Int) rfl (by rw [wi64 (by omega) (by omega)]; omega) ?_
   refine Rn 4 (Qc B16 62) [Qs B16 63] ⟨45, [(0, .own 1700 0), (2, .own 2 0), (3, VB false), (4, .own 4 0), (6, I6 ((m_ - 1 : Nat) : Int))], [(2, ⟨27, [I6 0, I6 0, I6 0, I6 0]⟩), (4, ⟨27, [I6 ((l_.getD 0 it0).1), I6 ((l_.getD 0 it0).2.1), I6 ((l_.getD 0 it0).2.2.1), I6 ((l_.getD 0 it0).2.2.2.1)]⟩), (1007, ⟨27, [I6 z_.1, I6 z_.2.1, I6 z_.2.2.1, I6 z_.2.2.2.1]⟩), (1700, ⟨87, [VL D_ m_ c_, I7 (i1_ : Int)]⟩)]⟩ ?_
   have hr_d62 := hr
   have hr1_d62 := hr1
   refine Og 5 B16 62 13 [⟨some 0, 1700, 87, [VL D_ m_ c_, I7 (i1_ : Int)]⟩] [(600, RR 89 5 D_ m_ c_ (l_.flatMap itC))] [12] ⟨⟨fun _ h => (by cases h; rfl), rfl⟩, trivial⟩ (by intro p hp hn; simp only [List.mem_cons, List.not_mem_nil, or_false] at hp; rcases hp with rfl <;> first | (cases hn; done) | exact hM55 _ (Nat.le_of_ble_eq_true rfl)) (fun ρ0 => ?_)
   refine Tk 0 13 1 B16 62 (.own 1700 0) hQ55 ?_
   refine XD.nilOwn (i := 1) (l' := (lb 13 3)) (oA B16 (pa 62) 1) (x := .tmp 21) (b := 1700) (off := 0) hQ55 (by kernel_rfl) (by kernel_rfl) (by kernel_rfl) (by kernel_rfl) (by kernel_rfl) (by kernel_rfl) ?_
   refine Tk 2 13 7 B16 62 (.own 1700 0) hQ55 ?_
   refine Tk 3 13 15 B16 62 (VL D_ m_ c_) hQ55 ?_
   refine Tk 4 13 31 B16 62 (.own 1700 0) hQ55 ?_
   refine XD.nilOwn (i := 5) (l' := (lb 13 63)) (oA B16 (pa 62) 5) (x := .tmp 25) (b := 1700) (off := 0) hQ55 (by kernel_rfl) (by kernel_rfl) (by kernel_rfl) (by kernel_rfl) (by kernel_rfl) (by kernel_rfl) ?_
   refine Tk 6 13 127 B16 62 (.own 1700 0) hQ55 ?_
   refine Tk 7 13 255 B16 62 (VL D_ m_ c_) hQ55 ?_
   refine Tk 8 13 511 B16 62 (I6 ((m_ - 1 : Nat) : Int)) hQ55 ?_
   have b63 : (0 : Int) ≤ ((m_ - 1 : Nat) : Int) := by omega
   have b64 : ((m_ - 1 : Nat) : Int) < ((m_ : Nat) : Int) := by omega
   have at65 : At G53 [(600, ⟨89, 5, .slice D_ m_ c_, m_, l_.flatMap itC⟩)] D_ ((((m_ - 1 : Nat) : Int)).toNat * 5) [.int .i64 ((l_.getD ((((m_ - 1 : Nat) : Int)).toNat) it0).1), .int .i64 ((l_.getD ((((m_ - 1 : Nat) : Int)).toNat) it0).2.1), .int .i64 ((l_.getD ((((m_ - 1 : Nat) : Int)).toNat) it0).2.2.1), .int .i64 ((l_.getD ((((m_ - 1 : Nat) : Int)).toNat) it0).2.2.2.1), .int .u64 ((l_.getD ((((m_ - 1 : Nat) : Int)).toNat) it0).2.2.2.2)] := At.rowF itC itC_len (i := 600) (r := ⟨89, 5, .slice D_ m_ c_, m_, l_.flatMap itC⟩) it0 rfl rfl rfl (by rw [hln_]; omega)
   refine Dx 9 13 1023 B16 62 84 89 5 D_ m_ c_ .i64 ((m_ - 1 : Nat) : Int) (.tmp 28) (.tmp 29) hQ55 b63 b64 (rowSome (i := 600) (q := (RR 89 5 D_ m_ c_ (l_.flatMap itC))) rfl rfl (flat_pos itC_len (by decide) (by rw [hln_]; omega))) ?_
   have at66 : At G53 [(600, ⟨89, 5, .slice D_ m_ c_, m_, l_.flatMap itC⟩)] D_ ((((m_ - 1 : Nat) : Int)).toNat * 5) [.int .i64 ((l_.getD ((((m_ - 1 : Nat) : Int)).toNat) it0).1), .int .i64 ((l_.getD ((((m_ - 1 : Nat) : Int)).toNat) it0).2.1), .int .i64 ((l_.getD ((((m_ - 1 : Nat) : Int)).toNat) it0).2.2.1), .int .i64 ((l_.getD ((((m_ - 1 : Nat) : Int)).toNat) it0).2.2.2.1), .int .u64 ((l_.getD ((((m_ - 1 : Nat) : Int)).toNat) it0).2.2.2.2)] := At.rowF itC itC_len (i := 600) (r := ⟨89, 5, .slice D_ m_ c_, m_, l_.flatMap itC⟩) it0 rfl rfl rfl (by rw [hln_]; omega)
   refine Dl 10 13 2047 B16 62 89 D_ ((((m_ - 1 : Nat) : Int)).toNat * 5) (.tmp 30) (.agg #[N6 ((l_.getD ((((m_ - 1 : Nat) : Int)).toNat) it0).1), N6 ((l_.getD ((((m_ - 1 : Nat) : Int)).toNat) it0).2.1), N6 ((l_.getD ((((m_ - 1 : Nat) : Int)).toNat) it0).2.2.1), N6 ((l_.getD ((((m_ - 1 : Nat) : Int)).toNat) it0).2.2.2.1), N7 ((l_.getD ((((m_ - 1 : Nat) : Int)).toNat) it0).2.2.2.2)]) [N6 ((l_.getD ((((m_ - 1 : Nat) : Int)).toNat) it0).1), N6 ((l_.getD ((((m_ - 1 : Nat) : Int)).toNat) it0).2.1), N6 ((l_.getD ((((m_ - 1 : Nat) : Int)).toNat) it0).2.2.1), N6 ((l_.getD ((((m_ - 1 : Nat) : Int)).toNat) it0).2.2.2.1), N7 ((l_.getD ((((m_ - 1 : Nat) : Int)).toNat) it0).2.2.2.2)] hQ55 at66 ?_
   have b67 : (0 : Int) ≤ 0 := by omega
   have b68 : 0 < ((m_ : Nat) : Int) := by omega
   have at69 : At G53 [(600, ⟨89, 5, .slice D_ m_ c_, m_, l_.flatMap itC⟩)] D_ (0 * 5) [.int .i64 ((l_.getD 0 it0).1), .int .i64 ((l_.getD 0 it0).2.1), .int .i64 ((l_.getD 0 it0).2.2.1), .int .i64 ((l_.getD 0 it0).2.2.2.1), .int .u64 ((l_.getD 0 it0).2.2.2.2)] := At.rowF itC itC_len (i := 600) (r := ⟨89, 5, .slice D_ m_ c_, m_, l_.flatMap itC⟩) it0 rfl rfl rfl (by rw [hln_]; omega)
   refine Dx 11 13 4095 B16 62 84 89 5 D_ m_ c_ .i64 0 (.tmp 24) (.const (N6 0)) hQ55 b67 b68 (rowSome (i := 600) (q := (RR 89 5 D_ m_ c_ (l_.flatMap itC))) rfl rfl (flat_pos itC_len (by decide) (by rw [hln_]; omega))) ?_
   refine XD.toE ?_
   refine En ⟨45, [(0, .own 1700 0), (2, .own 2 0), (3, VB false), (4, .own 4 0), (6, I6 ((m_ - 1 : Nat) : Int)), (31, .v (.agg #[N6 ((l_.getD ((((m_ - 1 : Nat) : Int)).toNat) it0).1), N6 ((l_.getD ((((m_ - 1 : Nat) : Int)).toNat) it0).2.1), N6 ((l_.getD ((((m_ - 1 : Nat) : Int)).toNat) it0).2.2.1), N6 ((l_.getD ((((m_ - 1 : Nat) : Int)).toNat) it0).2.2.2.1), N7 ((l_.getD ((((m_ - 1 : Nat) : Int)).toNat) it0).2.2.2.2)])), (32, .v (elt D_ (0 * 5)))], [(2, ⟨27, [I6 0, I6 0, I6 0, I6 0]⟩), (4, ⟨27, [I6 ((l_.getD 0 it0).1), I6 ((l_.getD 0 it0).2.1), I6 ((l_.getD 0 it0).2.2.1), I6 ((l_.getD 0 it0).2.2.2.1)]⟩), (1007, ⟨27, [I6 z_.1, I6 z_.2.1, I6 z_.2.2.1, I6 z_.2.2.2.1]⟩), (1700, ⟨87, [VL D_ m_ c_, I7 (i1_ : Int)]⟩)]⟩ ?_
   refine Eo 12 13 8191 B16 62 ?_
   refine X.storeElem (i := 600) (t := 89) (j := 0 * 5) (n := m_) (c := c_) (q := (RR 89 5 D_ m_ c_ (l_.flatMap itC))) (A := D_) (x := .tmp 32) (y := .tmp 31) (z := .agg #[N6 ((l_.getD ((((m_ - 1 : Nat) : Int)).toNat) it0).1), N6 ((l_.getD ((((m_ - 1 : Nat) : Int)).toNat) it0).2.1), N6 ((l_.getD ((((m_ - 1 : Nat) : Int)).toNat) it0).2.2.1), N6 ((l_.getD ((((m_ - 1 : Nat) : Int)).toNat) it0).2.2.2.1), N7 ((l_.getD ((((m_ - 1 : Nat) : Int)).toNat) it0).2.2.2.2)]) (by kernel_rfl) (by kernel_rfl) (by kernel_rfl) rfl rfl (by kernel_rfl) (by rw [show _ = _ from flat_len itC_len _, hln_]; show 0 * 5 + 5 ≤ _; omega) (by kernel_rfl) (Nat.succ_pos _) (by kernel_rfl) ?_
   refine X.tellR [600, 32] (R' := [(600, RR 89 5 D_ m_ c_ ((l_.set 0 ((l_.getD ((((m_ - 1 : Nat) : Int)).toNat) it0).1, (l_.getD ((((m_ - 1 : Nat) : Int)).toNat) it0).2.1, (l_.getD ((((m_ - 1 : Nat) : Int)).toNat) it0).2.2.1, (l_.getD ((((m_ - 1 : Nat) : Int)).toNat) it0).2.2.2.1, (l_.getD ((((m_ - 1 : Nat) : Int)).toNat) it0).2.2.2.2)).flatMap itC)), (32, RR 4 1 A52 ys1.length ys1.length (bl_.flatMap blC))]) (congrArg (fun cs_ => (600, (RR 89 5 D_ m_ c_ cs_ : Row)) :: [(32, RR 4 1 A52 ys1.length ys1.length (bl_.flatMap blC))]) (splice_flat itC_len (((l_.getD ((((m_ - 1 : Nat) : Int)).toNat) it0).1, (l_.getD ((((m_ - 1 : Nat) : Int)).toNat) it0).2.1, (l_.getD ((((m_ - 1 : Nat) : Int)).toNat) it0).2.2.1, (l_.getD ((((m_ - 1 : Nat) : Int)).toNat) it0).2.2.2.1, (l_.getD ((((m_ - 1 : Nat) : Int)).toNat) it0).2.2.2.2) : Item) l_ 0 (by rw [hln_]; omega))) ?_
   obtain ⟨l70, hl70⟩ : ∃ z_, (l_.set 0 ((l_.getD ((((m_ - 1 : Nat) : Int)).toNat) it0).1, (l_.getD ((((m_ - 1 : Nat) : Int)).toNat) it0).2.1, (l_.getD ((((m_ - 1 : Nat) : Int)).toNat) it0).2.2.1, (l_.getD ((((m_ - 1 : Nat) : Int)).toNat) it0).2.2.2.1, (l_.getD ((((m_ - 1 : Nat) : Int)).toNat) it0).2.2.2.2)) = z_ := ⟨_, rfl⟩
   rw [hl70]
   have hn70 : l70.length = m_ := by rw [← hl70, List.length_set, hln_]
   refine X.back ?_
   refine XE.done (by kernel_rfl) ?_
   refine Rn 9 (Qo B16 126 6) [Qs B16 127] ⟨45, [(0, .own 1700 0), (2, .own 2 0), (3, VB false), (4, .own 4 0), (33, .own 1700 0), (37, VL D_ m_ c_), (38, I6 ((m_ - 1 : Nat) : Int))], [(2, ⟨27, [I6 0, I6 0, I6 0, I6 0]⟩), (4, ⟨27, [I6 ((l_.getD 0 it0).1), I6 ((l_.getD 0 it0).2.1), I6 ((l_.getD 0 it0).2.2.1), I6 ((l_.getD 0 it0).2.2.2.1)]⟩), (1007, ⟨27, [I6 z_.1, I6 z_.2.1, I6 z_.2.2.1, I6 z_.2.2.2.1]⟩), (1700, ⟨87, [VL D_ m_ c_, I7 (i1_ : Int)]⟩)]⟩ ?_
   refine X.capLe (i := 600) (q := (RR 89 5 D_ m_ c_ (l70.flatMap itC))) (n := m_) (c := c_) (A := D_) rfl rfl ?_
   intro hcl_ hcm_
   have hlo71 : 0 ≤ (((m_ - 1 : Nat) : Int)).toNat := by omega
   have hhi71 : (((m_ - 1 : Nat) : Int)).toNat ≤ m_ := by omega
   refine X.cut (t := 84) (e := 89) (sz := 5) (n := m_) (c := c_) (A := D_) (x := .tmp 37) (l := none) (h := (some (.tmp 38))) (lv := none) (hv := (some (N6 ((m_ - 1 : Nat) : Int)))) 0 ((((m_ - 1 : Nat) : Int)).toNat) (by kernel_rfl) (by kernel_rfl) (by kernel_rfl) (by kernel_rfl) (by kernel_rfl) (by kernel_rfl) (by kernel_rfl) (rfl) (⟨_, _, rfl, by omega, rfl⟩) hlo71 (Nat.le_trans hhi71 (by omega)) ?_
   refine X.known 39 (y := VL D_ ((((m_ - 1 : Nat) : Int)).toNat) c_) rfl (by rw [cutA_zero] <;> rfl) ?_
   refine X.known 39 (y := VL D_ (m_ - 1) c_) rfl rfl ?_
   refine X.tellR [600, 32] (R' := [(600, RR 89 5 D_ m_ c_ (l70.flatMap itC)), (32, RR 4 1 A52 ys1.length ys1.length (bl_.flatMap blC))]) rfl ?_
   refine X.shrink (m := (m_ - 1)) (by omega) ?_
   refine X.tellR [600, 32] (R' := [(600, RR 89 5 D_ (m_ - 1) c_ ((l70.take (m_ - 1)).flatMap itC)), (32, RR 4 1 A52 ys1.length ys1.length (bl_.flatMap blC))]) (congrArg (fun cs_ => (600, (RR 89 5 D_ (m_ - 1) c_ cs_ : Row)) :: [(32, RR 4 1 A52 ys1.length ys1.length (bl_.flatMap blC))]) (flatMap_take itC_len l70 (m_ - 1))) ?_
   obtain ⟨l72, hl72⟩ : ∃ z_, l70.take (m_ - 1) = z_ := ⟨_, rfl⟩
   rw [hl72]
   have hn72 : l72.length = m_ - 1 := by rw [← hl72, List.length_take, hn70]; omega
   have hpo_ : l72 = popL l_ := by
    rw [← hl72, ← hl70]; unfold popL; rw [hln_]; rfl
   have hdn0_ : DownOk l72 0 0 := by rw [hpo_]; exact pop_down hL_.heap
   refine Rn 8 (Qo B16 254 1) [Qs B16 255] ⟨45, [(2, .own 2 0), (3, VB false), (4, .own 4 0), (42, .own 1700 0)], [(2, ⟨27, [I6 0, I6 0, I6 0, I6 0]⟩), (4, ⟨27, [I6 ((l_.getD 0 it0).1), I6 ((l_.getD 0 it0).2.1), I6 ((l_.getD 0 it0).2.2.1), I6 ((l_.getD 0 it0).2.2.2.1)]⟩), (1007, ⟨27, [I6 z_.1, I6 z_.2.1, I6 z_.2.2.1, I6 z_.2.2.2.1]⟩), (1700, ⟨87, [VL D_ (m_ - 1) c_, I7 (i1_ : Int)]⟩)]⟩ ?_
   refine X.joinJ (Qc B16 255) [] (fun s2_ R2_ G2_ => ∃ (l6_ : List Item), s2_ = ⟨45, [(2, .own 2 0), (3, VB false), (4, .own 4 0)], [(2, ⟨27, [I6 0, I6 0, I6 0, I6 0]⟩), (4, ⟨27, [I6 ((l_.getD 0 it0).1), I6 ((l_.getD 0 it0).2.1), I6 ((l_.getD 0 it0).2.2.1), I6 ((l_.getD 0 it0).2.2.2.1)]⟩), (1007, ⟨27, [I6 z_.1, I6 z_.2.1, I6 z_.2.2.1, I6 z_.2.2.2.1]⟩), (1700, ⟨87, [VL D_ (m_ - 1) c_, I7 (i1_ : Int)]⟩)]⟩ ∧ R2_ = [(600, RR 89 5 D_ (m_ - 1) c_ (l6_.flatMap itC)), (32, RR 4 1 A52 ys1.length ys1.length (bl_.flatMap blC))] ∧ Ge G53 w.heap.size G2_ ∧ (l6_.length = m_ - 1 ∧ HeapFrom l6_ 0 ∧ l6_.Perm l72)) ?_ fun hY73 => ?_
   ·
    as_aux_lemma =>
     rintro s2_ R2_ G73 ⟨l6_, rfl, rfl, hG73, hF_⟩
     replace hr := hr.mono hG73.le
     replace hr1 := hr1.mono hG73.le
     obtain ⟨hln6_, hh6_, hp6_⟩ := hF_
     rw [hpo_] at hp6_
     refine Rn 8 (.ex .ret) [] ⟨45, [(2, .own 2 0), (3, VB true)], [(2, ⟨27, [I6 ((l_.getD 0 it0).1), I6 ((l_.getD 0 it0).2.1), I6 ((l_.getD 0 it0).2.2.1), I6 ((l_.getD 0 it0).2.2.2.1)]⟩), (1007, ⟨27, [I6 z_.1, I6 z_.2.1, I6 z_.2.2.1, I6 z_.2.2.2.1]⟩), (1700, ⟨87, [VL D_ (m_ - 1) c_, I7 (i1_ : Int)]⟩)]⟩ ?_
     refine fin55 _ _ _ _ [.agg #[N6 ((l_.getD 0 it0).1), N6 ((l_.getD 0 it0).2.1), N6 ((l_.getD 0 it0).2.2.1), N6 ((l_.getD 0 it0).2.2.2.1)], .bool true] [(7, ⟨27, [I6 z_.1, I6 z_.2.1, I6 z_.2.2.1, I6 z_.2.2.2.1]⟩), (700, ⟨87, [VL D_ (m_ - 1) c_, I7 (i1_ : Int)]⟩)] (.inl rfl) (by kernel_rfl) (by kernel_rfl) ?_
     refine Rn 10 (Qc B3 521420) [Qs B3 521421, Qs B3 260711, .blk 3, Qs B3 16295, .loop J53, .blk 2, Qs B3 255] ⟨112, [(0, VL A1 ys1.length (c - 0)), (3, .own 700 0), (6, VL A52 ys1.length ys1.length), (7, .own 7 0), (8, I6 (k_ : Int)), (9, .own 9 0), (10, VB true), (35, I6 (ys1.length : Int)), (36, I6 (k_ : Int))], [(7, ⟨27, [I6 z_.1, I6 z_.2.1, I6 z_.2.2.1, I6 z_.2.2.2.1]⟩), (9, ⟨27, [I6 ((l_.getD 0 it0).1), I6 ((l_.getD 0 it0).2.1), I6 ((l_.getD 0 it0).2.2.1), I6 ((l_.getD 0 it0).2.2.2.1)]⟩), (700, ⟨87, [VL D_ (m_ - 1) c_, I7 (i1_ : Int)]⟩)]⟩ ?_
     have hr_d74 := hr
     have hr1_d74 := hr1
     refine Og 14 B3 521420 56 [⟨some 7, 7, 27, [I6 z_.1, I6 z_.2.1, I6 z_.2.2.1, I6 z_.2.2.2.1]⟩, ⟨some 9, 9, 27, [I6 ((l_.getD 0 it0).1), I6 ((l_.getD 0 it0).2.1), I6 ((l_.getD 0 it0).2.2.1), I6 ((l_.getD 0 it0).2.2.2.1)]⟩] [(32, RR 4 1 A52 ys1.length ys1.length (bl_.flatMap blC))] [] ⟨⟨fun _ h => (by cases h; rfl), rfl⟩, ⟨fun _ h => (by cases h; rfl), rfl⟩, trivial⟩ (by intro p hp hn; simp only [List.mem_cons, List.not_mem_nil, or_false] at hp; rcases hp with rfl | rfl <;> first | (cases hn; done) | exact absurd _ (Nat.le_of_ble_eq_true rfl)) (fun ρ0 => ?_)
     refine Tk 0 56 1 B3 521420 (VB true) QOk.ctxG ?_
     refine Tk 1 56 3 B3 521420 (VB false) QOk.ctxG ?_
     refine Tk 2 56 7 B3 521420 (VB false) QOk.ctxG ?_
     refine Tk 3 56 15 B3 521420 (.own 9 3) QOk.ctxG ?_
     refine Tk 4 56 31 B3 521420 (I6 ((l_.getD 0 it0).2.2.2.1)) QOk.ctxG ?_
     refine Tk 5 56 63 B3 521420 (VB (decide ((l_.getD 0 it0).2.2.2.1 < 0))) QOk.ctxG ?_
     refine Tk 6 56 127 B3 521420 (VB (decide ((l_.getD 0 it0).2.2.2.1 < 0))) QOk.ctxG ?_
     refine Tk 7 56 255 B3 521420 (VB (decide ((l_.getD 0 it0).2.2.2.1 < 0))) QOk.ctxG ?_
     refine XD.isFalse 51 rfl (decide_eq_false (by omega)) ?_
     refine Tk 8 56 511 B3 521420 (.own 9 3) QOk.ctxG ?_
     refine Tk 9 56 1023 B3 521420 (I6 ((l_.getD 0 it0).2.2.2.1)) QOk.ctxG ?_
     refine Tk 10 56 2047 B3 521420 (VL A1 ys1.length (c - 0)) QOk.ctxG ?_
     refine Tk 11 56 4095 B3 521420 (I6 (ys1.length : Int)) QOk.ctxG ?_
     refine Tk 12 56 8191 B3 521420 (VB (decide ((l_.getD 0 it0).2.2.2.1 ≥ (ys1.length : Int)))) QOk.ctxG ?_
     refine Tk 13 56 16383 B3 521420 (VB (decide ((l_.getD 0 it0).2.2.2.1 ≥ (ys1.length : Int)))) QOk.ctxG ?_
     refine Tk 14 56 32767 B3 521420 (VB (decide ((l_.getD 0 it0).2.2.2.1 ≥ (ys1.length : Int)))) QOk.ctxG ?_
     as_aux_lemma =>
      refine XD.isFalse 58 rfl (decide_eq_false (by omega)) ?_
      refine Tk 15 56 65535 B3 521420 (VL A52 ys1.length ys1.length) QOk.ctxG ?_
      refine Tk 16 56 131071 B3 521420 (.own 9 3) QOk.ctxG ?_
      refine Tk 17 56 262143 B3 521420 (I6 ((l_.getD 0 it0).2.2.2.1)) QOk.ctxG ?_
      have b75 : (0 : Int) ≤ (l_.getD 0 it0).2.2.2.1 := by omega
      have b76 : (l_.getD 0 it0).2.2.2.1 < ((ys1.length : Nat) : Int) := by omega
      have at77 : At G73 [(32, ⟨4, 1, .slice A52 ys1.length ys1.length, ys1.length, bl_.flatMap blC⟩)] A52 (((l_.getD 0 it0).2.2.2.1).toNat * 1) [.bool (bl_.getD (((l_.getD 0 it0).2.2.2.1).toNat) false)] := At.rowF blC blC_len (i := 32) (r := ⟨4, 1, .slice A52 ys1.length ys1.length, ys1.length, bl_.flatMap blC⟩) false rfl rfl rfl (by rw [hlb_]; omega)
      refine Dx 18 56 524287 B3 521420 28 4 1 A52 ys1.length ys1.length .i64 ((l_.getD 0 it0).2.2.2.1) (.tmp 59) (.tmp 61) QOk.ctxG b75 b76 (rowSome (i := 32) (q := (RR 4 1 A52 ys1.length ys1.length (bl_.flatMap blC))) rfl rfl (flat_pos blC_len (by decide) (by rw [hlb_]; omega))) ?_
      have at78 : At G73 [(32, ⟨4, 1, .slice A52 ys1.length ys1.length, ys1.length, bl_.flatMap blC⟩)] A52 (((l_.getD 0 it0).2.2.2.1).toNat * 1) [.bool (bl_.getD (((l_.getD 0 it0).2.2.2.1).toNat) false)] := At.rowF blC blC_len (i := 32) (r := ⟨4, 1, .slice A52 ys1.length ys1.length, ys1.length, bl_.flatMap blC⟩) false rfl rfl rfl (by rw [hlb_]; omega)
      refine Dl 19 56 1048575 B3 521420 4 A52 (((l_.getD 0 it0).2.2.2.1).toNat * 1) (.tmp 62) (.bool (bl_.getD (((l_.getD 0 it0).2.2.2.1).toNat) false)) [.bool (bl_.getD (((l_.getD 0 it0).2.2.2.1).toNat) false)] QOk.ctxG at78 ?_
      refine Tk 20 56 2097151 B3 521420 (VB (bl_.getD (((l_.getD 0 it0).2.2.2.1).toNat) false)) QOk.ctxG ?_
      refine Tk 21 56 4194303 B3 521420 (VB (bl_.getD (((l_.getD 0 it0).2.2.2.1).toNat) false)) QOk.ctxG ?_
      as_aux_lemma =>
       refine XD.isFalse 65 rfl (by rw [e4_]; exact hL_.seen j_ hj_ (hx_ ▸ at_mem (l := l_) (j := 0) (by omega))) ?_
       refine Tk 22 56 8388607 B3 521420 (VL A1 ys1.length (c - 0)) QOk.ctxG ?_
       refine Tk 23 56 16777215 B3 521420 (.own 9 3) QOk.ctxG ?_
       refine Tk 24 56 33554431 B3 521420 (I6 ((l_.getD 0 it0).2.2.2.1)) QOk.ctxG ?_
       have b79 : (0 : Int) ≤ (l_.getD 0 it0).2.2.2.1 := by omega
       have b80 : (l_.getD 0 it0).2.2.2.1 < ((ys1.length : Nat) : Int) := by omega
       obtain ⟨at81, lo81, hi81⟩ := At.int [(32, ⟨4, 1, .slice A52 ys1.length ys1.length, ys1.length, bl_.flatMap blC⟩)] hr1_d74 (((l_.getD 0 it0).2.2.2.1).toNat) (by omega)
       simp only [IntKind.lo, IntKind.hi] at lo81 hi81
       refine Dx 25 56 67108863 B3 521420 22 2 1 A1 ys1.length (c - 0) .i64 ((l_.getD 0 it0).2.2.2.1) (.tmp 66) (.tmp 68) QOk.ctxG b79 b80 (fun _ _ => rowAt.so hr1_d74 (by omega)) ?_
       refine Dl 26 56 134217727 B3 521420 2 A1 (((l_.getD 0 it0).2.2.2.1).toNat * 1) (.tmp 69) (N6 (ys1.getD (((l_.getD 0 it0).2.2.2.1).toNat) 0)) [N6 (ys1.getD (((l_.getD 0 it0).2.2.2.1).toNat) 0)] QOk.ctxG at81 ?_
       refine Tk 27 56 268435455 B3 521420 (.own 9 0) QOk.ctxG ?_
       refine Tk 28 56 536870911 B3 521420 (I6 ((l_.getD 0 it0).1)) QOk.ctxG ?_
       refine Tk 29 56 1073741823 B3 521420 (VB ((ys1.getD (((l_.getD 0 it0).2.2.2.1).toNat) 0) != ((l_.getD 0 it0).1))) QOk.ctxG ?_
       refine Tk 30 56 2147483647 B3 521420 (VB ((ys1.getD (((l_.getD 0 it0).2.2.2.1).toNat) 0) != ((l_.getD 0 it0).1))) QOk.ctxG ?_
       refine Tk 31 56 4294967295 B3 521420 (VB ((ys1.getD (((l_.getD 0 it0).2.2.2.1).toNat) 0) != ((l_.getD 0 it0).1))) QOk.ctxG ?_
       as_aux_lemma =>
        refine XD.isFalse 75 rfl (by rw [e1_, e4_]; simp) ?_
        refine Tk 32 56 8589934591 B3 521420 (I6 (k_ : Int)) QOk.ctxG ?_
        refine Tk 33 56 17179869183 B3 521420 (VB (decide ((k_ : Int) > 0))) QOk.ctxG ?_
        refine Tk 34 56 34359738367 B3 521420 (VB (decide ((k_ : Int) > 0))) QOk.ctxG ?_
        refine XD.split 78 rfl (fun h82 => ?_) (fun h82 => ?_)
        ·
         replace h82 : (k_ : Int) > 0 := of_decide_eq_true h82
         as_aux_lemma =>
          obtain ⟨⟨q_, hq_, hz_⟩, hzl_⟩ := hL_.last (by omega)
          have hz2_ : ltI z_ (l_.getD 0 it0) := hzl_ _ (at_mem (l := l_) (j := 0) (by omega))
          unfold ltI at hz2_
          have e6_ : z_.2.2.2.1 = (q_ : Int) := congrArg (fun x_ : Item => x_.2.2.2.1) hz_
          have e7_ : z_.2.2.2.2 = (q_ : Int) := congrArg (fun x_ : Item => x_.2.2.2.2) hz_
          refine Tk 35 56 68719476735 B3 521420 (.own 9 0) QOk.ctxG ?_
          refine Tk 36 56 137438953471 B3 521420 (I6 ((l_.getD 0 it0).1)) QOk.ctxG ?_
          refine Tk 37 56 274877906943 B3 521420 (.own 7 0) QOk.ctxG ?_
          refine Tk 38 56 549755813887 B3 521420 (I6 z_.1) QOk.ctxG ?_
          refine Tk 39 56 1099511627775 B3 521420 (VB (decide ((l_.getD 0 it0).1 < z_.1))) QOk.ctxG ?_
          refine Tk 40 56 2199023255551 B3 521420 (VB (decide ((l_.getD 0 it0).1 < z_.1))) QOk.ctxG ?_
          refine XD.isFalse 84 rfl (decide_eq_false (by omega)) ?_
          refine Tk 41 56 4398046511103 B3 521420 (.own 9 0) QOk.ctxG ?_
          refine Tk 42 56 8796093022207 B3 521420 (I6 ((l_.getD 0 it0).1)) QOk.ctxG ?_
          refine Tk 43 56 17592186044415 B3 521420 (.own 7 0) QOk.ctxG ?_
          refine Tk 44 56 35184372088831 B3 521420 (I6 z_.1) QOk.ctxG ?_
          refine Tk 45 56 70368744177663 B3 521420 (VB (((l_.getD 0 it0).1) == z_.1)) QOk.ctxG ?_
          refine Tk 46 56 140737488355327 B3 521420 (VB (((l_.getD 0 it0).1) == z_.1)) QOk.ctxG ?_
          refine XD.split 90 rfl (fun h83 => ?_) (fun h83 => ?_)
          ·
           replace h83 : ((l_.getD 0 it0).1) = z_.1 := by simpa using h83
           as_aux_lemma =>
            refine Ts [47, 48, 49, 50, 51, 52, 53, 54, 55] 56 72057594037927935 0 9 QOk.ctxG ?_
            refine XD.done (by kernel_rfl) ?_
            refine Rn 1 (Qc B3 521421) [Qs B3 260711, .blk 3, Qs B3 16295, .loop J53, .blk 2, Qs B3 255] ⟨112, [(0, VL A1 ys1.length (c - 0)), (3, .own 700 0), (6, VL A52 ys1.length ys1.length), (7, .own 7 0), (9, .own 9 0), (35, I6 (ys1.length : Int)), (36, I6 (k_ : Int)), (99, VB (decide ((l_.getD 0 it0).2.2.2.1 < z_.2.2.2.1)))], [(7, ⟨27, [I6 z_.1, I6 z_.2.1, I6 z_.2.2.1, I6 z_.2.2.2.1]⟩), (9, ⟨27, [I6 ((l_.getD 0 it0).1), I6 ((l_.getD 0 it0).2.1), I6 ((l_.getD 0 it0).2.2.1), I6 ((l_.getD 0 it0).2.2.2.1)]⟩), (700, ⟨87, [VL D_ (m_ - 1) c_, I7 (i1_ : Int)]⟩)]⟩ ?_
            refine X.isFalse 99 rfl (decide_eq_false (by omega)) ?_
            refine Rn 8 (Qo B3 521422 3) [Qs B3 521423, .blk 3, Qs B3 16295, .loop J53, .blk 2, Qs B3 255] ⟨112, [(0, VL A1 ys1.length (c - 0)), (3, .own 700 0), (6, VL A52 ys1.length ys1.length), (7, .own 7 0), (9, .own 9 0), (35, I6 (ys1.length : Int)), (36, I6 (k_ : Int)), (100, VL A52 ys1.length ys1.length), (102, I6 ((l_.getD 0 it0).2.2.2.1))], [(7, ⟨27, [I6 z_.1, I6 z_.2.1, I6 z_.2.2.1, I6 z_.2.2.2.1]⟩), (9, ⟨27, [I6 ((l_.getD 0 it0).1), I6 ((l_.getD 0 it0).2.1), I6 ((l_.getD 0 it0).2.2.1), I6 ((l_.getD 0 it0).2.2.2.1)]⟩), (700, ⟨87, [VL D_ (m_ - 1) c_, I7 (i1_ : Int)]⟩)]⟩ ?_
            have b84 : (0 : Int) ≤ (l_.getD 0 it0).2.2.2.1 := by omega
            have b85 : (l_.getD 0 it0).2.2.2.1 < ((ys1.length : Nat) : Int) := by omega
            refine Ix 28 4 1 A52 ys1.length ys1.length .i64 ((l_.getD 0 it0).2.2.2.1) (.tmp 100) (.tmp 102) b84 b85 (rowSome (i := 32) (q := (RR 4 1 A52 ys1.length ys1.length (bl_.flatMap blC))) rfl rfl (flat_pos blC_len (by decide) (by rw [hlb_]; omega))) ?_
            refine Rn 0 (Qo B3 521422 4) [Qs B3 521423, .blk 3, Qs B3 16295, .loop J53, .blk 2, Qs B3 255] ⟨112, [(0, VL A1 ys1.length (c - 0)), (3, .own 700 0), (6, VL A52 ys1.length ys1.length), (7, .own 7 0), (9, .own 9 0), (35, I6 (ys1.length : Int)), (36, I6 (k_ : Int)), (103, .v (elt A52 (((l_.getD 0 it0).2.2.2.1).toNat * 1)))], [(7, ⟨27, [I6 z_.1, I6 z_.2.1, I6 z_.2.2.1, I6 z_.2.2.2.1]⟩), (9, ⟨27, [I6 ((l_.getD 0 it0).1), I6 ((l_.getD 0 it0).2.1), I6 ((l_.getD 0 it0).2.2.1), I6 ((l_.getD 0 it0).2.2.2.1)]⟩), (700, ⟨87, [VL D_ (m_ - 1) c_, I7 (i1_ : Int)]⟩)]⟩ ?_
            refine X.storeElem (i := 32) (t := 4) (j := ((l_.getD 0 it0).2.2.2.1).toNat * 1) (n := ys1.length) (c := ys1.length) (q := (RR 4 1 A52 ys1.length ys1.length (bl_.flatMap blC))) (A := A52) (x := .tmp 103) (y := .const (.bool true)) (z := .bool true) (by kernel_rfl) (by kernel_rfl) (by kernel_rfl) rfl rfl (by kernel_rfl) (by rw [show _ = _ from flat_len blC_len _, hlb_]; show ((l_.getD 0 it0).2.2.2.1).toNat * 1 + 1 ≤ _; omega) (by kernel_rfl) (Nat.succ_pos _) (by kernel_rfl) ?_
            refine X.tellR [32, 600] (R' := [(32, RR 4 1 A52 ys1.length ys1.length ((bl_.set (((l_.getD 0 it0).2.2.2.1).toNat) true).flatMap blC)), (600, RR 89 5 D_ (m_ - 1) c_ (l6_.flatMap itC))]) (congrArg (fun cs_ => (32, (RR 4 1 A52 ys1.length ys1.length cs_ : Row)) :: [(600, RR 89 5 D_ (m_ - 1) c_ (l6_.flatMap itC))]) (splice_flat blC_len (true : Bool) bl_ (((l_.getD 0 it0).2.2.2.1).toNat) (by rw [hlb_]; omega))) ?_
            obtain ⟨l86, hl86⟩ : ∃ z_, (bl_.set (((l_.getD 0 it0).2.2.2.1).toNat) true) = z_ := ⟨_, rfl⟩
            rw [hl86]
            have hn86 : l86.length = ys1.length := by rw [← hl86, List.length_set, hlb_]
            refine Rn 10 (Qo B3 16295 1) [.loop J53, .blk 2, Qs B3 255] ⟨112, [(0, VL A1 ys1.length (c - 0)), (3, .own 700 0), (6, VL A52 ys1.length ys1.length), (7, .own 7 0), (35, I6 (ys1.length : Int)), (36, I6 (k_ : Int)), (105, I6 (IntKind.i64.wrap ((k_ : Int) + 1)))], [(7, ⟨27, [I6 ((l_.getD 0 it0).1), I6 ((l_.getD 0 it0).2.1), I6 ((l_.getD 0 it0).2.2.1), I6 ((l_.getD 0 it0).2.2.2.1)]⟩), (700, ⟨87, [VL D_ (m_ - 1) c_, I7 (i1_ : Int)]⟩)]⟩ ?_
            refine Kn 105 .i64 ((k_ : Int) + 1) rfl (wi64 (by omega) (by omega)) ?_
            refine Rn 2 (.ex .normal) [.loop J53, .blk 2, Qs B3 255] ⟨112, [(0, VL A1 ys1.length (c - 0)), (3, .own 700 0), (6, VL A52 ys1.length ys1.length), (7, .own 7 0), (35, I6 (ys1.length : Int)), (36, I6 ((k_ : Int) + 1))], [(7, ⟨27, [I6 ((l_.getD 0 it0).1), I6 ((l_.getD 0 it0).2.1), I6 ((l_.getD 0 it0).2.2.1), I6 ((l_.getD 0 it0).2.2.2.1)]⟩), (700, ⟨87, [VL D_ (m_ - 1) c_, I7 (i1_ : Int)]⟩)]⟩ ?_
            refine X.tellR [600, 32] (R' := [(600, RR 89 5 D_ (m_ - 1) c_ (l6_.flatMap itC)), (32, RR 4 1 A52 ys1.length ys1.length (l86.flatMap blC))]) rfl ?_
            exact X.again (hJ53 _ _ _ _ ⟨D_, c_, (m_ - 1), l6_, l86, (l_.getD 0 it0), (k_ + 1), rfl, rfl, (hG53.trans hG73), ⟨by omega, by omega, hln6_, hn86, by rw [← hl86, e4_, show (l_.getD 0 it0) = itI ys1 j_ from hx_]; exact left_step hL_ (by omega) hj_ hx_ hh6_ hp6_⟩, rfl⟩ (by omega))
          ·
           replace h83 : ((l_.getD 0 it0).1) ≠ z_.1 := by simpa using h83
           as_aux_lemma =>
            refine Ts [47, 48, 49, 50, 51, 52, 53, 54, 55] 56 72057594037927935 0 9 QOk.ctxG ?_
            refine XD.done (by kernel_rfl) ?_
            refine Rn 9 (Qo B3 521422 3) [Qs B3 521423, .blk 3, Qs B3 16295, .loop J53, .blk 2, Qs B3 255] ⟨112, [(0, VL A1 ys1.length (c - 0)), (3, .own 700 0), (6, VL A52 ys1.length ys1.length), (7, .own 7 0), (9, .own 9 0), (35, I6 (ys1.length : Int)), (36, I6 (k_ : Int)), (100, VL A52 ys1.length ys1.length), (102, I6 ((l_.getD 0 it0).2.2.2.1))], [(7, ⟨27, [I6 z_.1, I6 z_.2.1, I6 z_.2.2.1, I6 z_.2.2.2.1]⟩), (9, ⟨27, [I6 ((l_.getD 0 it0).1), I6 ((l_.getD 0 it0).2.1), I6 ((l_.getD 0 it0).2.2.1), I6 ((l_.getD 0 it0).2.2.2.1)]⟩), (700, ⟨87, [VL D_ (m_ - 1) c_, I7 (i1_ : Int)]⟩)]⟩ ?_
            have b87 : (0 : Int) ≤ (l_.getD 0 it0).2.2.2.1 := by omega
            have b88 : (l_.getD 0 it0).2.2.2.1 < ((ys1.length : Nat) : Int) := by omega
            refine Ix 28 4 1 A52 ys1.length ys1.length .i64 ((l_.getD 0 it0).2.2.2.1) (.tmp 100) (.tmp 102) b87 b88 (rowSome (i := 32) (q := (RR 4 1 A52 ys1.length ys1.length (bl_.flatMap blC))) rfl rfl (flat_pos blC_len (by decide) (by rw [hlb_]; omega))) ?_
            refine Rn 0 (Qo B3 521422 4) [Qs B3 521423, .blk 3, Qs B3 16295, .loop J53, .blk 2, Qs B3 255] ⟨112, [(0, VL A1 ys1.length (c - 0)), (3, .own 700 0), (6, VL A52 ys1.length ys1.length), (7, .own 7 0), (9, .own 9 0), (35, I6 (ys1.length : Int)), (36, I6 (k_ : Int)), (103, .v (elt A52 (((l_.getD 0 it0).2.2.2.1).toNat * 1)))], [(7, ⟨27, [I6 z_.1, I6 z_.2.1, I6 z_.2.2.1, I6 z_.2.2.2.1]⟩), (9, ⟨27, [I6 ((l_.getD 0 it0).1), I6 ((l_.getD 0 it0).2.1), I6 ((l_.getD 0 it0).2.2.1), I6 ((l_.getD 0 it0).2.2.2.1)]⟩), (700, ⟨87, [VL D_ (m_ - 1) c_, I7 (i1_ : Int)]⟩)]⟩ ?_
            refine X.storeElem (i := 32) (t := 4) (j := ((l_.getD 0 it0).2.2.2.1).toNat * 1) (n := ys1.length) (c := ys1.length) (q := (RR 4 1 A52 ys1.length ys1.length (bl_.flatMap blC))) (A := A52) (x := .tmp 103) (y := .const (.bool true)) (z := .bool true) (by kernel_rfl) (by kernel_rfl) (by kernel_rfl) rfl rfl (by kernel_rfl) (by rw [show _ = _ from flat_len blC_len _, hlb_]; show ((l_.getD 0 it0).2.2.2.1).toNat * 1 + 1 ≤ _; omega) (by kernel_rfl) (Nat.succ_pos _) (by kernel_rfl) ?_
            refine X.tellR [32, 600] (R' := [(32, RR 4 1 A52 ys1.length ys1.length ((bl_.set (((l_.getD 0 it0).2.2.2.1).toNat) true).flatMap blC)), (600, RR 89 5 D_ (m_ - 1) c_ (l6_.flatMap itC))]) (congrArg (fun cs_ => (32, (RR 4 1 A52 ys1.length ys1.length cs_ : Row)) :: [(600, RR 89 5 D_ (m_ - 1) c_ (l6_.flatMap itC))]) (splice_flat blC_len (true : Bool) bl_ (((l_.getD 0 it0).2.2.2.1).toNat) (by rw [hlb_]; omega))) ?_
            obtain ⟨l89, hl89⟩ : ∃ z_, (bl_.set (((l_.getD 0 it0).2.2.2.1).toNat) true) = z_ := ⟨_, rfl⟩
            rw [hl89]
            have hn89 : l89.length = ys1.length := by rw [← hl89, List.length_set, hlb_]
            refine Rn 10 (Qo B3 16295 1) [.loop J53, .blk 2, Qs B3 255] ⟨112, [(0, VL A1 ys1.length (c - 0)), (3, .own 700 0), (6, VL A52 ys1.length ys1.length), (7, .own 7 0), (35, I6 (ys1.length : Int)), (36, I6 (k_ : Int)), (105, I6 (IntKind.i64.wrap ((k_ : Int) + 1)))], [(7, ⟨27, [I6 ((l_.getD 0 it0).1), I6 ((l_.getD 0 it0).2.1), I6 ((l_.getD 0 it0).2.2.1), I6 ((l_.getD 0 it0).2.2.2.1)]⟩), (700, ⟨87, [VL D_ (m_ - 1) c_, I7 (i1_ : Int)]⟩)]⟩ ?_
            refine Kn 105 .i64 ((k_ : Int) + 1) rfl (wi64 (by omega) (by omega)) ?_
            refine Rn 2 (.ex .normal) [.loop J53, .blk 2, Qs B3 255] ⟨112, [(0, VL A1 ys1.length (c - 0)), (3, .own 700 0), (6, VL A52 ys1.length ys1.length), (7, .own 7 0), (35, I6 (ys1.length : Int)), (36, I6 ((k_ : Int) + 1))], [(7, ⟨27, [I6 ((l_.getD 0 it0).1), I6 ((l_.getD 0 it0).2.1), I6 ((l_.getD 0 it0).2.2.1), I6 ((l_.getD 0 it0).2.2.2.1)]⟩), (700, ⟨87, [VL D_ (m_ - 1) c_, I7 (i1_ : Int)]⟩)]⟩ ?_
            refine X.tellR [600, 32] (R' := [(600, RR 89 5 D_ (m_ - 1) c_ (l6_.flatMap itC)), (32, RR 4 1 A52 ys1.length ys1.length (l89.flatMap blC))]) rfl ?_
            exact X.again (hJ53 _ _ _ _ ⟨D_, c_, (m_ - 1), l6_, l89, (l_.getD 0 it0), (k_ + 1), rfl, rfl, (hG53.trans hG73), ⟨by omega, by omega, hln6_, hn89, by rw [← hl89, e4_, show (l_.getD 0 it0) = itI ys1 j_ from hx_]; exact left_step hL_ (by omega) hj_ hx_ hh6_ hp6_⟩, rfl⟩ (by omega))
        ·
         replace h82 : ¬ ((k_ : Int) > 0) := of_decide_eq_false h82
         as_aux_lemma =>
          refine Ts [35, 36, 37, 38, 39, 40, 41, 42, 43, 44, 45, 46, 47, 48, 49, 50, 51, 52, 53, 54, 55] 56 72057594037927935 0 21 QOk.ctxG ?_
          refine XD.done (by kernel_rfl) ?_
          refine Rn 9 (Qo B3 521422 3) [Qs B3 521423, .blk 3, Qs B3 16295, .loop J53, .blk 2, Qs B3 255] ⟨112, [(0, VL A1 ys1.length (c - 0)), (3, .own 700 0), (6, VL A52 ys1.length ys1.length), (7, .own 7 0), (9, .own 9 0), (35, I6 (ys1.length : Int)), (36, I6 (k_ : Int)), (100, VL A52 ys1.length ys1.length), (102, I6 ((l_.getD 0 it0).2.2.2.1))], [(7, ⟨27, [I6 z_.1, I6 z_.2.1, I6 z_.2.2.1, I6 z_.2.2.2.1]⟩), (9, ⟨27, [I6 ((l_.getD 0 it0).1), I6 ((l_.getD 0 it0).2.1), I6 ((l_.getD 0 it0).2.2.1), I6 ((l_.getD 0 it0).2.2.2.1)]⟩), (700, ⟨87, [VL D_ (m_ - 1) c_, I7 (i1_ : Int)]⟩)]⟩ ?_
          have b90 : (0 : Int) ≤ (l_.getD 0 it0).2.2.2.1 := by omega
          have b91 : (l_.getD 0 it0).2.2.2.1 < ((ys1.length : Nat) : Int) := by omega
          refine Ix 28 4 1 A52 ys1.length ys1.length .i64 ((l_.getD 0 it0).2.2.2.1) (.tmp 100) (.tmp 102) b90 b91 (rowSome (i := 32) (q := (RR 4 1 A52 ys1.length ys1.length (bl_.flatMap blC))) rfl rfl (flat_pos blC_len (by decide) (by rw [hlb_]; omega))) ?_
          refine Rn 0 (Qo B3 521422 4) [Qs B3 521423, .blk 3, Qs B3 16295, .loop J53, .blk 2, Qs B3 255] ⟨112, [(0, VL A1 ys1.length (c - 0)), (3, .own 700 0), (6, VL A52 ys1.length ys1.length), (7, .own 7 0), (9, .own 9 0), (35, I6 (ys1.length : Int)), (36, I6 (k_ : Int)), (103, .v (elt A52 (((l_.getD 0 it0).2.2.2.1).toNat * 1)))], [(7, ⟨27, [I6 z_.1, I6 z_.2.1, I6 z_.2.2.1, I6 z_.2.2.2.1]⟩), (9, ⟨27, [I6 ((l_.getD 0 it0).1), I6 ((l_.getD 0 it0).2.1), I6 ((l_.getD 0 it0).2.2.1), I6 ((l_.getD 0 it0).2.2.2.1)]⟩), (700, ⟨87, [VL D_ (m_ - 1) c_, I7 (i1_ : Int)]⟩)]⟩ ?_
          refine X.storeElem (i := 32) (t := 4) (j := ((l_.getD 0 it0).2.2.2.1).toNat * 1) (n := ys1.length) (c := ys1.length) (q := (RR 4 1 A52 ys1.length ys1.length (bl_.flatMap blC))) (A := A52) (x := .tmp 103) (y := .const (.bool true)) (z := .bool true) (by kernel_rfl) (by kernel_rfl) (by kernel_rfl) rfl rfl (by kernel_rfl) (by rw [show _ = _ from flat_len blC_len _, hlb_]; show ((l_.getD 0 it0).2.2.2.1).toNat * 1 + 1 ≤ _; omega) (by kernel_rfl) (Nat.succ_pos _) (by kernel_rfl) ?_
          refine X.tellR [32, 600] (R' := [(32, RR 4 1 A52 ys1.length ys1.length ((bl_.set (((l_.getD 0 it0).2.2.2.1).toNat) true).flatMap blC)), (600, RR 89 5 D_ (m_ - 1) c_ (l6_.flatMap itC))]) (congrArg (fun cs_ => (32, (RR 4 1 A52 ys1.length ys1.length cs_ : Row)) :: [(600, RR 89 5 D_ (m_ - 1) c_ (l6_.flatMap itC))]) (splice_flat blC_len (true : Bool) bl_ (((l_.getD 0 it0).2.2.2.1).toNat) (by rw [hlb_]; omega))) ?_
          obtain ⟨l92, hl92⟩ : ∃ z_, (bl_.set (((l_.getD 0 it0).2.2.2.1).toNat) true) = z_ := ⟨_, rfl⟩
          rw [hl92]
          have hn92 : l92.length = ys1.length := by rw [← hl92, List.length_set, hlb_]
          refine Rn 10 (Qo B3 16295 1) [.loop J53, .blk 2, Qs B3 255] ⟨112, [(0, VL A1 ys1.length (c - 0)), (3, .own 700 0), (6, VL A52 ys1.length ys1.length), (7, .own 7 0), (35, I6 (ys1.length : Int)), (36, I6 (k_ : Int)), (105, I6 (IntKind.i64.wrap ((k_ : Int) + 1)))], [(7, ⟨27, [I6 ((l_.getD 0 it0).1), I6 ((l_.getD 0 it0).2.1), I6 ((l_.getD 0 it0).2.2.1), I6 ((l_.getD 0 it0).2.2.2.1)]⟩), (700, ⟨87, [VL D_ (m_ - 1) c_, I7 (i1_ : Int)]⟩)]⟩ ?_
          refine Kn 105 .i64 ((k_ : Int) + 1) rfl (wi64 (by omega) (by omega)) ?_
          refine Rn 2 (.ex .normal) [.loop J53, .blk 2, Qs B3 255] ⟨112, [(0, VL A1 ys1.length (c - 0)), (3, .own 700 0), (6, VL A52 ys1.length ys1.length), (7, .own 7 0), (35, I6 (ys1.length : Int)), (36, I6 ((k_ : Int) + 1))], [(7, ⟨27, [I6 ((l_.getD 0 it0).1), I6 ((l_.getD 0 it0).2.1), I6 ((l_.getD 0 it0).2.2.1), I6 ((l_.getD 0 it0).2.2.2.1)]⟩), (700, ⟨87, [VL D_ (m_ - 1) c_, I7 (i1_ : Int)]⟩)]⟩ ?_
          refine X.tellR [600, 32] (R' := [(600, RR 89 5 D_ (m_ - 1) c_ (l6_.flatMap itC)), (32, RR 4 1 A52 ys1.length ys1.length (l92.flatMap blC))]) rfl ?_
          exact X.again (hJ53 _ _ _ _ ⟨D_, c_, (m_ - 1), l6_, l92, (l_.getD 0 it0), (k_ + 1), rfl, rfl, (hG53.trans hG73), ⟨by omega, by omega, hln6_, hn92, by rw [← hl92, e4_, show (l_.getD 0 it0) = itI ys1 j_ from hx_]; exact left_step hL_ (by omega) hj_ hx_ hh6_ hp6_⟩, rfl⟩ (by omega))
   ·
    refine X.inline (f := 50) (l := [.own 1700 0, I6 0]) (fn := Try.f50) (c := B50) (by kernel_rfl) (by kernel_rfl) Try.func50 (by kernel_rfl) ?_
    intro Q93 M93 hM93 hQ93 fin93
    refine Rn 8 (Qc B50 6) [.blk 0] ⟨67, [(0, .own 2700 0), (1, I6 0), (4, .mth 81 2700 0)], [(1002, ⟨27, [I6 0, I6 0, I6 0, I6 0]⟩), (1004, ⟨27, [I6 ((l_.getD 0 it0).1), I6 ((l_.getD 0 it0).2.1), I6 ((l_.getD 0 it0).2.2.1), I6 ((l_.getD 0 it0).2.2.2.1)]⟩), (2007, ⟨27, [I6 z_.1, I6 z_.2.1, I6 z_.2.2.1, I6 z_.2.2.2.1]⟩), (2700, ⟨87, [VL D_ (m_ - 1) c_, I7 (i1_ : Int)]⟩)]⟩ ?_
    refine X.loopJ (fun m s R' G' => ∃ (i3_ : Nat) (l3_ : List Item), s = ⟨67, [(0, .own 2700 0), (1, I6 (i3_ : Int)), (4, .mth 81 2700 0)], [(1002, ⟨27, [I6 0, I6 0, I6 0, I6 0]⟩), (1004, ⟨27, [I6 ((l_.getD 0 it0).1), I6 ((l_.getD 0 it0).2.1), I6 ((l_.getD 0 it0).2.2.1), I6 ((l_.getD 0 it0).2.2.2.1)]⟩), (2007, ⟨27, [I6 z_.1, I6 z_.2.1, I6 z_.2.2.1, I6 z_.2.2.2.1]⟩), (2700, ⟨87, [VL D_ (m_ - 1) c_, I7 (i1_ : Int)]⟩)]⟩ ∧ R' = [(600, RR 89 5 D_ (m_ - 1) c_ (l3_.flatMap itC)), (32, RR 4 1 A52 ys1.length ys1.length (bl_.flatMap blC))] ∧ Ge G53 w.heap.size G' ∧ (i3_ ≤ (m_ - 1) ∧ l3_.length = (m_ - 1) ∧ DownOk l3_ i3_ 0 ∧ l3_.Perm l72) ∧ m = ((m_ - 1) - i3_)) _ ⟨0, l72, rfl, rfl, Ge.refl _ _, ⟨by omega, hn72, hdn0_, List.Perm.refl _⟩, rfl⟩ ?_
    rintro m94 s94 R94 G94 ⟨i3_, l3_, rfl, rfl, hG94, hF94, rfl⟩ J94 hJ94
    replace hr := hr.mono hG94.le
    replace hr1 := hr1.mono hG94.le
    obtain ⟨hi3_, hln3_, hdn_, hpm3_⟩ := hF94
    refine Rn 5 (Qo B50 48 2) [Qs B50 49, .blk 1, .loop J94, .blk 0] ⟨67, [(0, .own 2700 0), (1, I6 (i3_ : Int)), (4, .mth 81 2700 0), (9, I6 (IntKind.i64.wrap (2 * (i3_ : Int))))], [(1002, ⟨27, [I6 0, I6 0, I6 0, I6 0]⟩), (1004, ⟨27, [I6 ((l_.getD 0 it0).1), I6 ((l_.getD 0 it0).2.1), I6 ((l_.getD 0 it0).2.2.1), I6 ((l_.getD 0 it0).2.2.2.1)]⟩), (2007, ⟨27, [I6 z_.1, I6 z_.2.1, I6 z_.2.2.1, I6 z_.2.2.2.1]⟩), (2700, ⟨87, [VL D_ (m_ - 1) c_, I7 (i1_ : Int)]⟩)]⟩ ?_
    refine Kn 9 .i64 (2 * (i3_ : Int)) rfl (wi64 (by omega) (by omega)) ?_
    refine Rn 1 (Qo B50 48 3) [Qs B50 49, .blk 1, .loop J94, .blk 0] ⟨67, [(0, .own 2700 0), (1, I6 (i3_ : Int)), (4, .mth 81 2700 0), (10, I6 (IntKind.i64.wrap ((2 * (i3_ : Int)) + 1)))], [(1002, ⟨27, [I6 0, I6 0, I6 0, I6 0]⟩), (1004, ⟨27, [I6 ((l_.getD 0 it0).1), I6 ((l_.getD 0 it0).2.1), I6 ((l_.getD 0 it0).2.2.1), I6 ((l_.getD 0 it0).2.2.2.1)]⟩), (2007, ⟨27, [I6 z_.1, I6 z_.2.1, I6 z_.2.2.1, I6 z_.2.2.2.1]⟩), (2700, ⟨87, [VL D_ (m_ - 1) c_, I7 (i1_ : Int)]⟩)]⟩ ?_
    refine Kn 10 .i64 ((2 * i3_ + 1 : Nat) : Int) rfl (by rw [wi64 (by omega) (by omega)]; omega) ?_
    refine Rn 15 (Qc B50 197) [Qs B50 99, .blk 1, .loop J94, .blk 0] ⟨67, [(0, .own 2700 0), (1, I6 (i3_ : Int)), (4, .mth 81 2700 0), (5, I6 ((2 * i3_ + 1 : Nat) : Int)), (17, VB (decide (((2 * i3_ + 1 : Nat) : Int) ≥ (((m_ - 1) : Nat) : Int))))], [(1002, ⟨27, [I6 0, I6 0, I6 0, I6 0]⟩), (1004, ⟨27, [I6 ((l_.getD 0 it0).1), I6 ((l_.getD 0 it0).2.1), I6 ((l_.getD 0 it0).2.2.1), I6 ((l_.getD 0 it0).2.2.2.1)]⟩), (2007, ⟨27, [I6 z_.1, I6 z_.2.1, I6 z_.2.2.1, I6 z_.2.2.2.1]⟩), (2700, ⟨87, [VL D_ (m_ - 1) c_, I7 (i1_ : Int)]⟩)]⟩ ?_
    refine X.split 17 rfl (fun h95 => ?_) (fun h95 => ?_)
    ·
     replace h95 : ((2 * i3_ + 1 : Nat) : Int) ≥ (((m_ - 1) : Nat) : Int) := of_decide_eq_true h95
     have hh3_ : HeapFrom l3_ 0 := down_end hdn_ (fun j_ h0_ h1_ h2_ => absurd h2_ (by omega))
     refine Rn 6 (.ex .ret) [] ⟨67, [], [(1002, ⟨27, [I6 0, I6 0, I6 0, I6 0]⟩), (1004, ⟨27, [I6 ((l_.getD 0 it0).1), I6 ((l_.getD 0 it0).2.1), I6 ((l_.getD 0 it0).2.2.1), I6 ((l_.getD 0 it0).2.2.2.1)]⟩), (2007, ⟨27, [I6 z_.1, I6 z_.2.1, I6 z_.2.2.1, I6 z_.2.2.2.1]⟩), (2700, ⟨87, [VL D_ (m_ - 1) c_, I7 (i1_ : Int)]⟩)]⟩ ?_
     refine fin93 _ _ _ _ [] [(2, ⟨27, [I6 0, I6 0, I6 0, I6 0]⟩), (4, ⟨27, [I6 ((l_.getD 0 it0).1), I6 ((l_.getD 0 it0).2.1), I6 ((l_.getD 0 it0).2.2.1), I6 ((l_.getD 0 it0).2.2.2.1)]⟩), (1007, ⟨27, [I6 z_.1, I6 z_.2.1, I6 z_.2.2.1, I6 z_.2.2.2.1]⟩), (1700, ⟨87, [VL D_ (m_ - 1) c_, I7 (i1_ : Int)]⟩)] (.inl rfl) (by kernel_rfl) (by kernel_rfl) ?_
     refine Rn 2 (Qc B16 255) [] ⟨45, [(2, .own 2 0), (3, VB false), (4, .own 4 0)], [(2, ⟨27, [I6 0, I6 0, I6 0, I6 0]⟩), (4, ⟨27, [I6 ((l_.getD 0 it0).1), I6 ((l_.getD 0 it0).2.1), I6 ((l_.getD 0 it0).2.2.1), I6 ((l_.getD 0 it0).2.2.2.1)]⟩), (1007, ⟨27, [I6 z_.1, I6 z_.2.1, I6 z_.2.2.1, I6 z_.2.2.2.1]⟩), (1700, ⟨87, [VL D_ (m_ - 1) c_, I7 (i1_ : Int)]⟩)]⟩ ?_
     exact hY73 _ _ _ ⟨l3_, rfl, rfl, hG94, ⟨hln3_, hh3_, hpm3_⟩⟩
    ·
     replace h95 : ¬ (((2 * i3_ + 1 : Nat) : Int) ≥ (((m_ - 1) : Nat) : Int)) := of_decide_eq_false h95
     refine X.joinJ (Qc B50 199) [.blk 1, .loop J94, .blk 0] (fun s2_ R2_ G2_ => ∃ (k3_ : Nat), s2_ = ⟨67, [(0, .own 2700 0), (1, I6 (i3_ : Int)), (4, .mth 81 2700 0), (5, I6 (k3_ : Int))], [(1002, ⟨27, [I6 0, I6 0, I6 0, I6 0]⟩), (1004, ⟨27, [I6 ((l_.getD 0 it0).1), I6 ((l_.getD 0 it0).2.1), I6 ((l_.getD 0 it0).2.2.1), I6 ((l_.getD 0 it0).2.2.2.1)]⟩), (2007, ⟨27, [I6 z_.1, I6 z_.2.1, I6 z_.2.2.1, I6 z_.2.2.2.1]⟩), (2700, ⟨87, [VL D_ (m_ - 1) c_, I7 (i1_ : Int)]⟩)]⟩ ∧ R2_ = [(600, RR 89 5 D_ (m_ - 1) c_ (l3_.flatMap itC)), (32, RR 4 1 A52 ys1.length ys1.length (bl_.flatMap blC))] ∧ Ge G94 w.heap.size G2_ ∧ (0 < k3_ ∧ k3_ < (m_ - 1) ∧ (k3_ - 1) / 2 = i3_ ∧ ∀ j_, 0 < j_ → j_ < l3_.length → (j_ - 1) / 2 = i3_ → ¬ ltI (at_ l3_ j_) (at_ l3_ k3_))) ?_ fun hY96 => ?_
     ·
      rintro s2_ R2_ G96 ⟨k3_, rfl, rfl, hG96, hF_⟩
      replace hr := hr.mono hG96.le
      replace hr1 := hr1.mono hG96.le
      obtain ⟨hk0_, hkn_, hki_, hkm_⟩ := hF_
      refine Rn 6 (Qo B50 796 3) [Qs B50 797, Qs B50 399, .blk 1, .loop J94, .blk 0] ⟨67, [(0, .own 2700 0), (1, I6 (i3_ : Int)), (4, .mth 81 2700 0), (5, I6 (k3_ : Int)), (35, .mth 81 2700 0), (36, I6 (k3_ : Int)), (37, I6 (i3_ : Int))], [(1002, ⟨27, [I6 0, I6 0, I6 0, I6 0]⟩), (1004, ⟨27, [I6 ((l_.getD 0 it0).1), I6 ((l_.getD 0 it0).2.1), I6 ((l_.getD 0 it0).2.2.1), I6 ((l_.getD 0 it0).2.2.2.1)]⟩), (2007, ⟨27, [I6 z_.1, I6 z_.2.1, I6 z_.2.2.1, I6 z_.2.2.2.1]⟩), (2700, ⟨87, [VL D_ (m_ - 1) c_, I7 (i1_ : Int)]⟩)]⟩ ?_
      refine X.joinCG (Qc B50 797) [Qs B50 399, .blk 1, .loop J94, .blk 0] ⟨67, [(0, .own 2700 0), (1, I6 (i3_ : Int)), (4, .mth 81 2700 0), (5, I6 (k3_ : Int)), (39, VB (!(decide (ltI (l3_.getD ((k3_ : Int)).toNat it0) (l3_.getD ((i3_ : Int)).toNat it0)))))], [(1002, ⟨27, [I6 0, I6 0, I6 0, I6 0]⟩), (1004, ⟨27, [I6 ((l_.getD 0 it0).1), I6 ((l_.getD 0 it0).2.1), I6 ((l_.getD 0 it0).2.2.1), I6 ((l_.getD 0 it0).2.2.2.1)]⟩), (2007, ⟨27, [I6 z_.1, I6 z_.2.1, I6 z_.2.2.1, I6 z_.2.2.2.1]⟩), (2700, ⟨87, [VL D_ (m_ - 1) c_, I7 (i1_ : Int)]⟩)]⟩ ?_ fun hY97 => ?_
      ·
       intro G97 hG97
       replace hr := hr.mono hG97.le
       replace hr1 := hr1.mono hG97.le
       refine Rn 0 (Qc B50 797) [Qs B50 399, .blk 1, .loop J94, .blk 0] ⟨67, [(0, .own 2700 0), (1, I6 (i3_ : Int)), (4, .mth 81 2700 0), (5, I6 (k3_ : Int)), (39, VB (!(decide (ltI (l3_.getD ((k3_ : Int)).toNat it0) (l3_.getD ((i3_ : Int)).toNat it0)))))], [(1002, ⟨27, [I6 0, I6 0, I6 0, I6 0]⟩), (1004, ⟨27, [I6 ((l_.getD 0 it0).1), I6 ((l_.getD 0 it0).2.1), I6 ((l_.getD 0 it0).2.2.1), I6 ((l_.getD 0 it0).2.2.2.1)]⟩), (2007, ⟨27, [I6 z_.1, I6 z_.2.1, I6 z_.2.2.1, I6 z_.2.2.2.1]⟩), (2700, ⟨87, [VL D_ (m_ - 1) c_, I7 (i1_ : Int)]⟩)]⟩ ?_
       refine X.split 39 rfl (fun h98 => ?_) (fun h98 => ?_)
       ·
        replace h98 : (decide (ltI (l3_.getD ((k3_ : Int)).toNat it0) (l3_.getD ((i3_ : Int)).toNat it0))) = false := by first | (simpa using h98; done) | (have h_ := congrArg (fun b_ => !b_) h98; simpa only [Bool.not_not, Bool.not_true, Bool.not_false] using h_)
        replace h98 : ¬ (ltI (l3_.getD ((k3_ : Int)).toNat it0) (l3_.getD ((i3_ : Int)).toNat it0)) := of_decide_eq_false h98
        have hnl_ : ¬ ltI (at_ l3_ k3_) (at_ l3_ i3_) := h98
        have hh3_ : HeapFrom l3_ 0 := down_end hdn_ (fun j_ h0_ h1_ h2_ => le_tr hnl_ (hkm_ j_ h0_ h1_ h2_))
        refine Rn 6 (.ex .ret) [] ⟨67, [], [(1002, ⟨27, [I6 0, I6 0, I6 0, I6 0]⟩), (1004, ⟨27, [I6 ((l_.getD 0 it0).1), I6 ((l_.getD 0 it0).2.1), I6 ((l_.getD 0 it0).2.2.1), I6 ((l_.getD 0 it0).2.2.2.1)]⟩), (2007, ⟨27, [I6 z_.1, I6 z_.2.1, I6 z_.2.2.1, I6 z_.2.2.2.1]⟩), (2700, ⟨87, [VL D_ (m_ - 1) c_, I7 (i1_ : Int)]⟩)]⟩ ?_
        refine fin93 _ _ _ _ [] [(2, ⟨27, [I6 0, I6 0, I6 0, I6 0]⟩), (4, ⟨27, [I6 ((l_.getD 0 it0).1), I6 ((l_.getD 0 it0).2.1), I6 ((l_.getD 0 it0).2.2.1), I6 ((l_.getD 0 it0).2.2.2.1)]⟩), (1007, ⟨27, [I6 z_.1, I6 z_.2.1, I6 z_.2.2.1, I6 z_.2.2.2.1]⟩), (1700, ⟨87, [VL D_ (m_ - 1) c_, I7 (i1_ : Int)]⟩)] (.inl rfl) (by kernel_rfl) (by kernel_rfl) ?_
        refine Rn 2 (Qc B16 255) [] ⟨45, [(2, .own 2 0), (3, VB false), (4, .own 4 0)], [(2, ⟨27, [I6 0, I6 0, I6 0, I6 0]⟩), (4, ⟨27, [I6 ((l_.getD 0 it0).1), I6 ((l_.getD 0 it0).2.1), I6 ((l_.getD 0 it0).2.2.1), I6 ((l_.getD 0 it0).2.2.2.1)]⟩), (1007, ⟨27, [I6 z_.1, I6 z_.2.1, I6 z_.2.2.1, I6 z_.2.2.2.1]⟩), (1700, ⟨87, [VL D_ (m_ - 1) c_, I7 (i1_ : Int)]⟩)]⟩ ?_
        exact hY73 _ _ _ ⟨l3_, rfl, rfl, ((hG94.trans hG96).trans hG97), ⟨hln3_, hh3_, hpm3_⟩⟩
       ·
        replace h98 : (decide (ltI (l3_.getD ((k3_ : Int)).toNat it0) (l3_.getD ((i3_ : Int)).toNat it0))) = true := by first | (simpa using h98; done) | (have h_ := congrArg (fun b_ => !b_) h98; simpa only [Bool.not_not, Bool.not_true, Bool.not_false] using h_)
        replace h98 : ltI (l3_.getD ((k3_ : Int)).toNat it0) (l3_.getD ((i3_ : Int)).toNat it0) := of_decide_eq_true h98
        have hlt_ : ltI (at_ l3_ k3_) (at_ l3_ i3_) := h98
        refine Rn 4 (Qc B50 798) [Qs B50 799, .blk 1, .loop J94, .blk 0] ⟨67, [(0, .own 2700 0), (1, I6 (i3_ : Int)), (4, .mth 81 2700 0), (5, I6 (k3_ : Int))], [(1002, ⟨27, [I6 0, I6 0, I6 0, I6 0]⟩), (1004, ⟨27, [I6 ((l_.getD 0 it0).1), I6 ((l_.getD 0 it0).2.1), I6 ((l_.getD 0 it0).2.2.1), I6 ((l_.getD 0 it0).2.2.2.1)]⟩), (2007, ⟨27, [I6 z_.1, I6 z_.2.1, I6 z_.2.2.1, I6 z_.2.2.2.1]⟩), (2700, ⟨87, [VL D_ (m_ - 1) c_, I7 (i1_ : Int)]⟩)]⟩ ?_
        have hr_d99 := hr
        have hr1_d99 := hr1
        refine Og 6 B50 798 28 [⟨some 0, 2700, 87, [VL D_ (m_ - 1) c_, I7 (i1_ : Int)]⟩] [(600, RR 89 5 D_ (m_ - 1) c_ (l3_.flatMap itC))] [25, 26, 27] ⟨⟨fun _ h => (by cases h; rfl), rfl⟩, trivial⟩ (by intro p hp hn; simp only [List.mem_cons, List.not_mem_nil, or_false] at hp; rcases hp with rfl <;> first | (cases hn; done) | exact hM93 _ (Nat.le_of_ble_eq_true rfl)) (fun ρ0 => ?_)
        refine Tk 0 28 1 B50 798 (.own 2700 0) hQ93 ?_
        refine XD.nilOwn (i := 1) (l' := (lb 28 3)) (oA B50 (pa 798) 1) (x := .tmp 40) (b := 2700) (off := 0) hQ93 (by kernel_rfl) (by kernel_rfl) (by kernel_rfl) (by kernel_rfl) (by kernel_rfl) (by kernel_rfl) ?_
        refine Tk 2 28 7 B50 798 (.own 2700 0) hQ93 ?_
        refine Tk 3 28 15 B50 798 (VL D_ (m_ - 1) c_) hQ93 ?_
        refine Tk 4 28 31 B50 798 (I6 (i3_ : Int)) hQ93 ?_
        refine Tk 5 28 63 B50 798 (.own 2700 0) hQ93 ?_
        refine XD.nilOwn (i := 6) (l' := (lb 28 127)) (oA B50 (pa 798) 6) (x := .tmp 45) (b := 2700) (off := 0) hQ93 (by kernel_rfl) (by kernel_rfl) (by kernel_rfl) (by kernel_rfl) (by kernel_rfl) (by kernel_rfl) ?_
        refine Tk 7 28 255 B50 798 (.own 2700 0) hQ93 ?_
        refine Tk 8 28 511 B50 798 (VL D_ (m_ - 1) c_) hQ93 ?_
        refine XD.pureMove (i := 9) (l' := (lb 28 1023)) (x := .tmp 5) (oA B50 (pa 798) 9) (I6 (k3_ : Int)) hQ93 (by kernel_rfl) (by kernel_rfl) (by kernel_rfl) (by kernel_rfl) (by kernel_rfl) (by kernel_rfl) ?_
        refine Tk 10 28 2047 B50 798 (.own 2700 0) hQ93 ?_
        refine XD.nilOwn (i := 11) (l' := (lb 28 4095)) (oA B50 (pa 798) 11) (x := .tmp 50) (b := 2700) (off := 0) hQ93 (by kernel_rfl) (by kernel_rfl) (by kernel_rfl) (by kernel_rfl) (by kernel_rfl) (by kernel_rfl) ?_
        refine Tk 12 28 8191 B50 798 (.own 2700 0) hQ93 ?_
        refine Tk 13 28 16383 B50 798 (VL D_ (m_ - 1) c_) hQ93 ?_
        refine Tk 14 28 32767 B50 798 (I6 (k3_ : Int)) hQ93 ?_
        have b100 : (0 : Int) ≤ (k3_ : Int) := by omega
        have b101 : (k3_ : Int) < (((m_ - 1) : Nat) : Int) := by omega
        have at102 : At G97 [(600, ⟨89, 5, .slice D_ (m_ - 1) c_, (m_ - 1), l3_.flatMap itC⟩)] D_ (((k3_ : Int)).toNat * 5) [.int .i64 ((l3_.getD (((k3_ : Int)).toNat) it0).1), .int .i64 ((l3_.getD (((k3_ : Int)).toNat) it0).2.1), .int .i64 ((l3_.getD (((k3_ : Int)).toNat) it0).2.2.1), .int .i64 ((l3_.getD (((k3_ : Int)).toNat) it0).2.2.2.1), .int .u64 ((l3_.getD (((k3_ : Int)).toNat) it0).2.2.2.2)] := At.rowF itC itC_len (i := 600) (r := ⟨89, 5, .slice D_ (m_ - 1) c_, (m_ - 1), l3_.flatMap itC⟩) it0 rfl rfl rfl (by rw [hln3_]; omega)
        refine Dx 15 28 65535 B50 798 84 89 5 D_ (m_ - 1) c_ .i64 (k3_ : Int) (.tmp 53) (.tmp 54) hQ93 b100 b101 (rowSome (i := 600) (q := (RR 89 5 D_ (m_ - 1) c_ (l3_.flatMap itC))) rfl rfl (flat_pos itC_len (by decide) (by rw [hln3_]; omega))) ?_
        have at103 : At G97 [(600, ⟨89, 5, .slice D_ (m_ - 1) c_, (m_ - 1), l3_.flatMap itC⟩)] D_ (((k3_ : Int)).toNat * 5) [.int .i64 ((l3_.getD (((k3_ : Int)).toNat) it0).1), .int .i64 ((l3_.getD (((k3_ : Int)).toNat) it0).2.1), .int .i64 ((l3_.getD (((k3_ : Int)).toNat) it0).2.2.1), .int .i64 ((l3_.getD (((k3_ : Int)).toNat) it0).2.2.2.1), .int .u64 ((l3_.getD (((k3_ : Int)).toNat) it0).2.2.2.2)] := At.rowF itC itC_len (i := 600) (r := ⟨89, 5, .slice D_ (m_ - 1) c_, (m_ - 1), l3_.flatMap itC⟩) it0 rfl rfl rfl (by rw [hln3_]; omega)
        refine Dl 16 28 131071 B50 798 89 D_ (((k3_ : Int)).toNat * 5) (.tmp 55) (.agg #[N6 ((l3_.getD (((k3_ : Int)).toNat) it0).1), N6 ((l3_.getD (((k3_ : Int)).toNat) it0).2.1), N6 ((l3_.getD (((k3_ : Int)).toNat) it0).2.2.1), N6 ((l3_.getD (((k3_ : Int)).toNat) it0).2.2.2.1), N7 ((l3_.getD (((k3_ : Int)).toNat) it0).2.2.2.2)]) [N6 ((l3_.getD (((k3_ : Int)).toNat) it0).1), N6 ((l3_.getD (((k3_ : Int)).toNat) it0).2.1), N6 ((l3_.getD (((k3_ : Int)).toNat) it0).2.2.1), N6 ((l3_.getD (((k3_ : Int)).toNat) it0).2.2.2.1), N7 ((l3_.getD (((k3_ : Int)).toNat) it0).2.2.2.2)] hQ93 at103 ?_
        refine Tk 17 28 262143 B50 798 (.own 2700 0) hQ93 ?_
        refine XD.nilOwn (i := 18) (l' := (lb 28 524287)) (oA B50 (pa 798) 18) (x := .tmp 57) (b := 2700) (off := 0) hQ93 (by kernel_rfl) (by kernel_rfl) (by kernel_rfl) (by kernel_rfl) (by kernel_rfl) (by kernel_rfl) ?_
        refine Tk 19 28 1048575 B50 798 (.own 2700 0) hQ93 ?_
        refine Tk 20 28 2097151 B50 798 (VL D_ (m_ - 1) c_) hQ93 ?_
        refine Tk 21 28 4194303 B50 798 (I6 (i3_ : Int)) hQ93 ?_
        have b104 : (0 : Int) ≤ (i3_ : Int) := by omega
        have b105 : (i3_ : Int) < (((m_ - 1) : Nat) : Int) := by omega
        have at106 : At G97 [(600, ⟨89, 5, .slice D_ (m_ - 1) c_, (m_ - 1), l3_.flatMap itC⟩)] D_ (((i3_ : Int)).toNat * 5) [.int .i64 ((l3_.getD (((i3_ : Int)).toNat) it0).1), .int .i64 ((l3_.getD (((i3_ : Int)).toNat) it0).2.1), .int .i64 ((l3_.getD (((i3_ : Int)).toNat) it0).2.2.1), .int .i64 ((l3_.getD (((i3_ : Int)).toNat) it0).2.2.2.1), .int .u64 ((l3_.getD (((i3_ : Int)).toNat) it0).2.2.2.2)] := At.rowF itC itC_len (i := 600) (r := ⟨89, 5, .slice D_ (m_ - 1) c_, (m_ - 1), l3_.flatMap itC⟩) it0 rfl rfl rfl (by rw [hln3_]; omega)
        refine Dx 22 28 8388607 B50 798 84 89 5 D_ (m_ - 1) c_ .i64 (i3_ : Int) (.tmp 60) (.tmp 61) hQ93 b104 b105 (rowSome (i := 600) (q := (RR 89 5 D_ (m_ - 1) c_ (l3_.flatMap itC))) rfl rfl (flat_pos itC_len (by decide) (by rw [hln3_]; omega))) ?_
        have at107 : At G97 [(600, ⟨89, 5, .slice D_ (m_ - 1) c_, (m_ - 1), l3_.flatMap itC⟩)] D_ (((i3_ : Int)).toNat * 5) [.int .i64 ((l3_.getD (((i3_ : Int)).toNat) it0).1), .int .i64 ((l3_.getD (((i3_ : Int)).toNat) it0).2.1), .int .i64 ((l3_.getD (((i3_ : Int)).toNat) it0).2.2.1), .int .i64 ((l3_.getD (((i3_ : Int)).toNat) it0).2.2.2.1), .int .u64 ((l3_.getD (((i3_ : Int)).toNat) it0).2.2.2.2)] := At.rowF itC itC_len (i := 600) (r := ⟨89, 5, .slice D_ (m_ - 1) c_, (m_ - 1), l3_.flatMap itC⟩) it0 rfl rfl rfl (by rw [hln3_]; omega)
        refine Dl 23 28 16777215 B50 798 89 D_ (((i3_ : Int)).toNat * 5) (.tmp 62) (.agg #[N6 ((l3_.getD (((i3_ : Int)).toNat) it0).1), N6 ((l3_.getD (((i3_ : Int)).toNat) it0).2.1), N6 ((l3_.getD (((i3_ : Int)).toNat) it0).2.2.1), N6 ((l3_.getD (((i3_ : Int)).toNat) it0).2.2.2.1), N7 ((l3_.getD (((i3_ : Int)).toNat) it0).2.2.2.2)]) [N6 ((l3_.getD (((i3_ : Int)).toNat) it0).1), N6 ((l3_.getD (((i3_ : Int)).toNat) it0).2.1), N6 ((l3_.getD (((i3_ : Int)).toNat) it0).2.2.1), N6 ((l3_.getD (((i3_ : Int)).toNat) it0).2.2.2.1), N7 ((l3_.getD (((i3_ : Int)).toNat) it0).2.2.2.2)] hQ93 at107 ?_
        have b108 : (0 : Int) ≤ (i3_ : Int) := by omega
        have b109 : (i3_ : Int) < (((m_ - 1) : Nat) : Int) := by omega
        have at110 : At G97 [(600, ⟨89, 5, .slice D_ (m_ - 1) c_, (m_ - 1), l3_.flatMap itC⟩)] D_ (((i3_ : Int)).toNat * 5) [.int .i64 ((l3_.getD (((i3_ : Int)).toNat) it0).1), .int .i64 ((l3_.getD (((i3_ : Int)).toNat) it0).2.1), .int .i64 ((l3_.getD (((i3_ : Int)).toNat) it0).2.2.1), .int .i64 ((l3_.getD (((i3_ : Int)).toNat) it0).2.2.2.1), .int .u64 ((l3_.getD (((i3_ : Int)).toNat) it0).2.2.2.2)] := At.rowF itC itC_len (i := 600) (r := ⟨89, 5, .slice D_ (m_ - 1) c_, (m_ - 1), l3_.flatMap itC⟩) it0 rfl rfl rfl (by rw [hln3_]; omega)
        refine Dx 24 28 33554431 B50 798 84 89 5 D_ (m_ - 1) c_ .i64 (i3_ : Int) (.tmp 43) (.tmp 44) hQ93 b108 b109 (rowSome (i := 600) (q := (RR 89 5 D_ (m_ - 1) c_ (l3_.flatMap itC))) rfl rfl (flat_pos itC_len (by decide) (by rw [hln3_]; omega))) ?_
        refine XD.toE ?_
        refine En ⟨67, [(0, .own 2700 0), (1, I6 (i3_ : Int)), (4, .mth 81 2700 0), (5, I6 (k3_ : Int)), (48, VL D_ (m_ - 1) c_), (49, I6 (k3_ : Int)), (56, .v (.agg #[N6 ((l3_.getD (((k3_ : Int)).toNat) it0).1), N6 ((l3_.getD (((k3_ : Int)).toNat) it0).2.1), N6 ((l3_.getD (((k3_ : Int)).toNat) it0).2.2.1), N6 ((l3_.getD (((k3_ : Int)).toNat) it0).2.2.2.1), N7 ((l3_.getD (((k3_ : Int)).toNat) it0).2.2.2.2)])), (63, .v (.agg #[N6 ((l3_.getD (((i3_ : Int)).toNat) it0).1), N6 ((l3_.getD (((i3_ : Int)).toNat) it0).2.1), N6 ((l3_.getD (((i3_ : Int)).toNat) it0).2.2.1), N6 ((l3_.getD (((i3_ : Int)).toNat) it0).2.2.2.1), N7 ((l3_.getD (((i3_ : Int)).toNat) it0).2.2.2.2)])), (64, .v (elt D_ (((i3_ : Int)).toNat * 5)))], [(1002, ⟨27, [I6 0, I6 0, I6 0, I6 0]⟩), (1004, ⟨27, [I6 ((l_.getD 0 it0).1), I6 ((l_.getD 0 it0).2.1), I6 ((l_.getD 0 it0).2.2.1), I6 ((l_.getD 0 it0).2.2.2.1)]⟩), (2007, ⟨27, [I6 z_.1, I6 z_.2.1, I6 z_.2.2.1, I6 z_.2.2.2.1]⟩), (2700, ⟨87, [VL D_ (m_ - 1) c_, I7 (i1_ : Int)]⟩)]⟩ ?_
        refine Eo 25 28 67108863 B50 798 ?_
        refine X.storeElem (i := 600) (t := 89) (j := ((i3_ : Int)).toNat * 5) (n := (m_ - 1)) (c := c_) (q := (RR 89 5 D_ (m_ - 1) c_ (l3_.flatMap itC))) (A := D_) (x := .tmp 64) (y := .tmp 56) (z := .agg #[N6 ((l3_.getD (((k3_ : Int)).toNat) it0).1), N6 ((l3_.getD (((k3_ : Int)).toNat) it0).2.1), N6 ((l3_.getD (((k3_ : Int)).toNat) it0).2.2.1), N6 ((l3_.getD (((k3_ : Int)).toNat) it0).2.2.2.1), N7 ((l3_.getD (((k3_ : Int)).toNat) it0).2.2.2.2)]) (by kernel_rfl) (by kernel_rfl) (by kernel_rfl) rfl rfl (by kernel_rfl) (by rw [show _ = _ from flat_len itC_len _, hln3_]; show ((i3_ : Int)).toNat * 5 + 5 ≤ _; omega) (by kernel_rfl) (Nat.succ_pos _) (by kernel_rfl) ?_
        refine X.tellR [600, 32] (R' := [(600, RR 89 5 D_ (m_ - 1) c_ ((l3_.set (((i3_ : Int)).toNat) ((l3_.getD (((k3_ : Int)).toNat) it0).1, (l3_.getD (((k3_ : Int)).toNat) it0).2.1, (l3_.getD (((k3_ : Int)).toNat) it0).2.2.1, (l3_.getD (((k3_ : Int)).toNat) it0).2.2.2.1, (l3_.getD (((k3_ : Int)).toNat) it0).2.2.2.2)).flatMap itC)), (32, RR 4 1 A52 ys1.length ys1.length (bl_.flatMap blC))]) (congrArg (fun cs_ => (600, (RR 89 5 D_ (m_ - 1) c_ cs_ : Row)) :: [(32, RR 4 1 A52 ys1.length ys1.length (bl_.flatMap blC))]) (splice_flat itC_len (((l3_.getD (((k3_ : Int)).toNat) it0).1, (l3_.getD (((k3_ : Int)).toNat) it0).2.1, (l3_.getD (((k3_ : Int)).toNat) it0).2.2.1, (l3_.getD (((k3_ : Int)).toNat) it0).2.2.2.1, (l3_.getD (((k3_ : Int)).toNat) it0).2.2.2.2) : Item) l3_ (((i3_ : Int)).toNat) (by rw [hln3_]; omega))) ?_
        obtain ⟨l111, hl111⟩ : ∃ z_, (l3_.set (((i3_ : Int)).toNat) ((l3_.getD (((k3_ : Int)).toNat) it0).1, (l3_.getD (((k3_ : Int)).toNat) it0).2.1, (l3_.getD (((k3_ : Int)).toNat) it0).2.2.1, (l3_.getD (((k3_ : Int)).toNat) it0).2.2.2.1, (l3_.getD (((k3_ : Int)).toNat) it0).2.2.2.2)) = z_ := ⟨_, rfl⟩
        rw [hl111]
        have hn111 : l111.length = (m_ - 1) := by rw [← hl111, List.length_set, hln3_]
        refine X.back ?_
        refine En ⟨67, [(0, .own 2700 0), (1, I6 (i3_ : Int)), (4, .mth 81 2700 0), (5, I6 (k3_ : Int)), (48, VL D_ (m_ - 1) c_), (49, I6 (k3_ : Int)), (63, .v (.agg #[N6 ((l3_.getD (((i3_ : Int)).toNat) it0).1), N6 ((l3_.getD (((i3_ : Int)).toNat) it0).2.1), N6 ((l3_.getD (((i3_ : Int)).toNat) it0).2.2.1), N6 ((l3_.getD (((i3_ : Int)).toNat) it0).2.2.2.1), N7 ((l3_.getD (((i3_ : Int)).toNat) it0).2.2.2.2)]))], [(1002, ⟨27, [I6 0, I6 0, I6 0, I6 0]⟩), (1004, ⟨27, [I6 ((l_.getD 0 it0).1), I6 ((l_.getD 0 it0).2.1), I6 ((l_.getD 0 it0).2.2.1), I6 ((l_.getD 0 it0).2.2.2.1)]⟩), (2007, ⟨27, [I6 z_.1, I6 z_.2.1, I6 z_.2.2.1, I6 z_.2.2.2.1]⟩), (2700, ⟨87, [VL D_ (m_ - 1) c_, I7 (i1_ : Int)]⟩)]⟩ ?_
        refine Eo 26 28 134217727 B50 798 ?_
        have b112 : (0 : Int) ≤ (k3_ : Int) := by omega
        have b113 : (k3_ : Int) < (((m_ - 1) : Nat) : Int) := by omega
        refine Ix 84 89 5 D_ (m_ - 1) c_ .i64 (k3_ : Int) (.tmp 48) (.tmp 49) b112 b113 (rowSome (i := 600) (q := (RR 89 5 D_ (m_ - 1) c_ (l111.flatMap itC))) rfl rfl (flat_pos itC_len (by decide) (by rw [hn111]; omega))) ?_
        have at114 : At G97 [(600, ⟨89, 5, .slice D_ (m_ - 1) c_, (m_ - 1), l111.flatMap itC⟩), (32, ⟨4, 1, .slice A52 ys1.length ys1.length, ys1.length, bl_.flatMap blC⟩)] D_ (((k3_ : Int)).toNat * 5) [.int .i64 ((l111.getD (((k3_ : Int)).toNat) it0).1), .int .i64 ((l111.getD (((k3_ : Int)).toNat) it0).2.1), .int .i64 ((l111.getD (((k3_ : Int)).toNat) it0).2.2.1), .int .i64 ((l111.getD (((k3_ : Int)).toNat) it0).2.2.2.1), .int .u64 ((l111.getD (((k3_ : Int)).toNat) it0).2.2.2.2)] := At.rowF itC itC_len (i := 600) (r := ⟨89, 5, .slice D_ (m_ - 1) c_, (m_ - 1), l111.flatMap itC⟩) it0 rfl rfl rfl (by rw [hn111]; omega)
        refine X.back ?_
        refine En ⟨67, [(0, .own 2700 0), (1, I6 (i3_ : Int)), (4, .mth 81 2700 0), (5, I6 (k3_ : Int)), (63, .v (.agg #[N6 ((l3_.getD (((i3_ : Int)).toNat) it0).1), N6 ((l3_.getD (((i3_ : Int)).toNat) it0).2.1), N6 ((l3_.getD (((i3_ : Int)).toNat) it0).2.2.1), N6 ((l3_.getD (((i3_ : Int)).toNat) it0).2.2.2.1), N7 ((l3_.getD (((i3_ : Int)).toNat) it0).2.2.2.2)])), (65, .v (elt D_ (((k3_ : Int)).toNat * 5)))], [(1002, ⟨27, [I6 0, I6 0, I6 0, I6 0]⟩), (1004, ⟨27, [I6 ((l_.getD 0 it0).1), I6 ((l_.getD 0 it0).2.1), I6 ((l_.getD 0 it0).2.2.1), I6 ((l_.getD 0 it0).2.2.2.1)]⟩), (2007, ⟨27, [I6 z_.1, I6 z_.2.1, I6 z_.2.2.1, I6 z_.2.2.2.1]⟩), (2700, ⟨87, [VL D_ (m_ - 1) c_, I7 (i1_ : Int)]⟩)]⟩ ?_
        refine Eo 27 28 268435455 B50 798 ?_
        refine X.storeElem (i := 600) (t := 89) (j := ((k3_ : Int)).toNat * 5) (n := (m_ - 1)) (c := c_) (q := (RR 89 5 D_ (m_ - 1) c_ (l111.flatMap itC))) (A := D_) (x := .tmp 65) (y := .tmp 63) (z := .agg #[N6 ((l3_.getD (((i3_ : Int)).toNat) it0).1), N6 ((l3_.getD (((i3_ : Int)).toNat) it0).2.1), N6 ((l3_.getD (((i3_ : Int)).toNat) it0).2.2.1), N6 ((l3_.getD (((i3_ : Int)).toNat) it0).2.2.2.1), N7 ((l3_.getD (((i3_ : Int)).toNat) it0).2.2.2.2)]) (by kernel_rfl) (by kernel_rfl) (by kernel_rfl) rfl rfl (by kernel_rfl) (by rw [show _ = _ from flat_len itC_len _, hn111]; show ((k3_ : Int)).toNat * 5 + 5 ≤ _; omega) (by kernel_rfl) (Nat.succ_pos _) (by kernel_rfl) ?_
        refine X.tellR [600, 32] (R' := [(600, RR 89 5 D_ (m_ - 1) c_ ((l111.set (((k3_ : Int)).toNat) ((l3_.getD (((i3_ : Int)).toNat) it0).1, (l3_.getD (((i3_ : Int)).toNat) it0).2.1, (l3_.getD (((i3_ : Int)).toNat) it0).2.2.1, (l3_.getD (((i3_ : Int)).toNat) it0).2.2.2.1, (l3_.getD (((i3_ : Int)).toNat) it0).2.2.2.2)).flatMap itC)), (32, RR 4 1 A52 ys1.length ys1.length (bl_.flatMap blC))]) (congrArg (fun cs_ => (600, (RR 89 5 D_ (m_ - 1) c_ cs_ : Row)) :: [(32, RR 4 1 A52 ys1.length ys1.length (bl_.flatMap blC))]) (splice_flat itC_len (((l3_.getD (((i3_ : Int)).toNat) it0).1, (l3_.getD (((i3_ : Int)).toNat) it0).2.1, (l3_.getD (((i3_ : Int)).toNat) it0).2.2.1, (l3_.getD (((i3_ : Int)).toNat) it0).2.2.2.1, (l3_.getD (((i3_ : Int)).toNat) it0).2.2.2.2) : Item) l111 (((k3_ : Int)).toNat) (by rw [hn111]; omega))) ?_
        obtain ⟨l115, hl115⟩ : ∃ z_, (l111.set (((k3_ : Int)).toNat) ((l3_.getD (((i3_ : Int)).toNat) it0).1, (l3_.getD (((i3_ : Int)).toNat) it0).2.1, (l3_.getD (((i3_ : Int)).toNat) it0).2.2.1, (l3_.getD (((i3_ : Int)).toNat) it0).2.2.2.1, (l3_.getD (((i3_ : Int)).toNat) it0).2.2.2.2)) = z_ := ⟨_, rfl⟩
        rw [hl115]
        have hn115 : l115.length = (m_ - 1) := by rw [← hl115, List.length_set, hn111]
        refine X.back ?_
        refine XE.done (by kernel_rfl) ?_
        refine Rn 6 (.ex .normal) [.loop J94, .blk 0] ⟨67, [(0, .own 2700 0), (1, I6 (k3_ : Int)), (4, .mth 81 2700 0)], [(1002, ⟨27, [I6 0, I6 0, I6 0, I6 0]⟩), (1004, ⟨27, [I6 ((l_.getD 0 it0).1), I6 ((l_.getD 0 it0).2.1), I6 ((l_.getD 0 it0).2.2.1), I6 ((l_.getD 0 it0).2.2.2.1)]⟩), (2007, ⟨27, [I6 z_.1, I6 z_.2.1, I6 z_.2.2.1, I6 z_.2.2.2.1]⟩), (2700, ⟨87, [VL D_ (m_ - 1) c_, I7 (i1_ : Int)]⟩)]⟩ ?_
        have hsw_ : l115 = swp l3_ i3_ k3_ := by rw [← hl115, ← hl111]; rfl
        exact X.again (hJ94 _ _ _ _ ⟨k3_, l115, rfl, rfl, ((hG94.trans hG96).trans hG97), ⟨by omega, by rw [hsw_, swp_len]; exact hln3_, by rw [hsw_]; exact down_step hdn_ (Nat.zero_le _) hk0_ (by omega) hki_ hkm_ hlt_, by rw [hsw_]; exact (swp_perm (by omega) (by omega)).trans hpm3_⟩, rfl⟩ (by omega))
      ·
       refine X.inline (f := 81) (l := [.own 2700 0, I6 (k3_ : Int), I6 (i3_ : Int)]) (fn := Try.f81) (c := B81) (by kernel_rfl) (by kernel_rfl) Try.func81 (by kernel_rfl) ?_
       intro Q116 M116 hM116 hQ116 fin116
       refine Rn 6 (Qc B81 6) [Qs B81 7] ⟨52, [(0, .own 3700 0), (1, I6 (k3_ : Int)), (2, I6 (i3_ : Int)), (6, VB false)], [(2002, ⟨27, [I6 0, I6 0, I6 0, I6 0]⟩), (2004, ⟨27, [I6 ((l_.getD 0 it0).1), I6 ((l_.getD 0 it0).2.1), I6 ((l_.getD 0 it0).2.2.1), I6 ((l_.getD 0 it0).2.2.2.1)]⟩), (3007, ⟨27, [I6 z_.1, I6 z_.2.1, I6 z_.2.2.1, I6 z_.2.2.2.1]⟩), (3700, ⟨87, [VL D_ (m_ - 1) c_, I7 (i1_ : Int)]⟩)]⟩ ?_
       have hr_d117 := hr
       have hr1_d117 := hr1
       refine Og 1 B81 6 14 [⟨some 0, 3700, 87, [VL D_ (m_ - 1) c_, I7 (i1_ : Int)]⟩] [(600, RR 89 5 D_ (m_ - 1) c_ (l3_.flatMap itC))] [] ⟨⟨fun _ h => (by cases h; rfl), rfl⟩, trivial⟩ (by intro p hp hn; simp only [List.mem_cons, List.not_mem_nil, or_false] at hp; rcases hp with rfl <;> first | (cases hn; done) | exact hM116 _ (Nat.le_of_ble_eq_true rfl)) (fun ρ0 => ?_)
       refine Tk 0 14 1 B81 6 (.own 3700 0) hQ116 ?_
       refine XD.nilOwn (i := 1) (l' := (lb 14 3)) (oA B81 (pa 6) 1) (x := .tmp 9) (b := 3700) (off := 0) hQ116 (by kernel_rfl) (by kernel_rfl) (by kernel_rfl) (by kernel_rfl) (by kernel_rfl) (by kernel_rfl) ?_
       refine Tk 2 14 7 B81 6 (.own 3700 0) hQ116 ?_
       refine Tk 3 14 15 B81 6 (VL D_ (m_ - 1) c_) hQ116 ?_
       refine Tk 4 14 31 B81 6 (I6 (k3_ : Int)) hQ116 ?_
       have b118 : (0 : Int) ≤ (k3_ : Int) := by omega
       have b119 : (k3_ : Int) < (((m_ - 1) : Nat) : Int) := by omega
       have at120 : At G96 [(600, ⟨89, 5, .slice D_ (m_ - 1) c_, (m_ - 1), l3_.flatMap itC⟩)] D_ (((k3_ : Int)).toNat * 5) [.int .i64 ((l3_.getD (((k3_ : Int)).toNat) it0).1), .int .i64 ((l3_.getD (((k3_ : Int)).toNat) it0).2.1), .int .i64 ((l3_.getD (((k3_ : Int)).toNat) it0).2.2.1), .int .i64 ((l3_.getD (((k3_ : Int)).toNat) it0).2.2.2.1), .int .u64 ((l3_.getD (((k3_ : Int)).toNat) it0).2.2.2.2)] := At.rowF itC itC_len (i := 600) (r := ⟨89, 5, .slice D_ (m_ - 1) c_, (m_ - 1), l3_.flatMap itC⟩) it0 rfl rfl rfl (by rw [hln3_]; omega)
       refine Dx 5 14 63 B81 6 84 89 5 D_ (m_ - 1) c_ .i64 (k3_ : Int) (.tmp 12) (.tmp 13) hQ116 b118 b119 (rowSome (i := 600) (q := (RR 89 5 D_ (m_ - 1) c_ (l3_.flatMap itC))) rfl rfl (flat_pos itC_len (by decide) (by rw [hln3_]; omega))) ?_
       refine Tk 6 14 127 B81 6 (.own 3700 0) hQ116 ?_
       refine XD.nilOwn (i := 7) (l' := (lb 14 255)) (oA B81 (pa 6) 7) (x := .tmp 15) (b := 3700) (off := 0) hQ116 (by kernel_rfl) (by kernel_rfl) (by kernel_rfl) (by kernel_rfl) (by kernel_rfl) (by kernel_rfl) ?_
       refine Tk 8 14 511 B81 6 (.own 3700 0) hQ116 ?_
       refine Tk 9 14 1023 B81 6 (VL D_ (m_ - 1) c_) hQ116 ?_
       refine Tk 10 14 2047 B81 6 (I6 (i3_ : Int)) hQ116 ?_
       have b121 : (0 : Int) ≤ (i3_ : Int) := by omega
       have b122 : (i3_ : Int) < (((m_ - 1) : Nat) : Int) := by omega
       have at123 : At G96 [(600, ⟨89, 5, .slice D_ (m_ - 1) c_, (m_ - 1), l3_.flatMap itC⟩)] D_ (((i3_ : Int)).toNat * 5) [.int .i64 ((l3_.getD (((i3_ : Int)).toNat) it0).1), .int .i64 ((l3_.getD (((i3_ : Int)).toNat) it0).2.1), .int .i64 ((l3_.getD (((i3_ : Int)).toNat) it0).2.2.1), .int .i64 ((l3_.getD (((i3_ : Int)).toNat) it0).2.2.2.1), .int .u64 ((l3_.getD (((i3_ : Int)).toNat) it0).2.2.2.2)] := At.rowF itC itC_len (i := 600) (r := ⟨89, 5, .slice D_ (m_ - 1) c_, (m_ - 1), l3_.flatMap itC⟩) it0 rfl rfl rfl (by rw [hln3_]; omega)
       refine Dx 11 14 4095 B81 6 84 89 5 D_ (m_ - 1) c_ .i64 (i3_ : Int) (.tmp 18) (.tmp 19) hQ116 b121 b122 (rowSome (i := 600) (q := (RR 89 5 D_ (m_ - 1) c_ (l3_.flatMap itC))) rfl rfl (flat_pos itC_len (by decide) (by rw [hln3_]; omega))) ?_
       refine Ts [12, 13] 14 16383 0 2 hQ116 ?_
       refine XD.done (by kernel_rfl) ?_
       refine Rn 3 (Qc B81 28) [Qs B81 29, Qs B81 15] ⟨52, [(6, VB false), (7, .v (elt D_ (((k3_ : Int)).toNat * 5))), (8, .v (elt D_ (((i3_ : Int)).toNat * 5)))], [(2002, ⟨27, [I6 0, I6 0, I6 0, I6 0]⟩), (2004, ⟨27, [I6 ((l_.getD 0 it0).1), I6 ((l_.getD 0 it0).2.1), I6 ((l_.getD 0 it0).2.2.1), I6 ((l_.getD 0 it0).2.2.2.1)]⟩), (3007, ⟨27, [I6 z_.1, I6 z_.2.1, I6 z_.2.2.1, I6 z_.2.2.2.1]⟩), (3700, ⟨87, [VL D_ (m_ - 1) c_, I7 (i1_ : Int)]⟩)]⟩ ?_
       have hr_d124 := hr
       have hr1_d124 := hr1
       refine Og 2 B81 28 11 [] [(600, RR 89 5 D_ (m_ - 1) c_ (l3_.flatMap itC))] [] trivial (by simp) (fun ρ0 => ?_)
       refine Tk 0 11 1 B81 28 (.v (elt D_ (((k3_ : Int)).toNat * 5))) hQ116 ?_
       refine XD.nilElt (i := 1) (l' := (lb 11 3)) (oA B81 (pa 28) 1) (x := .tmp 21) (A := D_) (j := ((k3_ : Int)).toNat * 5) hQ116 (by kernel_rfl) (by kernel_rfl) (by kernel_rfl) (by kernel_rfl) (by kernel_rfl) (by kernel_rfl) ?_
       refine XD.field (i := 2) (l' := (lb 11 7)) (o := (oA B81 (pa 28) 2)) (t := 89) (f := 0) (n := 0) (A := D_) (j := ((k3_ : Int)).toNat * 5) (x := .tmp 22) hQ116 (by kernel_rfl) (by kernel_rfl) (by kernel_rfl) (by kernel_rfl) (by kernel_rfl) (by kernel_rfl) (by kernel_rfl) ?_
       refine XD.field (i := 3) (l' := (lb 11 15)) (o := (oA B81 (pa 28) 3)) (t := 27) (f := 0) (n := 0) (A := D_) (j := ((k3_ : Int)).toNat * 5 + 0) (x := .tmp 23) hQ116 (by kernel_rfl) (by kernel_rfl) (by kernel_rfl) (by kernel_rfl) (by kernel_rfl) (by kernel_rfl) (by kernel_rfl) ?_
       have at125 : At G96 [(600, ⟨89, 5, .slice D_ (m_ - 1) c_, (m_ - 1), l3_.flatMap itC⟩)] D_ (((k3_ : Int)).toNat * 5) [.int .i64 ((l3_.getD (((k3_ : Int)).toNat) it0).1), .int .i64 ((l3_.getD (((k3_ : Int)).toNat) it0).2.1), .int .i64 ((l3_.getD (((k3_ : Int)).toNat) it0).2.2.1), .int .i64 ((l3_.getD (((k3_ : Int)).toNat) it0).2.2.2.1), .int .u64 ((l3_.getD (((k3_ : Int)).toNat) it0).2.2.2.2)] := At.rowF itC itC_len (i := 600) (r := ⟨89, 5, .slice D_ (m_ - 1) c_, (m_ - 1), l3_.flatMap itC⟩) it0 rfl rfl rfl (by rw [hln3_]; omega)
       refine Dl 4 11 31 B81 28 2 D_ (((k3_ : Int)).toNat * 5 + 0 + 0) (.tmp 24) (N6 ((l3_.getD (((k3_ : Int)).toNat) it0).1)) [N6 ((l3_.getD (((k3_ : Int)).toNat) it0).1)] hQ116 (at125.part 0 1) ?_
       refine Tk 5 11 63 B81 28 (.v (elt D_ (((i3_ : Int)).toNat * 5))) hQ116 ?_
       refine XD.nilElt (i := 6) (l' := (lb 11 127)) (oA B81 (pa 28) 6) (x := .tmp 26) (A := D_) (j := ((i3_ : Int)).toNat * 5) hQ116 (by kernel_rfl) (by kernel_rfl) (by kernel_rfl) (by kernel_rfl) (by kernel_rfl) (by kernel_rfl) ?_
       refine XD.field (i := 7) (l' := (lb 11 255)) (o := (oA B81 (pa 28) 7)) (t := 89) (f := 0) (n := 0) (A := D_) (j := ((i3_ : Int)).toNat * 5) (x := .tmp 27) hQ116 (by kernel_rfl) (by kernel_rfl) (by kernel_rfl) (by kernel_rfl) (by kernel_rfl) (by kernel_rfl) (by kernel_rfl) ?_
       refine XD.field (i := 8) (l' := (lb 11 511)) (o := (oA B81 (pa 28) 8)) (t := 27) (f := 0) (n := 0) (A := D_) (j := ((i3_ : Int)).toNat * 5 + 0) (x := .tmp 28) hQ116 (by kernel_rfl) (by kernel_rfl) (by kernel_rfl) (by kernel_rfl) (by kernel_rfl) (by kernel_rfl) (by kernel_rfl) ?_
       have at126 : At G96 [(600, ⟨89, 5, .slice D_ (m_ - 1) c_, (m_ - 1), l3_.flatMap itC⟩)] D_ (((i3_ : Int)).toNat * 5) [.int .i64 ((l3_.getD (((i3_ : Int)).toNat) it0).1), .int .i64 ((l3_.getD (((i3_ : Int)).toNat) it0).2.1), .int .i64 ((l3_.getD (((i3_ : Int)).toNat) it0).2.2.1), .int .i64 ((l3_.getD (((i3_ : Int)).toNat) it0).2.2.2.1), .int .u64 ((l3_.getD (((i3_ : Int)).toNat) it0).2.2.2.2)] := At.rowF itC itC_len (i := 600) (r := ⟨89, 5, .slice D_ (m_ - 1) c_, (m_ - 1), l3_.flatMap itC⟩) it0 rfl rfl rfl (by rw [hln3_]; omega)
       refine Dl 9 11 1023 B81 28 2 D_ (((i3_ : Int)).toNat * 5 + 0 + 0) (.tmp 29) (N6 ((l3_.getD (((i3_ : Int)).toNat) it0).1)) [N6 ((l3_.getD (((i3_ : Int)).toNat) it0).1)] hQ116 (at126.part 0 1) ?_
       refine Ts [10] 11 2047 0 1 hQ116 ?_
       refine XD.done (by kernel_rfl) ?_
       refine Rn 1 (Qc B81 29) [Qs B81 15] ⟨52, [(6, VB false), (7, .v (elt D_ (((k3_ : Int)).toNat * 5))), (8, .v (elt D_ (((i3_ : Int)).toNat * 5))), (31, VB (((l3_.getD (((k3_ : Int)).toNat) it0).1) != ((l3_.getD (((i3_ : Int)).toNat) it0).1)))], [(2002, ⟨27, [I6 0, I6 0, I6 0, I6 0]⟩), (2004, ⟨27, [I6 ((l_.getD 0 it0).1), I6 ((l_.getD 0 it0).2.1), I6 ((l_.getD 0 it0).2.2.1), I6 ((l_.getD 0 it0).2.2.2.1)]⟩), (3007, ⟨27, [I6 z_.1, I6 z_.2.1, I6 z_.2.2.1, I6 z_.2.2.2.1]⟩), (3700, ⟨87, [VL D_ (m_ - 1) c_, I7 (i1_ : Int)]⟩)]⟩ ?_
       refine X.split 31 rfl (fun h127 => ?_) (fun h127 => ?_)
       ·
        replace h127 : ((l3_.getD (((k3_ : Int)).toNat) it0).1) ≠ ((l3_.getD (((i3_ : Int)).toNat) it0).1) := by simpa using h127
        refine Rn 2 (Qc B81 116) [Qs B81 117, Qs B81 15] ⟨52, [(6, VB false), (7, .v (elt D_ (((k3_ : Int)).toNat * 5))), (8, .v (elt D_ (((i3_ : Int)).toNat * 5)))], [(2002, ⟨27, [I6 0, I6 0, I6 0, I6 0]⟩), (2004, ⟨27, [I6 ((l_.getD 0 it0).1), I6 ((l_.getD 0 it0).2.1), I6 ((l_.getD 0 it0).2.2.1), I6 ((l_.getD 0 it0).2.2.2.1)]⟩), (3007, ⟨27, [I6 z_.1, I6 z_.2.1, I6 z_.2.2.1, I6 z_.2.2.2.1]⟩), (3700, ⟨87, [VL D_ (m_ - 1) c_, I7 (i1_ : Int)]⟩)]⟩ ?_
        have hr_d128 := hr
        have hr1_d128 := hr1
        refine Og 3 B81 116 12 [] [(600, RR 89 5 D_ (m_ - 1) c_ (l3_.flatMap itC))] [] trivial (by simp) (fun ρ0 => ?_)
        refine Tk 0 12 1 B81 116 (.v (elt D_ (((k3_ : Int)).toNat * 5))) hQ116 ?_
        refine XD.nilElt (i := 1) (l' := (lb 12 3)) (oA B81 (pa 116) 1) (x := .tmp 32) (A := D_) (j := ((k3_ : Int)).toNat * 5) hQ116 (by kernel_rfl) (by kernel_rfl) (by kernel_rfl) (by kernel_rfl) (by kernel_rfl) (by kernel_rfl) ?_
        refine XD.field (i := 2) (l' := (lb 12 7)) (o := (oA B81 (pa 116) 2)) (t := 89) (f := 0) (n := 0) (A := D_) (j := ((k3_ : Int)).toNat * 5) (x := .tmp 33) hQ116 (by kernel_rfl) (by kernel_rfl) (by kernel_rfl) (by kernel_rfl) (by kernel_rfl) (by kernel_rfl) (by kernel_rfl) ?_
        refine XD.field (i := 3) (l' := (lb 12 15)) (o := (oA B81 (pa 116) 3)) (t := 27) (f := 0) (n := 0) (A := D_) (j := ((k3_ : Int)).toNat * 5 + 0) (x := .tmp 34) hQ116 (by kernel_rfl) (by kernel_rfl) (by kernel_rfl) (by kernel_rfl) (by kernel_rfl) (by kernel_rfl) (by kernel_rfl) ?_
        have at129 : At G96 [(600, ⟨89, 5, .slice D_ (m_ - 1) c_, (m_ - 1), l3_.flatMap itC⟩)] D_ (((k3_ : Int)).toNat * 5) [.int .i64 ((l3_.getD (((k3_ : Int)).toNat) it0).1), .int .i64 ((l3_.getD (((k3_ : Int)).toNat) it0).2.1), .int .i64 ((l3_.getD (((k3_ : Int)).toNat) it0).2.2.1), .int .i64 ((l3_.getD (((k3_ : Int)).toNat) it0).2.2.2.1), .int .u64 ((l3_.getD (((k3_ : Int)).toNat) it0).2.2.2.2)] := At.rowF itC itC_len (i := 600) (r := ⟨89, 5, .slice D_ (m_ - 1) c_, (m_ - 1), l3_.flatMap itC⟩) it0 rfl rfl rfl (by rw [hln3_]; omega)
        refine Dl 4 12 31 B81 116 2 D_ (((k3_ : Int)).toNat * 5 + 0 + 0) (.tmp 35) (N6 ((l3_.getD (((k3_ : Int)).toNat) it0).1)) [N6 ((l3_.getD (((k3_ : Int)).toNat) it0).1)] hQ116 (at129.part 0 1) ?_
        refine Tk 5 12 63 B81 116 (.v (elt D_ (((i3_ : Int)).toNat * 5))) hQ116 ?_
        refine XD.nilElt (i := 6) (l' := (lb 12 127)) (oA B81 (pa 116) 6) (x := .tmp 37) (A := D_) (j := ((i3_ : Int)).toNat * 5) hQ116 (by kernel_rfl) (by kernel_rfl) (by kernel_rfl) (by kernel_rfl) (by kernel_rfl) (by kernel_rfl) ?_
        refine XD.field (i := 7) (l' := (lb 12 255)) (o := (oA B81 (pa 116) 7)) (t := 89) (f := 0) (n := 0) (A := D_) (j := ((i3_ : Int)).toNat * 5) (x := .tmp 38) hQ116 (by kernel_rfl) (by kernel_rfl) (by kernel_rfl) (by kernel_rfl) (by kernel_rfl) (by kernel_rfl) (by kernel_rfl) ?_
        refine XD.field (i := 8) (l' := (lb 12 511)) (o := (oA B81 (pa 116) 8)) (t := 27) (f := 0) (n := 0) (A := D_) (j := ((i3_ : Int)).toNat * 5 + 0) (x := .tmp 39) hQ116 (by kernel_rfl) (by kernel_rfl) (by kernel_rfl) (by kernel_rfl) (by kernel_rfl) (by kernel_rfl) (by kernel_rfl) ?_
        have at130 : At G96 [(600, ⟨89, 5, .slice D_ (m_ - 1) c_, (m_ - 1), l3_.flatMap itC⟩)] D_ (((i3_ : Int)).toNat * 5) [.int .i64 ((l3_.getD (((i3_ : Int)).toNat) it0).1), .int .i64 ((l3_.getD (((i3_ : Int)).toNat) it0).2.1), .int .i64 ((l3_.getD (((i3_ : Int)).toNat) it0).2.2.1), .int .i64 ((l3_.getD (((i3_ : Int)).toNat) it0).2.2.2.1), .int .u64 ((l3_.getD (((i3_ : Int)).toNat) it0).2.2.2.2)] := At.rowF itC itC_len (i := 600) (r := ⟨89, 5, .slice D_ (m_ - 1) c_, (m_ - 1), l3_.flatMap itC⟩) it0 rfl rfl rfl (by rw [hln3_]; omega)
        refine Dl 9 12 1023 B81 116 2 D_ (((i3_ : Int)).toNat * 5 + 0 + 0) (.tmp 40) (N6 ((l3_.getD (((i3_ : Int)).toNat) it0).1)) [N6 ((l3_.getD (((i3_ : Int)).toNat) it0).1)] hQ116 (at130.part 0 1) ?_
        refine Ts [10, 11] 12 4095 0 2 hQ116 ?_
        refine XD.done (by kernel_rfl) ?_
        refine Rn 3 (.ex .ret) [] ⟨52, [(6, VB (decide ((l3_.getD (((k3_ : Int)).toNat) it0).1 < (l3_.getD (((i3_ : Int)).toNat) it0).1)))], [(2002, ⟨27, [I6 0, I6 0, I6 0, I6 0]⟩), (2004, ⟨27, [I6 ((l_.getD 0 it0).1), I6 ((l_.getD 0 it0).2.1), I6 ((l_.getD 0 it0).2.2.1), I6 ((l_.getD 0 it0).2.2.2.1)]⟩), (3007, ⟨27, [I6 z_.1, I6 z_.2.1, I6 z_.2.2.1, I6 z_.2.2.2.1]⟩), (3700, ⟨87, [VL D_ (m_ - 1) c_, I7 (i1_ : Int)]⟩)]⟩ ?_
        refine fin116 _ _ _ _ [.bool (decide ((l3_.getD (((k3_ : Int)).toNat) it0).1 < (l3_.getD (((i3_ : Int)).toNat) it0).1))] [(1002, ⟨27, [I6 0, I6 0, I6 0, I6 0]⟩), (1004, ⟨27, [I6 ((l_.getD 0 it0).1), I6 ((l_.getD 0 it0).2.1), I6 ((l_.getD 0 it0).2.2.1), I6 ((l_.getD 0 it0).2.2.2.1)]⟩), (2007, ⟨27, [I6 z_.1, I6 z_.2.1, I6 z_.2.2.1, I6 z_.2.2.2.1]⟩), (2700, ⟨87, [VL D_ (m_ - 1) c_, I7 (i1_ : Int)]⟩)] (.inl rfl) (by kernel_rfl) (by kernel_rfl) ?_
        refine Rn 3 (Qc B50 797) [Qs B50 399, .blk 1, .loop J94, .blk 0] ⟨67, [(0, .own 2700 0), (1, I6 (i3_ : Int)), (4, .mth 81 2700 0), (5, I6 (k3_ : Int)), (39, VB (!(decide ((l3_.getD (((k3_ : Int)).toNat) it0).1 < (l3_.getD (((i3_ : Int)).toNat) it0).1))))], [(1002, ⟨27, [I6 0, I6 0, I6 0, I6 0]⟩), (1004, ⟨27, [I6 ((l_.getD 0 it0).1), I6 ((l_.getD 0 it0).2.1), I6 ((l_.getD 0 it0).2.2.1), I6 ((l_.getD 0 it0).2.2.2.1)]⟩), (2007, ⟨27, [I6 z_.1, I6 z_.2.1, I6 z_.2.2.1, I6 z_.2.2.2.1]⟩), (2700, ⟨87, [VL D_ (m_ - 1) c_, I7 (i1_ : Int)]⟩)]⟩ ?_
        refine X.castS ⟨67, [(0, .own 2700 0), (1, I6 (i3_ : Int)), (4, .mth 81 2700 0), (5, I6 (k3_ : Int)), (39, VB (!(decide (ltI (l3_.getD ((k3_ : Int)).toNat it0) (l3_.getD ((i3_ : Int)).toNat it0)))))], [(1002, ⟨27, [I6 0, I6 0, I6 0, I6 0]⟩), (1004, ⟨27, [I6 ((l_.getD 0 it0).1), I6 ((l_.getD 0 it0).2.1), I6 ((l_.getD 0 it0).2.2.1), I6 ((l_.getD 0 it0).2.2.2.1)]⟩), (2007, ⟨27, [I6 z_.1, I6 z_.2.1, I6 z_.2.2.1, I6 z_.2.2.2.1]⟩), (2700, ⟨87, [VL D_ (m_ - 1) c_, I7 (i1_ : Int)]⟩)]⟩ (congrArg (fun zb_ : Bool => (⟨67, [(0, .own 2700 0), (1, I6 (i3_ : Int)), (4, .mth 81 2700 0), (5, I6 (k3_ : Int)), (39, VB zb_)], [(1002, ⟨27, [I6 0, I6 0, I6 0, I6 0]⟩), (1004, ⟨27, [I6 ((l_.getD 0 it0).1), I6 ((l_.getD 0 it0).2.1), I6 ((l_.getD 0 it0).2.2.1), I6 ((l_.getD 0 it0).2.2.2.1)]⟩), (2007, ⟨27, [I6 z_.1, I6 z_.2.1, I6 z_.2.2.1, I6 z_.2.2.2.1]⟩), (2700, ⟨87, [VL D_ (m_ - 1) c_, I7 (i1_ : Int)]⟩)]⟩ : S)) (show (!(decide ((l3_.getD (((k3_ : Int)).toNat) it0).1 < (l3_.getD (((i3_ : Int)).toNat) it0).1))) = (!(decide (ltI (l3_.getD ((k3_ : Int)).toNat it0) (l3_.getD ((i3_ : Int)).toNat it0)))) by first | exact congrArg (fun b_ => !b_) (decide_eq_decide.mpr (by unfold ltI; omega)) | exact decide_eq_decide.mpr (by unfold ltI; omega))) ?_
        exact hY97 _ (Ge.refl _ _)
       ·
        replace h127 : ((l3_.getD (((k3_ : Int)).toNat) it0).1) = ((l3_.getD (((i3_ : Int)).toNat) it0).1) := by simpa using h127
        refine Rn 4 (Qc B81 30) [Qs B81 31] ⟨52, [(6, VB false), (7, .v (elt D_ (((k3_ : Int)).toNat * 5))), (8, .v (elt D_ (((i3_ : Int)).toNat * 5)))], [(2002, ⟨27, [I6 0, I6 0, I6 0, I6 0]⟩), (2004, ⟨27, [I6 ((l_.getD 0 it0).1), I6 ((l_.getD 0 it0).2.1), I6 ((l_.getD 0 it0).2.2.1), I6 ((l_.getD 0 it0).2.2.2.1)]⟩), (3007, ⟨27, [I6 z_.1, I6 z_.2.1, I6 z_.2.2.1, I6 z_.2.2.2.1]⟩), (3700, ⟨87, [VL D_ (m_ - 1) c_, I7 (i1_ : Int)]⟩)]⟩ ?_
        have hr_d131 := hr
        have hr1_d131 := hr1
        refine Og 4 B81 30 10 [] [(600, RR 89 5 D_ (m_ - 1) c_ (l3_.flatMap itC))] [] trivial (by simp) (fun ρ0 => ?_)
        refine Tk 0 10 1 B81 30 (.v (elt D_ (((k3_ : Int)).toNat * 5))) hQ116 ?_
        refine XD.nilElt (i := 1) (l' := (lb 10 3)) (oA B81 (pa 30) 1) (x := .tmp 43) (A := D_) (j := ((k3_ : Int)).toNat * 5) hQ116 (by kernel_rfl) (by kernel_rfl) (by kernel_rfl) (by kernel_rfl) (by kernel_rfl) (by kernel_rfl) ?_
        refine XD.field (i := 2) (l' := (lb 10 7)) (o := (oA B81 (pa 30) 2)) (t := 89) (f := 1) (n := 4) (A := D_) (j := ((k3_ : Int)).toNat * 5) (x := .tmp 44) hQ116 (by kernel_rfl) (by kernel_rfl) (by kernel_rfl) (by kernel_rfl) (by kernel_rfl) (by kernel_rfl) (by kernel_rfl) ?_
        have at132 : At G96 [(600, ⟨89, 5, .slice D_ (m_ - 1) c_, (m_ - 1), l3_.flatMap itC⟩)] D_ (((k3_ : Int)).toNat * 5) [.int .i64 ((l3_.getD (((k3_ : Int)).toNat) it0).1), .int .i64 ((l3_.getD (((k3_ : Int)).toNat) it0).2.1), .int .i64 ((l3_.getD (((k3_ : Int)).toNat) it0).2.2.1), .int .i64 ((l3_.getD (((k3_ : Int)).toNat) it0).2.2.2.1), .int .u64 ((l3_.getD (((k3_ : Int)).toNat) it0).2.2.2.2)] := At.rowF itC itC_len (i := 600) (r := ⟨89, 5, .slice D_ (m_ - 1) c_, (m_ - 1), l3_.flatMap itC⟩) it0 rfl rfl rfl (by rw [hln3_]; omega)
        refine Dl 3 10 15 B81 30 85 D_ (((k3_ : Int)).toNat * 5 + 4) (.tmp 45) (N7 ((l3_.getD (((k3_ : Int)).toNat) it0).2.2.2.2)) [N7 ((l3_.getD (((k3_ : Int)).toNat) it0).2.2.2.2)] hQ116 (at132.part 4 1) ?_
        refine Tk 4 10 31 B81 30 (.v (elt D_ (((i3_ : Int)).toNat * 5))) hQ116 ?_
        refine XD.nilElt (i := 5) (l' := (lb 10 63)) (oA B81 (pa 30) 5) (x := .tmp 47) (A := D_) (j := ((i3_ : Int)).toNat * 5) hQ116 (by kernel_rfl) (by kernel_rfl) (by kernel_rfl) (by kernel_rfl) (by kernel_rfl) (by kernel_rfl) ?_
        refine XD.field (i := 6) (l' := (lb 10 127)) (o := (oA B81 (pa 30) 6)) (t := 89) (f := 1) (n := 4) (A := D_) (j := ((i3_ : Int)).toNat * 5) (x := .tmp 48) hQ116 (by kernel_rfl) (by kernel_rfl) (by kernel_rfl) (by kernel_rfl) (by kernel_rfl) (by kernel_rfl) (by kernel_rfl) ?_
        have at133 : At G96 [(600, ⟨89, 5, .slice D_ (m_ - 1) c_, (m_ - 1), l3_.flatMap itC⟩)] D_ (((i3_ : Int)).toNat * 5) [.int .i64 ((l3_.getD (((i3_ : Int)).toNat) it0).1), .int .i64 ((l3_.getD (((i3_ : Int)).toNat) it0).2.1), .int .i64 ((l3_.getD (((i3_ : Int)).toNat) it0).2.2.1), .int .i64 ((l3_.getD (((i3_ : Int)).toNat) it0).2.2.2.1), .int .u64 ((l3_.getD (((i3_ : Int)).toNat) it0).2.2.2.2)] := At.rowF itC itC_len (i := 600) (r := ⟨89, 5, .slice D_ (m_ - 1) c_, (m_ - 1), l3_.flatMap itC⟩) it0 rfl rfl rfl (by rw [hln3_]; omega)
        refine Dl 7 10 255 B81 30 85 D_ (((i3_ : Int)).toNat * 5 + 4) (.tmp 49) (N7 ((l3_.getD (((i3_ : Int)).toNat) it0).2.2.2.2)) [N7 ((l3_.getD (((i3_ : Int)).toNat) it0).2.2.2.2)] hQ116 (at133.part 4 1) ?_
        refine Ts [8, 9] 10 1023 0 2 hQ116 ?_
        refine XD.done (by kernel_rfl) ?_
        refine Rn 2 (.ex .ret) [] ⟨52, [(6, VB (decide ((l3_.getD (((k3_ : Int)).toNat) it0).2.2.2.2 < (l3_.getD (((i3_ : Int)).toNat) it0).2.2.2.2)))], [(2002, ⟨27, [I6 0, I6 0, I6 0, I6 0]⟩), (2004, ⟨27, [I6 ((l_.getD 0 it0).1), I6 ((l_.getD 0 it0).2.1), I6 ((l_.getD 0 it0).2.2.1), I6 ((l_.getD 0 it0).2.2.2.1)]⟩), (3007, ⟨27, [I6 z_.1, I6 z_.2.1, I6 z_.2.2.1, I6 z_.2.2.2.1]⟩), (3700, ⟨87, [VL D_ (m_ - 1) c_, I7 (i1_ : Int)]⟩)]⟩ ?_
        refine fin116 _ _ _ _ [.bool (decide ((l3_.getD (((k3_ : Int)).toNat) it0).2.2.2.2 < (l3_.getD (((i3_ : Int)).toNat) it0).2.2.2.2))] [(1002, ⟨27, [I6 0, I6 0, I6 0, I6 0]⟩), (1004, ⟨27, [I6 ((l_.getD 0 it0).1), I6 ((l_.getD 0 it0).2.1), I6 ((l_.getD 0 it0).2.2.1), I6 ((l_.getD 0 it0).2.2.2.1)]⟩), (2007, ⟨27, [I6 z_.1, I6 z_.2.1, I6 z_.2.2.1, I6 z_.2.2.2.1]⟩), (2700, ⟨87, [VL D_ (m_ - 1) c_, I7 (i1_ : Int)]⟩)] (.inl rfl) (by kernel_rfl) (by kernel_rfl) ?_
        refine Rn 3 (Qc B50 797) [Qs B50 399, .blk 1, .loop J94, .blk 0] ⟨67, [(0, .own 2700 0), (1, I6 (i3_ : Int)), (4, .mth 81 2700 0), (5, I6 (k3_ : Int)), (39, VB (!(decide ((l3_.getD (((k3_ : Int)).toNat) it0).2.2.2.2 < (l3_.getD (((i3_ : Int)).toNat) it0).2.2.2.2))))], [(1002, ⟨27, [I6 0, I6 0, I6 0, I6 0]⟩), (1004, ⟨27, [I6 ((l_.getD 0 it0).1), I6 ((l_.getD 0 it0).2.1), I6 ((l_.getD 0 it0).2.2.1), I6 ((l_.getD 0 it0).2.2.2.1)]⟩), (2007, ⟨27, [I6 z_.1, I6 z_.2.1, I6 z_.2.2.1, I6 z_.2.2.2.1]⟩), (2700, ⟨87, [VL D_ (m_ - 1) c_, I7 (i1_ : Int)]⟩)]⟩ ?_
        refine X.castS ⟨67, [(0, .own 2700 0), (1, I6 (i3_ : Int)), (4, .mth 81 2700 0), (5, I6 (k3_ : Int)), (39, VB (!(decide (ltI (l3_.getD ((k3_ : Int)).toNat it0) (l3_.getD ((i3_ : Int)).toNat it0)))))], [(1002, ⟨27, [I6 0, I6 0, I6 0, I6 0]⟩), (1004, ⟨27, [I6 ((l_.getD 0 it0).1), I6 ((l_.getD 0 it0).2.1), I6 ((l_.getD 0 it0).2.2.1), I6 ((l_.getD 0 it0).2.2.2.1)]⟩), (2007, ⟨27, [I6 z_.1, I6 z_.2.1, I6 z_.2.2.1, I6 z_.2.2.2.1]⟩), (2700, ⟨87, [VL D_ (m_ - 1) c_, I7 (i1_ : Int)]⟩)]⟩ (congrArg (fun zb_ : Bool => (⟨67, [(0, .own 2700 0), (1, I6 (i3_ : Int)), (4, .mth 81 2700 0), (5, I6 (k3_ : Int)), (39, VB zb_)], [(1002, ⟨27, [I6 0, I6 0, I6 0, I6 0]⟩), (1004, ⟨27, [I6 ((l_.getD 0 it0).1), I6 ((l_.getD 0 it0).2.1), I6 ((l_.getD 0 it0).2.2.1), I6 ((l_.getD 0 it0).2.2.2.1)]⟩), (2007, ⟨27, [I6 z_.1, I6 z_.2.1, I6 z_.2.2.1, I6 z_.2.2.2.1]⟩), (2700, ⟨87, [VL D_ (m_ - 1) c_, I7 (i1_ : Int)]⟩)]⟩ : S)) (show (!(decide ((l3_.getD (((k3_ : Int)).toNat) it0).2.2.2.2 < (l3_.getD (((i3_ : Int)).toNat) it0).2.2.2.2))) = (!(decide (ltI (l3_.getD ((k3_ : Int)).toNat it0) (l3_.getD ((i3_ : Int)).toNat it0)))) by first | exact congrArg (fun b_ => !b_) (decide_eq_decide.mpr (by unfold ltI; omega)) | exact decide_eq_decide.mpr (by unfold ltI; omega))) ?_
        exact hY97 _ (Ge.refl _ _)
     ·
      refine Rn 8 (Qo B50 396 2) [Qs B50 397, Qs B50 199, .blk 1, .loop J94, .blk 0] ⟨67, [(0, .own 2700 0), (1, I6 (i3_ : Int)), (4, .mth 81 2700 0), (5, I6 ((2 * i3_ + 1 : Nat) : Int)), (19, I6 (IntKind.i64.wrap (((2 * i3_ + 1 : Nat) : Int) + 1)))], [(1002, ⟨27, [I6 0, I6 0, I6 0, I6 0]⟩), (1004, ⟨27, [I6 ((l_.getD 0 it0).1), I6 ((l_.getD 0 it0).2.1), I6 ((l_.getD 0 it0).2.2.1), I6 ((l_.getD 0 it0).2.2.2.1)]⟩), (2007, ⟨27, [I6 z_.1, I6 z_.2.1, I6 z_.2.2.1, I6 z_.2.2.2.1]⟩), (2700, ⟨87, [VL D_ (m_ - 1) c_, I7 (i1_ : Int)]⟩)]⟩ ?_
      refine Kn 19 .i64 ((2 * i3_ + 2 : Nat) : Int) rfl (by rw [wi64 (by omega) (by omega)]; omega) ?_
      refine Rn 7 (Qo B50 396 9) [Qs B50 397, Qs B50 199, .blk 1, .loop J94, .blk 0] ⟨67, [(0, .own 2700 0), (1, I6 (i3_ : Int)), (4, .mth 81 2700 0), (5, I6 ((2 * i3_ + 1 : Nat) : Int)), (26, VB (decide (((2 * i3_ + 2 : Nat) : Int) < (((m_ - 1) : Nat) : Int))))], [(1002, ⟨27, [I6 0, I6 0, I6 0, I6 0]⟩), (1004, ⟨27, [I6 ((l_.getD 0 it0).1), I6 ((l_.getD 0 it0).2.1), I6 ((l_.getD 0 it0).2.2.1), I6 ((l_.getD 0 it0).2.2.2.1)]⟩), (2007, ⟨27, [I6 z_.1, I6 z_.2.1, I6 z_.2.2.1, I6 z_.2.2.2.1]⟩), (2700, ⟨87, [VL D_ (m_ - 1) c_, I7 (i1_ : Int)]⟩)]⟩ ?_
      refine X.split 26 rfl (fun h134 => ?_) (fun h134 => ?_)
      ·
       replace h134 : ((2 * i3_ + 2 : Nat) : Int) < (((m_ - 1) : Nat) : Int) := of_decide_eq_true h134
       refine Rn 3 (Qo B50 396 12) [Qs B50 397, Qs B50 199, .blk 1, .loop J94, .blk 0] ⟨67, [(0, .own 2700 0), (1, I6 (i3_ : Int)), (4, .mth 81 2700 0), (5, I6 ((2 * i3_ + 1 : Nat) : Int)), (26, VB true), (27, .mth 81 2700 0), (29, I6 (IntKind.i64.wrap (((2 * i3_ + 1 : Nat) : Int) + 1)))], [(1002, ⟨27, [I6 0, I6 0, I6 0, I6 0]⟩), (1004, ⟨27, [I6 ((l_.getD 0 it0).1), I6 ((l_.getD 0 it0).2.1), I6 ((l_.getD 0 it0).2.2.1), I6 ((l_.getD 0 it0).2.2.2.1)]⟩), (2007, ⟨27, [I6 z_.1, I6 z_.2.1, I6 z_.2.2.1, I6 z_.2.2.2.1]⟩), (2700, ⟨87, [VL D_ (m_ - 1) c_, I7 (i1_ : Int)]⟩)]⟩ ?_
       refine Kn 29 .i64 ((2 * i3_ + 2 : Nat) : Int) rfl (by rw [wi64 (by omega) (by omega)]; omega) ?_
       refine Rn 1 (Qo B50 396 13) [Qs B50 397, Qs B50 199, .blk 1, .loop J94, .blk 0] ⟨67, [(0, .own 2700 0), (1, I6 (i3_ : Int)), (4, .mth 81 2700 0), (5, I6 ((2 * i3_ + 1 : Nat) : Int)), (26, VB true), (27, .mth 81 2700 0), (29, I6 ((2 * i3_ + 2 : Nat) : Int)), (30, I6 ((2 * i3_ + 1 : Nat) : Int))], [(1002, ⟨27, [I6 0, I6 0, I6 0, I6 0]⟩), (1004, ⟨27, [I6 ((l_.getD 0 it0).1), I6 ((l_.getD 0 it0).2.1), I6 ((l_.getD 0 it0).2.2.1), I6 ((l_.getD 0 it0).2.2.2.1)]⟩), (2007, ⟨27, [I6 z_.1, I6 z_.2.1, I6 z_.2.2.1, I6 z_.2.2.2.1]⟩), (2700, ⟨87, [VL D_ (m_ - 1) c_, I7 (i1_ : Int)]⟩)]⟩ ?_
       refine X.joinCG (Qc B50 397) [Qs B50 199, .blk 1, .loop J94, .blk 0] ⟨67, [(0, .own 2700 0), (1, I6 (i3_ : Int)), (4, .mth 81 2700 0), (5, I6 ((2 * i3_ + 1 : Nat) : Int)), (32, VB (decide (ltI (l3_.getD (((2 * i3_ + 2 : Nat) : Int)).toNat it0) (l3_.getD (((2 * i3_ + 1 : Nat) : Int)).toNat it0))))], [(1002, ⟨27, [I6 0, I6 0, I6 0, I6 0]⟩), (1004, ⟨27, [I6 ((l_.getD 0 it0).1), I6 ((l_.getD 0 it0).2.1), I6 ((l_.getD 0 it0).2.2.1), I6 ((l_.getD 0 it0).2.2.2.1)]⟩), (2007, ⟨27, [I6 z_.1, I6 z_.2.1, I6 z_.2.2.1, I6 z_.2.2.2.1]⟩), (2700, ⟨87, [VL D_ (m_ - 1) c_, I7 (i1_ : Int)]⟩)]⟩ ?_ fun hY135 => ?_
       ·
        intro G135 hG135
        replace hr := hr.mono hG135.le
        replace hr1 := hr1.mono hG135.le
        refine Rn 0 (Qc B50 397) [Qs B50 199, .blk 1, .loop J94, .blk 0] ⟨67, [(0, .own 2700 0), (1, I6 (i3_ : Int)), (4, .mth 81 2700 0), (5, I6 ((2 * i3_ + 1 : Nat) : Int)), (32, VB (decide (ltI (l3_.getD (((2 * i3_ + 2 : Nat) : Int)).toNat it0) (l3_.getD (((2 * i3_ + 1 : Nat) : Int)).toNat it0))))], [(1002, ⟨27, [I6 0, I6 0, I6 0, I6 0]⟩), (1004, ⟨27, [I6 ((l_.getD 0 it0).1), I6 ((l_.getD 0 it0).2.1), I6 ((l_.getD 0 it0).2.2.1), I6 ((l_.getD 0 it0).2.2.2.1)]⟩), (2007, ⟨27, [I6 z_.1, I6 z_.2.1, I6 z_.2.2.1, I6 z_.2.2.2.1]⟩), (2700, ⟨87, [VL D_ (m_ - 1) c_, I7 (i1_ : Int)]⟩)]⟩ ?_
        refine X.split 32 rfl (fun h136 => ?_) (fun h136 => ?_)
        ·
         replace h136 : ltI (l3_.getD (((2 * i3_ + 2 : Nat) : Int)).toNat it0) (l3_.getD (((2 * i3_ + 1 : Nat) : Int)).toNat it0) := of_decide_eq_true h136
         have hkk_ : ltI (at_ l3_ (2 * i3_ + 2)) (at_ l3_ (2 * i3_ + 1)) := h136
         refine Rn 4 (Qo B50 794 2) [Qs B50 199, .blk 1, .loop J94, .blk 0] ⟨67, [(0, .own 2700 0), (1, I6 (i3_ : Int)), (4, .mth 81 2700 0), (5, I6 ((2 * i3_ + 1 : Nat) : Int)), (34, I6 (IntKind.i64.wrap (((2 * i3_ + 1 : Nat) : Int) + 1)))], [(1002, ⟨27, [I6 0, I6 0, I6 0, I6 0]⟩), (1004, ⟨27, [I6 ((l_.getD 0 it0).1), I6 ((l_.getD 0 it0).2.1), I6 ((l_.getD 0 it0).2.2.1), I6 ((l_.getD 0 it0).2.2.2.1)]⟩), (2007, ⟨27, [I6 z_.1, I6 z_.2.1, I6 z_.2.2.1, I6 z_.2.2.2.1]⟩), (2700, ⟨87, [VL D_ (m_ - 1) c_, I7 (i1_ : Int)]⟩)]⟩ ?_
         refine Kn 34 .i64 ((2 * i3_ + 2 : Nat) : Int) rfl (by rw [wi64 (by omega) (by omega)]; omega) ?_
         refine Rn 3 (Qc B50 199) [.blk 1, .loop J94, .blk 0] ⟨67, [(0, .own 2700 0), (1, I6 (i3_ : Int)), (4, .mth 81 2700 0), (5, I6 ((2 * i3_ + 2 : Nat) : Int))], [(1002, ⟨27, [I6 0, I6 0, I6 0, I6 0]⟩), (1004, ⟨27, [I6 ((l_.getD 0 it0).1), I6 ((l_.getD 0 it0).2.1), I6 ((l_.getD 0 it0).2.2.1), I6 ((l_.getD 0 it0).2.2.2.1)]⟩), (2007, ⟨27, [I6 z_.1, I6 z_.2.1, I6 z_.2.2.1, I6 z_.2.2.2.1]⟩), (2700, ⟨87, [VL D_ (m_ - 1) c_, I7 (i1_ : Int)]⟩)]⟩ ?_
         exact hY96 _ _ _ ⟨(2 * i3_ + 2), rfl, rfl, hG135, ⟨by omega, by omega, by omega, kid_r hkk_⟩⟩
        ·
         replace h136 : ¬ (ltI (l3_.getD (((2 * i3_ + 2 : Nat) : Int)).toNat it0) (l3_.getD (((2 * i3_ + 1 : Nat) : Int)).toNat it0)) := of_decide_eq_false h136
         have hkk_ : ¬ ltI (at_ l3_ (2 * i3_ + 2)) (at_ l3_ (2 * i3_ + 1)) := h136
         refine Rn 3 (Qc B50 199) [.blk 1, .loop J94, .blk 0] ⟨67, [(0, .own 2700 0), (1, I6 (i3_ : Int)), (4, .mth 81 2700 0), (5, I6 ((2 * i3_ + 1 : Nat) : Int))], [(1002, ⟨27, [I6 0, I6 0, I6 0, I6 0]⟩), (1004, ⟨27, [I6 ((l_.getD 0 it0).1), I6 ((l_.getD 0 it0).2.1), I6 ((l_.getD 0 it0).2.2.1), I6 ((l_.getD 0 it0).2.2.2.1)]⟩), (2007, ⟨27, [I6 z_.1, I6 z_.2.1, I6 z_.2.2.1, I6 z_.2.2.2.1]⟩), (2700, ⟨87, [VL D_ (m_ - 1) c_, I7 (i1_ : Int)]⟩)]⟩ ?_
         exact hY96 _ _ _ ⟨(2 * i3_ + 1), rfl, rfl, hG135, ⟨by omega, by omega, by omega, kid_l hkk_⟩⟩
       ·
        refine X.inline (f := 81) (l := [.own 2700 0, I6 ((2 * i3_ + 2 : Nat) : Int), I6 ((2 * i3_ + 1 : Nat) : Int)]) (fn := Try.f81) (c := B81) (by kernel_rfl) (by kernel_rfl) Try.func81 (by kernel_rfl) ?_
        intro Q137 M137 hM137 hQ137 fin137
        refine Rn 6 (Qc B81 6) [Qs B81 7] ⟨52, [(0, .own 3700 0), (1, I6 ((2 * i3_ + 2 : Nat) : Int)), (2, I6 ((2 * i3_ + 1 : Nat) : Int)), (6, VB false)], [(2002, ⟨27, [I6 0, I6 0, I6 0, I6 0]⟩), (2004, ⟨27, [I6 ((l_.getD 0 it0).1), I6 ((l_.getD 0 it0).2.1), I6 ((l_.getD 0 it0).2.2.1), I6 ((l_.getD 0 it0).2.2.2.1)]⟩), (3007, ⟨27, [I6 z_.1, I6 z_.2.1, I6 z_.2.2.1, I6 z_.2.2.2.1]⟩), (3700, ⟨87, [VL D_ (m_ - 1) c_, I7 (i1_ : Int)]⟩)]⟩ ?_
        have hr_d138 := hr
        have hr1_d138 := hr1
        refine Og 1 B81 6 14 [⟨some 0, 3700, 87, [VL D_ (m_ - 1) c_, I7 (i1_ : Int)]⟩] [(600, RR 89 5 D_ (m_ - 1) c_ (l3_.flatMap itC))] [] ⟨⟨fun _ h => (by cases h; rfl), rfl⟩, trivial⟩ (by intro p hp hn; simp only [List.mem_cons, List.not_mem_nil, or_false] at hp; rcases hp with rfl <;> first | (cases hn; done) | exact hM137 _ (Nat.le_of_ble_eq_true rfl)) (fun ρ0 => ?_)
        refine Tk 0 14 1 B81 6 (.own 3700 0) hQ137 ?_
        refine XD.nilOwn (i := 1) (l' := (lb 14 3)) (oA B81 (pa 6) 1) (x := .tmp 9) (b := 3700) (off := 0) hQ137 (by kernel_rfl) (by kernel_rfl) (by kernel_rfl) (by kernel_rfl) (by kernel_rfl) (by kernel_rfl) ?_
        refine Tk 2 14 7 B81 6 (.own 3700 0) hQ137 ?_
        refine Tk 3 14 15 B81 6 (VL D_ (m_ - 1) c_) hQ137 ?_
        refine Tk 4 14 31 B81 6 (I6 ((2 * i3_ + 2 : Nat) : Int)) hQ137 ?_
        have b139 : (0 : Int) ≤ ((2 * i3_ + 2 : Nat) : Int) := by omega
        have b140 : ((2 * i3_ + 2 : Nat) : Int) < (((m_ - 1) : Nat) : Int) := by omega
        have at141 : At G94 [(600, ⟨89, 5, .slice D_ (m_ - 1) c_, (m_ - 1), l3_.flatMap itC⟩)] D_ ((((2 * i3_ + 2 : Nat) : Int)).toNat * 5) [.int .i64 ((l3_.getD ((((2 * i3_ + 2 : Nat) : Int)).toNat) it0).1), .int .i64 ((l3_.getD ((((2 * i3_ + 2 : Nat) : Int)).toNat) it0).2.1), .int .i64 ((l3_.getD ((((2 * i3_ + 2 : Nat) : Int)).toNat) it0).2.2.1), .int .i64 ((l3_.getD ((((2 * i3_ + 2 : Nat) : Int)).toNat) it0).2.2.2.1), .int .u64 ((l3_.getD ((((2 * i3_ + 2 : Nat) : Int)).toNat) it0).2.2.2.2)] := At.rowF itC itC_len (i := 600) (r := ⟨89, 5, .slice D_ (m_ - 1) c_, (m_ - 1), l3_.flatMap itC⟩) it0 rfl rfl rfl (by rw [hln3_]; omega)
        refine Dx 5 14 63 B81 6 84 89 5 D_ (m_ - 1) c_ .i64 ((2 * i3_ + 2 : Nat) : Int) (.tmp 12) (.tmp 13) hQ137 b139 b140 (rowSome (i := 600) (q := (RR 89 5 D_ (m_ - 1) c_ (l3_.flatMap itC))) rfl rfl (flat_pos itC_len (by decide) (by rw [hln3_]; omega))) ?_
        refine Tk 6 14 127 B81 6 (.own 3700 0) hQ137 ?_
        refine XD.nilOwn (i := 7) (l' := (lb 14 255)) (oA B81 (pa 6) 7) (x := .tmp 15) (b := 3700) (off := 0) hQ137 (by kernel_rfl) (by kernel_rfl) (by kernel_rfl) (by kernel_rfl) (by kernel_rfl) (by kernel_rfl) ?_
        refine Tk 8 14 511 B81 6 (.own 3700 0) hQ137 ?_
        refine Tk 9 14 1023 B81 6 (VL D_ (m_ - 1) c_) hQ137 ?_
        refine Tk 10 14 2047 B81 6 (I6 ((2 * i3_ + 1 : Nat) : Int)) hQ137 ?_
        have b142 : (0 : Int) ≤ ((2 * i3_ + 1 : Nat) : Int) := by omega
        have b143 : ((2 * i3_ + 1 : Nat) : Int) < (((m_ - 1) : Nat) : Int) := by omega
        have at144 : At G94 [(600, ⟨89, 5, .slice D_ (m_ - 1) c_, (m_ - 1), l3_.flatMap itC⟩)] D_ ((((2 * i3_ + 1 : Nat) : Int)).toNat * 5) [.int .i64 ((l3_.getD ((((2 * i3_ + 1 : Nat) : Int)).toNat) it0).1), .int .i64 ((l3_.getD ((((2 * i3_ + 1 : Nat) : Int)).toNat) it0).2.1), .int .i64 ((l3_.getD ((((2 * i3_ + 1 : Nat) : Int)).toNat) it0).2.2.1), .int .i64 ((l3_.getD ((((2 * i3_ + 1 : Nat) : Int)).toNat) it0).2.2.2.1), .int .u64 ((l3_.getD ((((2 * i3_ + 1 : Nat) : Int)).toNat) it0).2.2.2.2)] := At.rowF itC itC_len (i := 600) (r := ⟨89, 5, .slice D_ (m_ - 1) c_, (m_ - 1), l3_.flatMap itC⟩) it0 rfl rfl rfl (by rw [hln3_]; omega)
        refine Dx 11 14 4095 B81 6 84 89 5 D_ (m_ - 1) c_ .i64 ((2 * i3_ + 1 : Nat) : Int) (.tmp 18) (.tmp 19) hQ137 b142 b143 (rowSome (i := 600) (q := (RR 89 5 D_ (m_ - 1) c_ (l3_.flatMap itC))) rfl rfl (flat_pos itC_len (by decide) (by rw [hln3_]; omega))) ?_
        refine Ts [12, 13] 14 16383 0 2 hQ137 ?_
        refine XD.done (by kernel_rfl) ?_
        refine Rn 3 (Qc B81 28) [Qs B81 29, Qs B81 15] ⟨52, [(6, VB false), (7, .v (elt D_ ((((2 * i3_ + 2 : Nat) : Int)).toNat * 5))), (8, .v (elt D_ ((((2 * i3_ + 1 : Nat) : Int)).toNat * 5)))], [(2002, ⟨27, [I6 0, I6 0, I6 0, I6 0]⟩), (2004, ⟨27, [I6 ((l_.getD 0 it0).1), I6 ((l_.getD 0 it0).2.1), I6 ((l_.getD 0 it0).2.2.1), I6 ((l_.getD 0 it0).2.2.2.1)]⟩), (3007, ⟨27, [I6 z_.1, I6 z_.2.1, I6 z_.2.2.1, I6 z_.2.2.2.1]⟩), (3700, ⟨87, [VL D_ (m_ - 1) c_, I7 (i1_ : Int)]⟩)]⟩ ?_
        have hr_d145 := hr
        have hr1_d145 := hr1
        refine Og 2 B81 28 11 [] [(600, RR 89 5 D_ (m_ - 1) c_ (l3_.flatMap itC))] [] trivial (by simp) (fun ρ0 => ?_)
        refine Tk 0 11 1 B81 28 (.v (elt D_ ((((2 * i3_ + 2 : Nat) : Int)).toNat * 5))) hQ137 ?_
        refine XD.nilElt (i := 1) (l' := (lb 11 3)) (oA B81 (pa 28) 1) (x := .tmp 21) (A := D_) (j := (((2 * i3_ + 2 : Nat) : Int)).toNat * 5) hQ137 (by kernel_rfl) (by kernel_rfl) (by kernel_rfl) (by kernel_rfl) (by kernel_rfl) (by kernel_rfl) ?_
        refine XD.field (i := 2) (l' := (lb 11 7)) (o := (oA B81 (pa 28) 2)) (t := 89) (f := 0) (n := 0) (A := D_) (j := (((2 * i3_ + 2 : Nat) : Int)).toNat * 5) (x := .tmp 22) hQ137 (by kernel_rfl) (by kernel_rfl) (by kernel_rfl) (by kernel_rfl) (by kernel_rfl) (by kernel_rfl) (by kernel_rfl) ?_
        refine XD.field (i := 3) (l' := (lb 11 15)) (o := (oA B81 (pa 28) 3)) (t := 27) (f := 0) (n := 0) (A := D_) (j := (((2 * i3_ + 2 : Nat) : Int)).toNat * 5 + 0) (x := .tmp 23) hQ137 (by kernel_rfl) (by kernel_rfl) (by kernel_rfl) (by kernel_rfl) (by kernel_rfl) (by kernel_rfl) (by kernel_rfl) ?_
        have at146 : At G94 [(600, ⟨89, 5, .slice D_ (m_ - 1) c_, (m_ - 1), l3_.flatMap itC⟩)] D_ ((((2 * i3_ + 2 : Nat) : Int)).toNat * 5) [.int .i64 ((l3_.getD ((((2 * i3_ + 2 : Nat) : Int)).toNat) it0).1), .int .i64 ((l3_.getD ((((2 * i3_ + 2 : Nat) : Int)).toNat) it0).2.1), .int .i64 ((l3_.getD ((((2 * i3_ + 2 : Nat) : Int)).toNat) it0).2.2.1), .int .i64 ((l3_.getD ((((2 * i3_ + 2 : Nat) : Int)).toNat) it0).2.2.2.1), .int .u64 ((l3_.getD ((((2 * i3_ + 2 : Nat) : Int)).toNat) it0).2.2.2.2)] := At.rowF itC itC_len (i := 600) (r := ⟨89, 5, .slice D_ (m_ - 1) c_, (m_ - 1), l3_.flatMap itC⟩) it0 rfl rfl rfl (by rw [hln3_]; omega)
        refine Dl 4 11 31 B81 28 2 D_ ((((2 * i3_ + 2 : Nat) : Int)).toNat * 5 + 0 + 0) (.tmp 24) (N6 ((l3_.getD ((((2 * i3_ + 2 : Nat) : Int)).toNat) it0).1)) [N6 ((l3_.getD ((((2 * i3_ + 2 : Nat) : Int)).toNat) it0).1)] hQ137 (at146.part 0 1) ?_
        refine Tk 5 11 63 B81 28 (.v (elt D_ ((((2 * i3_ + 1 : Nat) : Int)).toNat * 5))) hQ137 ?_
        refine XD.nilElt (i := 6) (l' := (lb 11 127)) (oA B81 (pa 28) 6) (x := .tmp 26) (A := D_) (j := (((2 * i3_ + 1 : Nat) : Int)).toNat * 5) hQ137 (by kernel_rfl) (by kernel_rfl) (by kernel_rfl) (by kernel_rfl) (by kernel_rfl) (by kernel_rfl) ?_
        refine XD.field (i := 7) (l' := (lb 11 255)) (o := (oA B81 (pa 28) 7)) (t := 89) (f := 0) (n := 0) (A := D_) (j := (((2 * i3_ + 1 : Nat) : Int)).toNat * 5) (x := .tmp 27) hQ137 (by kernel_rfl) (by kernel_rfl) (by kernel_rfl) (by kernel_rfl) (by kernel_rfl) (by kernel_rfl) (by kernel_rfl) ?_
        refine XD.field (i := 8) (l' := (lb 11 511)) (o := (oA B81 (pa 28) 8)) (t := 27) (f := 0) (n := 0) (A := D_) (j := (((2 * i3_ + 1 : Nat) : Int)).toNat * 5 + 0) (x := .tmp 28) hQ137 (by kernel_rfl) (by kernel_rfl) (by kernel_rfl) (by kernel_rfl) (by kernel_rfl) (by kernel_rfl) (by kernel_rfl) ?_
        have at147 : At G94 [(600, ⟨89, 5, .slice D_ (m_ - 1) c_, (m_ - 1), l3_.flatMap itC⟩)] D_ ((((2 * i3_ + 1 : Nat) : Int)).toNat * 5) [.int .i64 ((l3_.getD ((((2 * i3_ + 1 : Nat) : Int)).toNat) it0).1), .int .i64 ((l3_.getD ((((2 * i3_ + 1 : Nat) : Int)).toNat) it0).2.1), .int .i64 ((l3_.getD ((((2 * i3_ + 1 : Nat) : Int)).toNat) it0).2.2.1), .int .i64 ((l3_.getD ((((2 * i3_ + 1 : Nat) : Int)).toNat) it0).2.2.2.1), .int .u64 ((l3_.getD ((((2 * i3_ + 1 : Nat) : Int)).toNat) it0).2.2.2.2)] := At.rowF itC itC_len (i := 600) (r := ⟨89, 5, .slice D_ (m_ - 1) c_, (m_ - 1), l3_.flatMap itC⟩) it0 rfl rfl rfl (by rw [hln3_]; omega)
        refine Dl 9 11 1023 B81 28 2 D_ ((((2 * i3_ + 1 : Nat) : Int)).toNat * 5 + 0 + 0) (.tmp 29) (N6 ((l3_.getD ((((2 * i3_ + 1 : Nat) : Int)).toNat) it0).1)) [N6 ((l3_.getD ((((2 * i3_ + 1 : Nat) : Int)).toNat) it0).1)] hQ137 (at147.part 0 1) ?_
        refine Ts [10] 11 2047 0 1 hQ137 ?_
        refine XD.done (by kernel_rfl) ?_
        refine Rn 1 (Qc B81 29) [Qs B81 15] ⟨52, [(6, VB false), (7, .v (elt D_ ((((2 * i3_ + 2 : Nat) : Int)).toNat * 5))), (8, .v (elt D_ ((((2 * i3_ + 1 : Nat) : Int)).toNat * 5))), (31, VB (((l3_.getD ((((2 * i3_ + 2 : Nat) : Int)).toNat) it0).1) != ((l3_.getD ((((2 * i3_ + 1 : Nat) : Int)).toNat) it0).1)))], [(2002, ⟨27, [I6 0, I6 0, I6 0, I6 0]⟩), (2004, ⟨27, [I6 ((l_.getD 0 it0).1), I6 ((l_.getD 0 it0).2.1), I6 ((l_.getD 0 it0).2.2.1), I6 ((l_.getD 0 it0).2.2.2.1)]⟩), (3007, ⟨27, [I6 z_.1, I6 z_.2.1, I6 z_.2.2.1, I6 z_.2.2.2.1]⟩), (3700, ⟨87, [VL D_ (m_ - 1) c_, I7 (i1_ : Int)]⟩)]⟩ ?_
        refine X.split 31 rfl (fun h148 => ?_) (fun h148 => ?_)
        ·
         replace h148 : ((l3_.getD ((((2 * i3_ + 2 : Nat) : Int)).toNat) it0).1) ≠ ((l3_.getD ((((2 * i3_ + 1 : Nat) : Int)).toNat) it0).1) := by simpa using h148
         refine Rn 2 (Qc B81 116) [Qs B81 117, Qs B81 15] ⟨52, [(6, VB false), (7, .v (elt D_ ((((2 * i3_ + 2 : Nat) : Int)).toNat * 5))), (8, .v (elt D_ ((((2 * i3_ + 1 : Nat) : Int)).toNat * 5)))], [(2002, ⟨27, [I6 0, I6 0, I6 0, I6 0]⟩), (2004, ⟨27, [I6 ((l_.getD 0 it0).1), I6 ((l_.getD 0 it0).2.1), I6 ((l_.getD 0 it0).2.2.1), I6 ((l_.getD 0 it0).2.2.2.1)]⟩), (3007, ⟨27, [I6 z_.1, I6 z_.2.1, I6 z_.2.2.1, I6 z_.2.2.2.1]⟩), (3700, ⟨87, [VL D_ (m_ - 1) c_, I7 (i1_ : Int)]⟩)]⟩ ?_
         have hr_d149 := hr
         have hr1_d149 := hr1
         refine Og 3 B81 116 12 [] [(600, RR 89 5 D_ (m_ - 1) c_ (l3_.flatMap itC))] [] trivial (by simp) (fun ρ0 => ?_)
         refine Tk 0 12 1 B81 116 (.v (elt D_ ((((2 * i3_ + 2 : Nat) : Int)).toNat * 5))) hQ137 ?_
         refine XD.nilElt (i := 1) (l' := (lb 12 3)) (oA B81 (pa 116) 1) (x := .tmp 32) (A := D_) (j := (((2 * i3_ + 2 : Nat) : Int)).toNat * 5) hQ137 (by kernel_rfl) (by kernel_rfl) (by kernel_rfl) (by kernel_rfl) (by kernel_rfl) (by kernel_rfl) ?_
         refine XD.field (i := 2) (l' := (lb 12 7)) (o := (oA B81 (pa 116) 2)) (t := 89) (f := 0) (n := 0) (A := D_) (j := (((2 * i3_ + 2 : Nat) : Int)).toNat * 5) (x := .tmp 33) hQ137 (by kernel_rfl) (by kernel_rfl) (by kernel_rfl) (by kernel_rfl) (by kernel_rfl) (by kernel_rfl) (by kernel_rfl) ?_
         refine XD.field (i := 3) (l' := (lb 12 15)) (o := (oA B81 (pa 116) 3)) (t := 27) (f := 0) (n := 0) (A := D_) (j := (((2 * i3_ + 2 : Nat) : Int)).toNat * 5 + 0) (x := .tmp 34) hQ137 (by kernel_rfl) (by kernel_rfl) (by kernel_rfl) (by kernel_rfl) (by kernel_rfl) (by kernel_rfl) (by kernel_rfl) ?_
         have at150 : At G94 [(600, ⟨89, 5, .slice D_ (m_ - 1) c_, (m_ - 1), l3_.flatMap itC⟩)] D_ ((((2 * i3_ + 2 : Nat) : Int)).toNat * 5) [.int .i64 ((l3_.getD ((((2 * i3_ + 2 : Nat) : Int)).toNat) it0).1), .int .i64 ((l3_.getD ((((2 * i3_ + 2 : Nat) : Int)).toNat) it0).2.1), .int .i64 ((l3_.getD ((((2 * i3_ + 2 : Nat) : Int)).toNat) it0).2.2.1), .int .i64 ((l3_.getD ((((2 * i3_ + 2 : Nat) : Int)).toNat) it0).2.2.2.1), .int .u64 ((l3_.getD ((((2 * i3_ + 2 : Nat) : Int)).toNat) it0).2.2.2.2)] := At.rowF itC itC_len (i := 600) (r := ⟨89, 5, .slice D_ (m_ - 1) c_, (m_ - 1), l3_.flatMap itC⟩) it0 rfl rfl rfl (by rw [hln3_]; omega)
         refine Dl 4 12 31 B81 116 2 D_ ((((2 * i3_ + 2 : Nat) : Int)).toNat * 5 + 0 + 0) (.tmp 35) (N6 ((l3_.getD ((((2 * i3_ + 2 : Nat) : Int)).toNat) it0).1)) [N6 ((l3_.getD ((((2 * i3_ + 2 : Nat) : Int)).toNat) it0).1)] hQ137 (at150.part 0 1) ?_
         refine Tk 5 12 63 B81 116 (.v (elt D_ ((((2 * i3_ + 1 : Nat) : Int)).toNat * 5))) hQ137 ?_
         refine XD.nilElt (i := 6) (l' := (lb 12 127)) (oA B81 (pa 116) 6) (x := .tmp 37) (A := D_) (j := (((2 * i3_ + 1 : Nat) : Int)).toNat * 5) hQ137 (by kernel_rfl) (by kernel_rfl) (by kernel_rfl) (by kernel_rfl) (by kernel_rfl) (by kernel_rfl) ?_
         refine XD.field (i := 7) (l' := (lb 12 255)) (o := (oA B81 (pa 116) 7)) (t := 89) (f := 0) (n := 0) (A := D_) (j := (((2 * i3_ + 1 : Nat) : Int)).toNat * 5) (x := .tmp 38) hQ137 (by kernel_rfl) (by kernel_rfl) (by kernel_rfl) (by kernel_rfl) (by kernel_rfl) (by kernel_rfl) (by kernel_rfl) ?_
         refine XD.field (i := 8) (l' := (lb 12 511)) (o := (oA B81 (pa 116) 8)) (t := 27) (f := 0) (n := 0) (A := D_) (j := (((2 * i3_ + 1 : Nat) : Int)).toNat * 5 + 0) (x := .tmp 39) hQ137 (by kernel_rfl) (by kernel_rfl) (by kernel_rfl) (by kernel_rfl) (by kernel_rfl) (by kernel_rfl) (by kernel_rfl) ?_
         have at151 : At G94 [(600, ⟨89, 5, .slice D_ (m_ - 1) c_, (m_ - 1), l3_.flatMap itC⟩)] D_ ((((2 * i3_ + 1 : Nat) : Int)).toNat * 5) [.int .i64 ((l3_.getD ((((2 * i3_ + 1 : Nat) : Int)).toNat) it0).1), .int .i64 ((l3_.getD ((((2 * i3_ + 1 : Nat) : Int)).toNat) it0).2.1), .int .i64 ((l3_.getD ((((2 * i3_ + 1 : Nat) : Int)).toNat) it0).2.2.1), .int .i64 ((l3_.getD ((((2 * i3_ + 1 : Nat) : Int)).toNat) it0).2.2.2.1), .int .u64 ((l3_.getD ((((2 * i3_ + 1 : Nat) : Int)).toNat) it0).2.2.2.2)] := At.rowF itC itC_len (i := 600) (r := ⟨89, 5, .slice D_ (m_ - 1) c_, (m_ - 1), l3_.flatMap itC⟩) it0 rfl rfl rfl (by rw [hln3_]; omega)
         refine Dl 9 12 1023 B81 116 2 D_ ((((2 * i3_ + 1 : Nat) : Int)).toNat * 5 + 0 + 0) (.tmp 40) (N6 ((l3_.getD ((((2 * i3_ + 1 : Nat) : Int)).toNat) it0).1)) [N6 ((l3_.getD ((((2 * i3_ + 1 : Nat) : Int)).toNat) it0).1)] hQ137 (at151.part 0 1) ?_
         refine Ts [10, 11] 12 4095 0 2 hQ137 ?_
         refine XD.done (by kernel_rfl) ?_
         refine Rn 3 (.ex .ret) [] ⟨52, [(6, VB (decide ((l3_.getD ((((2 * i3_ + 2 : Nat) : Int)).toNat) it0).1 < (l3_.getD ((((2 * i3_ + 1 : Nat) : Int)).toNat) it0).1)))], [(2002, ⟨27, [I6 0, I6 0, I6 0, I6 0]⟩), (2004, ⟨27, [I6 ((l_.getD 0 it0).1), I6 ((l_.getD 0 it0).2.1), I6 ((l_.getD 0 it0).2.2.1), I6 ((l_.getD 0 it0).2.2.2.1)]⟩), (3007, ⟨27, [I6 z_.1, I6 z_.2.1, I6 z_.2.2.1, I6 z_.2.2.2.1]⟩), (3700, ⟨87, [VL D_ (m_ - 1) c_, I7 (i1_ : Int)]⟩)]⟩ ?_
         refine fin137 _ _ _ _ [.bool (decide ((l3_.getD ((((2 * i3_ + 2 : Nat) : Int)).toNat) it0).1 < (l3_.getD ((((2 * i3_ + 1 : Nat) : Int)).toNat) it0).1))] [(1002, ⟨27, [I6 0, I6 0, I6 0, I6 0]⟩), (1004, ⟨27, [I6 ((l_.getD 0 it0).1), I6 ((l_.getD 0 it0).2.1), I6 ((l_.getD 0 it0).2.2.1), I6 ((l_.getD 0 it0).2.2.2.1)]⟩), (2007, ⟨27, [I6 z_.1, I6 z_.2.1, I6 z_.2.2.1, I6 z_.2.2.2.1]⟩), (2700, ⟨87, [VL D_ (m_ - 1) c_, I7 (i1_ : Int)]⟩)] (.inl rfl) (by kernel_rfl) (by kernel_rfl) ?_
         refine Rn 3 (Qc B50 397) [Qs B50 199, .blk 1, .loop J94, .blk 0] ⟨67, [(0, .own 2700 0), (1, I6 (i3_ : Int)), (4, .mth 81 2700 0), (5, I6 ((2 * i3_ + 1 : Nat) : Int)), (32, VB (decide ((l3_.getD ((((2 * i3_ + 2 : Nat) : Int)).toNat) it0).1 < (l3_.getD ((((2 * i3_ + 1 : Nat) : Int)).toNat) it0).1)))], [(1002, ⟨27, [I6 0, I6 0, I6 0, I6 0]⟩), (1004, ⟨27, [I6 ((l_.getD 0 it0).1), I6 ((l_.getD 0 it0).2.1), I6 ((l_.getD 0 it0).2.2.1), I6 ((l_.getD 0 it0).2.2.2.1)]⟩), (2007, ⟨27, [I6 z_.1, I6 z_.2.1, I6 z_.2.2.1, I6 z_.2.2.2.1]⟩), (2700, ⟨87, [VL D_ (m_ - 1) c_, I7 (i1_ : Int)]⟩)]⟩ ?_
         refine X.castS ⟨67, [(0, .own 2700 0), (1, I6 (i3_ : Int)), (4, .mth 81 2700 0), (5, I6 ((2 * i3_ + 1 : Nat) : Int)), (32, VB (decide (ltI (l3_.getD (((2 * i3_ + 2 : Nat) : Int)).toNat it0) (l3_.getD (((2 * i3_ + 1 : Nat) : Int)).toNat it0))))], [(1002, ⟨27, [I6 0, I6 0, I6 0, I6 0]⟩), (1004, ⟨27, [I6 ((l_.getD 0 it0).1), I6 ((l_.getD 0 it0).2.1), I6 ((l_.getD 0 it0).2.2.1), I6 ((l_.getD 0 it0).2.2.2.1)]⟩), (2007, ⟨27, [I6 z_.1, I6 z_.2.1, I6 z_.2.2.1, I6 z_.2.2.2.1]⟩), (2700, ⟨87, [VL D_ (m_ - 1) c_, I7 (i1_ : Int)]⟩)]⟩ (congrArg (fun zb_ : Bool => (⟨67, [(0, .own 2700 0), (1, I6 (i3_ : Int)), (4, .mth 81 2700 0), (5, I6 ((2 * i3_ + 1 : Nat) : Int)), (32, VB zb_)], [(1002, ⟨27, [I6 0, I6 0, I6 0, I6 0]⟩), (1004, ⟨27, [I6 ((l_.getD 0 it0).1), I6 ((l_.getD 0 it0).2.1), I6 ((l_.getD 0 it0).2.2.1), I6 ((l_.getD 0 it0).2.2.2.1)]⟩), (2007, ⟨27, [I6 z_.1, I6 z_.2.1, I6 z_.2.2.1, I6 z_.2.2.2.1]⟩), (2700, ⟨87, [VL D_ (m_ - 1) c_, I7 (i1_ : Int)]⟩)]⟩ : S)) (show (decide ((l3_.getD ((((2 * i3_ + 2 : Nat) : Int)).toNat) it0).1 < (l3_.getD ((((2 * i3_ + 1 : Nat) : Int)).toNat) it0).1)) = (decide (ltI (l3_.getD (((2 * i3_ + 2 : Nat) : Int)).toNat it0) (l3_.getD (((2 * i3_ + 1 : Nat) : Int)).toNat it0))) by first | exact congrArg (fun b_ => !b_) (decide_eq_decide.mpr (by unfold ltI; omega)) | exact decide_eq_decide.mpr (by unfold ltI; omega))) ?_
         exact hY135 _ (Ge.refl _ _)
        ·
         replace h148 : ((l3_.getD ((((2 * i3_ + 2 : Nat) : Int)).toNat) it0).1) = ((l3_.getD ((((2 * i3_ + 1 : Nat) : Int)).toNat) it0).1) := by simpa using h148
         refine Rn 4 (Qc B81 30) [Qs B81 31] ⟨52, [(6, VB false), (7, .v (elt D_ ((((2 * i3_ + 2 : Nat) : Int)).toNat * 5))), (8, .v (elt D_ ((((2 * i3_ + 1 : Nat) : Int)).toNat * 5)))], [(2002, ⟨27, [I6 0, I6 0, I6 0, I6 0]⟩), (2004, ⟨27, [I6 ((l_.getD 0 it0).1), I6 ((l_.getD 0 it0).2.1), I6 ((l_.getD 0 it0).2.2.1), I6 ((l_.getD 0 it0).2.2.2.1)]⟩), (3007, ⟨27, [I6 z_.1, I6 z_.2.1, I6 z_.2.2.1, I6 z_.2.2.2.1]⟩), (3700, ⟨87, [VL D_ (m_ - 1) c_, I7 (i1_ : Int)]⟩)]⟩ ?_
         have hr_d152 := hr
         have hr1_d152 := hr1
         refine Og 4 B81 30 10 [] [(600, RR 89 5 D_ (m_ - 1) c_ (l3_.flatMap itC))] [] trivial (by simp) (fun ρ0 => ?_)
         refine Tk 0 10 1 B81 30 (.v (elt D_ ((((2 * i3_ + 2 : Nat) : Int)).toNat * 5))) hQ137 ?_
         refine XD.nilElt (i := 1) (l' := (lb 10 3)) (oA B81 (pa 30) 1) (x := .tmp 43) (A := D_) (j := (((2 * i3_ + 2 : Nat) : Int)).toNat * 5) hQ137 (by kernel_rfl) (by kernel_rfl) (by kernel_rfl) (by kernel_rfl) (by kernel_rfl) (by kernel_rfl) ?_
         refine XD.field (i := 2) (l' := (lb 10 7)) (o := (oA B81 (pa 30) 2)) (t := 89) (f := 1) (n := 4) (A := D_) (j := (((2 * i3_ + 2 : Nat) : Int)).toNat * 5) (x := .tmp 44) hQ137 (by kernel_rfl) (by kernel_rfl) (by kernel_rfl) (by kernel_rfl) (by kernel_rfl) (by kernel_rfl) (by kernel_rfl) ?_
         have at153 : At G94 [(600, ⟨89, 5, .slice D_ (m_ - 1) c_, (m_ - 1), l3_.flatMap itC⟩)] D_ ((((2 * i3_ + 2 : Nat) : Int)).toNat * 5) [.int .i64 ((l3_.getD ((((2 * i3_ + 2 : Nat) : Int)).toNat) it0).1), .int .i64 ((l3_.getD ((((2 * i3_ + 2 : Nat) : Int)).toNat) it0).2.1), .int .i64 ((l3_.getD ((((2 * i3_ + 2 : Nat) : Int)).toNat) it0).2.2.1), .int .i64 ((l3_.getD ((((2 * i3_ + 2 : Nat) : Int)).toNat) it0).2.2.2.1), .int .u64 ((l3_.getD ((((2 * i3_ + 2 : Nat) : Int)).toNat) it0).2.2.2.2)] := At.rowF itC itC_len (i := 600) (r := ⟨89, 5, .slice D_ (m_ - 1) c_, (m_ - 1), l3_.flatMap itC⟩) it0 rfl rfl rfl (by rw [hln3_]; omega)
         refine Dl 3 10 15 B81 30 85 D_ ((((2 * i3_ + 2 : Nat) : Int)).toNat * 5 + 4) (.tmp 45) (N7 ((l3_.getD ((((2 * i3_ + 2 : Nat) : Int)).toNat) it0).2.2.2.2)) [N7 ((l3_.getD ((((2 * i3_ + 2 : Nat) : Int)).toNat) it0).2.2.2.2)] hQ137 (at153.part 4 1) ?_
         refine Tk 4 10 31 B81 30 (.v (elt D_ ((((2 * i3_ + 1 : Nat) : Int)).toNat * 5))) hQ137 ?_
         refine XD.nilElt (i := 5) (l' := (lb 10 63)) (oA B81 (pa 30) 5) (x := .tmp 47) (A := D_) (j := (((2 * i3_ + 1 : Nat) : Int)).toNat * 5) hQ137 (by kernel_rfl) (by kernel_rfl) (by kernel_rfl) (by kernel_rfl) (by kernel_rfl) (by kernel_rfl) ?_
         refine XD.field (i := 6) (l' := (lb 10 127)) (o := (oA B81 (pa 30) 6)) (t := 89) (f := 1) (n := 4) (A := D_) (j := (((2 * i3_ + 1 : Nat) : Int)).toNat * 5) (x := .tmp 48) hQ137 (by kernel_rfl) (by kernel_rfl) (by kernel_rfl) (by kernel_rfl) (by kernel_rfl) (by kernel_rfl) (by kernel_rfl) ?_
         have at154 : At G94 [(600, ⟨89, 5, .slice D_ (m_ - 1) c_, (m_ - 1), l3_.flatMap itC⟩)] D_ ((((2 * i3_ + 1 : Nat) : Int)).toNat * 5) [.int .i64 ((l3_.getD ((((2 * i3_ + 1 : Nat) : Int)).toNat) it0).1), .int .i64 ((l3_.getD ((((2 * i3_ + 1 : Nat) : Int)).toNat) it0).2.1), .int .i64 ((l3_.getD ((((2 * i3_ + 1 : Nat) : Int)).toNat) it0).2.2.1), .int .i64 ((l3_.getD ((((2 * i3_ + 1 : Nat) : Int)).toNat) it0).2.2.2.1), .int .u64 ((l3_.getD ((((2 * i3_ + 1 : Nat) : Int)).toNat) it0).2.2.2.2)] := At.rowF itC itC_len (i := 600) (r := ⟨89, 5, .slice D_ (m_ - 1) c_, (m_ - 1), l3_.flatMap itC⟩) it0 rfl rfl rfl (by rw [hln3_]; omega)
         refine Dl 7 10 255 B81 30 85 D_ ((((2 * i3_ + 1 : Nat) : Int)).toNat * 5 + 4) (.tmp 49) (N7 ((l3_.getD ((((2 * i3_ + 1 : Nat) : Int)).toNat) it0).2.2.2.2)) [N7 ((l3_.getD ((((2 * i3_ + 1 : Nat) : Int)).toNat) it0).2.2.2.2)] hQ137 (at154.part 4 1) ?_
         refine Ts [8, 9] 10 1023 0 2 hQ137 ?_
         refine XD.done (by kernel_rfl) ?_
         refine Rn 2 (.ex .ret) [] ⟨52, [(6, VB (decide ((l3_.getD ((((2 * i3_ + 2 : Nat) : Int)).toNat) it0).2.2.2.2 < (l3_.getD ((((2 * i3_ + 1 : Nat) : Int)).toNat) it0).2.2.2.2)))], [(2002, ⟨27, [I6 0, I6 0, I6 0, I6 0]⟩), (2004, ⟨27, [I6 ((l_.getD 0 it0).1), I6 ((l_.getD 0 it0).2.1), I6 ((l_.getD 0 it0).2.2.1), I6 ((l_.getD 0 it0).2.2.2.1)]⟩), (3007, ⟨27, [I6 z_.1, I6 z_.2.1, I6 z_.2.2.1, I6 z_.2.2.2.1]⟩), (3700, ⟨87, [VL D_ (m_ - 1) c_, I7 (i1_ : Int)]⟩)]⟩ ?_
         refine fin137 _ _ _ _ [.bool (decide ((l3_.getD ((((2 * i3_ + 2 : Nat) : Int)).toNat) it0).2.2.2.2 < (l3_.getD ((((2 * i3_ + 1 : Nat) : Int)).toNat) it0).2.2.2.2))] [(1002, ⟨27, [I6 0, I6 0, I6 0, I6 0]⟩), (1004, ⟨27, [I6 ((l_.getD 0 it0).1), I6 ((l_.getD 0 it0).2.1), I6 ((l_.getD 0 it0).2.2.1), I6 ((l_.getD 0 it0).2.2.2.1)]⟩), (2007, ⟨27, [I6 z_.1, I6 z_.2.1, I6 z_.2.2.1, I6 z_.2.2.2.1]⟩), (2700, ⟨87, [VL D_ (m_ - 1) c_, I7 (i1_ : Int)]⟩)] (.inl rfl) (by kernel_rfl) (by kernel_rfl) ?_
         refine Rn 3 (Qc B50 397) [Qs B50 199, .blk 1, .loop J94, .blk 0] ⟨67, [(0, .own 2700 0), (1, I6 (i3_ : Int)), (4, .mth 81 2700 0), (5, I6 ((2 * i3_ + 1 : Nat) : Int)), (32, VB (decide ((l3_.getD ((((2 * i3_ + 2 : Nat) : Int)).toNat) it0).2.2.2.2 < (l3_.getD ((((2 * i3_ + 1 : Nat) : Int)).toNat) it0).2.2.2.2)))], [(1002, ⟨27, [I6 0, I6 0, I6 0, I6 0]⟩), (1004, ⟨27, [I6 ((l_.getD 0 it0).1), I6 ((l_.getD 0 it0).2.1), I6 ((l_.getD 0 it0).2.2.1), I6 ((l_.getD 0 it0).2.2.2.1)]⟩), (2007, ⟨27, [I6 z_.1, I6 z_.2.1, I6 z_.2.2.1, I6 z_.2.2.2.1]⟩), (2700, ⟨87, [VL D_ (m_ - 1) c_, I7 (i1_ : Int)]⟩)]⟩ ?_
         refine X.castS ⟨67, [(0, .own 2700 0), (1, I6 (i3_ : Int)), (4, .mth 81 2700 0), (5, I6 ((2 * i3_ + 1 : Nat) : Int)), (32, VB (decide (ltI (l3_.getD (((2 * i3_ + 2 : Nat) : Int)).toNat it0) (l3_.getD (((2 * i3_ + 1 : Nat) : Int)).toNat it0))))], [(1002, ⟨27, [I6 0, I6 0, I6 0, I6 0]⟩), (1004, ⟨27, [I6 ((l_.getD 0 it0).1), I6 ((l_.getD 0 it0).2.1), I6 ((l_.getD 0 it0).2.2.1), I6 ((l_.getD 0 it0).2.2.2.1)]⟩), (2007, ⟨27, [I6 z_.1, I6 z_.2.1, I6 z_.2.2.1, I6 z_.2.2.2.1]⟩), (2700, ⟨87, [VL D_ (m_ - 1) c_, I7 (i1_ : Int)]⟩)]⟩ (congrArg (fun zb_ : Bool => (⟨67, [(0, .own 2700 0), (1, I6 (i3_ : Int)), (4, .mth 81 2700 0), (5, I6 ((2 * i3_ + 1 : Nat) : Int)), (32, VB zb_)], [(1002, ⟨27, [I6 0, I6 0, I6 0, I6 0]⟩), (1004, ⟨27, [I6 ((l_.getD 0 it0).1), I6 ((l_.getD 0 it0).2.1), I6 ((l_.getD 0 it0).2.2.1), I6 ((l_.getD 0 it0).2.2.2.1)]⟩), (2007, ⟨27, [I6 z_.1, I6 z_.2.1, I6 z_.2.2.1, I6 z_.2.2.2.1]⟩), (2700, ⟨87, [VL D_ (m_ - 1) c_, I7 (i1_ : Int)]⟩)]⟩ : S)) (show (decide ((l3_.getD ((((2 * i3_ + 2 : Nat) : Int)).toNat) it0).2.2.2.2 < (l3_.getD ((((2 * i3_ + 1 : Nat) : Int)).toNat) it0).2.2.2.2)) = (decide (ltI (l3_.getD (((2 * i3_ + 2 : Nat) : Int)).toNat it0) (l3_.getD (((2 * i3_ + 1 : Nat) : Int)).toNat it0))) by first | exact congrArg (fun b_ => !b_) (decide_eq_decide.mpr (by unfold ltI; omega)) | exact decide_eq_decide.mpr (by unfold ltI; omega))) ?_
         exact hY135 _ (Ge.refl _ _)
      ·
       replace h134 : ¬ (((2 * i3_ + 2 : Nat) : Int) < (((m_ - 1) : Nat) : Int)) := of_decide_eq_false h134
       refine Rn 11 (Qc B50 199) [.blk 1, .loop J94, .blk 0] ⟨67, [(0, .own 2700 0), (1, I6 (i3_ : Int)), (4, .mth 81 2700 0), (5, I6 ((2 * i3_ + 1 : Nat) : Int))], [(1002, ⟨27, [I6 0, I6 0, I6 0, I6 0]⟩), (1004, ⟨27, [I6 ((l_.getD 0 it0).1), I6 ((l_.getD 0 it0).2.1), I6 ((l_.getD 0 it0).2.2.1), I6 ((l_.getD 0 it0).2.2.2.1)]⟩), (2007, ⟨27, [I6 z_.1, I6 z_.2.1, I6 z_.2.2.1, I6 z_.2.2.2.1]⟩), (2700, ⟨87, [VL D_ (m_ - 1) c_, I7 (i1_ : Int)]⟩)]⟩ ?_
       exact hY96 _ _ _ ⟨(2 * i3_ + 1), rfl, rfl, (Ge.refl _ _), ⟨by omega, by omega, by omega, kid_one (by omega)⟩⟩
  ·
   replace h54 : ¬ ((k_ : Int) < ((ys1.length : Nat) : Int)) := of_decide_eq_false h54
   refine Rn 9 (Qo B3 510 1) [Qs B3 511] ⟨112, [(106, .own 700 0)], [(700, ⟨87, [VL D_ m_ c_, I7 (i1_ : Int)]⟩)]⟩ ?_
   refine X.inline (f := 17) (l := [.own 700 0]) (fn := Try.f17) (c := B17) (by kernel_rfl) (by kernel_rfl) Try.func17 (by kernel_rfl) ?_
   intro Q155 M155 hM155 hQ155 fin155
   refine Rn 9 (Qo B17 12 1) [Qs B17 13, Qs B17 7] ⟨10, [(0, .own 1700 0), (2, I6 0), (3, .own 1700 0)], [(1700, ⟨87, [VL D_ m_ c_, I7 (i1_ : Int)]⟩)]⟩ ?_
   refine X.eqOwnNil (t := 23) (t' := 23) (e := 87) (b := 1700) (off := 0) (x := .tmp 3) (y := .const (.pointer none)) (by kernel_rfl) (fun g => by kernel_rfl) (by kernel_rfl) (by kernel_rfl) (by kernel_rfl) (by kernel_rfl) ?_
   refine Rn 16 (.ex .ret) [] ⟨10, [(2, I6 ((m_ : Nat) : Int))], [(1700, ⟨87, [VL D_ m_ c_, I7 (i1_ : Int)]⟩)]⟩ ?_
   refine fin155 _ _ _ _ [N6 ((m_ : Nat) : Int)] [(700, ⟨87, [VL D_ m_ c_, I7 (i1_ : Int)]⟩)] (.inl rfl) (by kernel_rfl) (by kernel_rfl) ?_
   refine Rn 2 (Qo B3 510 4) [Qs B3 511] ⟨112, [(109, VB (((m_ : Nat) : Int) == 0))], []⟩ ?_
   refine X.isTrue 109 rfl (by simp; omega) ?_
   refine Cg 18 [] 0 (works06_ok _) ?_
   rintro v156 G156 rows156 hG156 ⟨rfl, rfl⟩
   replace hr := hr.mono hG156.le
   replace hr1 := hr1.mono hG156.le
   refine Rn 5 (.ex .ret) [] ⟨112, [(2, VB true)], []⟩ ?_
   refine Dg (.inl rfl) [.bool true] [] rfl (((hG3.trans hG53).trans hG156)) ?_
   exact ⟨rfl, rfl⟩
end Go.Proofs.YthpinlcfcgnilaaX
