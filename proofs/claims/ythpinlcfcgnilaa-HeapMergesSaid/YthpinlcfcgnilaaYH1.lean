/- leatlaw06.works Walked; printed by a small program of this session. Conditions: none. -/
import Derived.Test.YthpinlcfcgnilaaProg
import Derived.KernelRfl
import Derived.Test.YthpinlcfcgnilaaYH0
namespace Go.Proofs.YthpinlcfcgnilaaX
open Go.RowKit
open Go.Proofs.YthpinlcfcgnilaaW.PrintLast
set_option linter.unusedVariables false
set_option linter.unusedSimpArgs false
set_option maxRecDepth 100000
/-- leat/heap.New -/
noncomputable def B14 : Code := bodyOf Try.f14
/-- (*leat/heap.Heap).Push -/
noncomputable def B15 : Code := bodyOf Try.f15
/-- (*leat/heap.Heap).Pop -/
noncomputable def B16 : Code := bodyOf Try.f16
/-- (*leat/heap.Heap).Len -/
noncomputable def B17 : Code := bodyOf Try.f17
/-- (*leat/heap.Heap).Drop -/
noncomputable def B29 : Code := bodyOf Try.f29
/-- (*leat/heap.Heap).Peek -/
noncomputable def B32 : Code := bodyOf Try.f32
/-- (*leat/heap.Heap).up -/
noncomputable def B49 : Code := bodyOf Try.f49
/-- (*leat/heap.Heap).down -/
noncomputable def B50 : Code := bodyOf Try.f50
/-- (*leat/heap.Heap).less -/
noncomputable def B81 : Code := bodyOf Try.f81
/-- leat/leatlaw06.works -/
noncomputable def B18 : Code := bodyOf Try.f18
set_option maxHeartbeats 8000000 in
theorem works06_ok (G : Mem) : CallsG Try.prog 18 [] G (fun _ v rows => v = .bool true ∧ rows = []) := by
 refine CallsG.enter Try.func18 rfl rfl ?_
 intro w
 refine Rn 7 (Qo B18 6 0) [Qs B18 7] ⟨54, [(0, VB false)], []⟩ ?_
 refine X.inlineNew (f := 14) (l := []) (fn := Try.f14) (c := B14) 700 (by kernel_rfl) (by kernel_rfl) Try.func14 (by kernel_rfl) ?_
 intro Q1 M1 hM1 hQ1 fin1
 refine Rn 13 (.ex .ret) [] ⟨3, [(0, .own 2 0)], [(2, ⟨87, [VL none 0 0, I7 0]⟩)]⟩ ?_
 refine fin1 _ _ _ _ 2 87 [VL none 0 0, I7 0] [] (.inl rfl) (by kernel_rfl) (by kernel_rfl) (by kernel_rfl) (by kernel_rfl) (by kernel_rfl) (by kernel_rfl) ?_
 refine Rn 7 (Qo B18 14 2) [Qs B18 15] ⟨54, [(0, VB false), (1, .own 700 0), (9, .own 700 0), (10, .v (.agg #[N6 5, N6 1, N6 0, N6 0]))], [(700, ⟨87, [VL none 0 0, I7 0]⟩)]⟩ ?_
 refine X.inline (f := 15) (l := [.own 700 0, .v (.agg #[N6 5, N6 1, N6 0, N6 0])]) (fn := Try.f15) (c := B15) (by kernel_rfl) (by kernel_rfl) Try.func15 (by kernel_rfl) ?_
 intro Q2 M2 hM2 hQ2 fin2
 refine Rn 9 (Qo B15 12 1) [Qs B15 13, Qs B15 7] ⟨36, [(0, .own 1700 0), (3, .own 3 0), (4, .own 1700 0)], [(3, ⟨27, [I6 5, I6 1, I6 0, I6 0]⟩), (1700, ⟨87, [VL none 0 0, I7 0]⟩)]⟩ ?_
 refine X.eqOwnNil (t := 23) (t' := 23) (e := 87) (b := 1700) (off := 0) (x := .tmp 4) (y := .const (.pointer none)) (by kernel_rfl) (fun g => by kernel_rfl) (by kernel_rfl) (by kernel_rfl) (by kernel_rfl) (by kernel_rfl) ?_
 refine Rn 6 (Qc B15 14) [Qs B15 15] ⟨36, [(0, .own 1700 0), (3, .own 3 0)], [(3, ⟨27, [I6 5, I6 1, I6 0, I6 0]⟩), (1700, ⟨87, [VL none 0 0, I7 0]⟩)]⟩ ?_
 refine Og 2 B15 14 16 [⟨some 0, 1700, 87, [VL none 0 0, I7 0]⟩, ⟨some 3, 3, 27, [I6 5, I6 1, I6 0, I6 0]⟩] [] [15] ⟨⟨fun _ h => (by cases h; rfl), rfl⟩, ⟨fun _ h => (by cases h; rfl), rfl⟩, trivial⟩ (by intro p hp hn; simp only [List.mem_cons, List.not_mem_nil, or_false] at hp; rcases hp with rfl | rfl <;> first | (cases hn; done) | exact hM2 _ (Nat.le_of_ble_eq_true rfl)) (fun ρ0 => ?_)
 refine Tk 0 16 1 B15 14 (.own 1700 0) hQ2 ?_
 refine Tk 1 16 3 B15 14 (.own 1700 0) hQ2 ?_
 refine XD.nilOwn (i := 2) (l' := (lb 16 7)) (oA B15 (pa 14) 2) (x := .tmp 7) (b := 1700) (off := 0) hQ2 (by kernel_rfl) (by kernel_rfl) (by kernel_rfl) (by kernel_rfl) (by kernel_rfl) (by kernel_rfl) ?_
 refine Tk 3 16 15 B15 14 (.own 1700 0) hQ2 ?_
 refine Tk 4 16 31 B15 14 (VL none 0 0) hQ2 ?_
 refine Tk 5 16 63 B15 14 (.v (.agg #[N6 5, N6 1, N6 0, N6 0])) hQ2 ?_
 refine Tk 6 16 127 B15 14 (.own 1700 0) hQ2 ?_
 refine XD.nilOwn (i := 7) (l' := (lb 16 255)) (oA B15 (pa 14) 7) (x := .tmp 12) (b := 1700) (off := 0) hQ2 (by kernel_rfl) (by kernel_rfl) (by kernel_rfl) (by kernel_rfl) (by kernel_rfl) (by kernel_rfl) ?_
 refine Ts [8, 9, 10] 16 2047 5 8 hQ2 ?_
 refine Dn ⟨36, [(0, .own 1700 0), (3, .own 3 0), (6, .own 1700 0), (10, VL none 0 0), (16, .v (.agg #[N6 5, N6 1, N6 0, N6 0, N7 0]))], [(3, ⟨27, [I6 5, I6 1, I6 0, I6 0]⟩), (1700, ⟨87, [VL none 0 0, I7 0]⟩)]⟩ ⟨⟨fun _ h => (by cases h; rfl), rfl⟩, ⟨fun _ h => (by cases h; rfl), rfl⟩, trivial⟩ ?_
 refine Do 11 16 4095 B15 14 ?_
 refine Lt 17 89 5 1 [N6 5, N6 1, N6 0, N6 0, N7 0] ?_
 intro A4
 refine X.back ⟨⟨⟨fun _ h => (by cases h; rfl), rfl⟩, ⟨fun _ h => (by cases h; rfl), rfl⟩, trivial⟩, Le.refl _, rfl, ?_⟩
 refine Dn ⟨36, [(0, .own 1700 0), (3, .own 3 0), (6, .own 1700 0), (10, VL none 0 0), (17, VL A4 1 1)], [(3, ⟨27, [I6 5, I6 1, I6 0, I6 0]⟩), (1700, ⟨87, [VL none 0 0, I7 0]⟩)]⟩ ⟨⟨fun _ h => (by cases h; rfl), rfl⟩, ⟨fun _ h => (by cases h; rfl), rfl⟩, trivial⟩ ?_
 refine Do 12 16 8191 B15 14 ?_
 refine Ap 18 (RR 89 5 none 0 0 []) 84 40 (.agg #[N6 0, N6 0, N6 0, N6 0, N7 0]) (.tmp 10) (.tmp 17) 0 0 1 1 none A4 [N6 5, N6 1, N6 0, N6 0, N7 0] (.inr ⟨rfl, rfl, rfl, rfl⟩) (by kernel_rfl) (At.of_row (i := 17) (r := (RR 89 5 A4 1 1 [N6 5, N6 1, N6 0, N6 0, N7 0])) rfl rfl) (fun w hw e => absurd (rowSome (i := 17) (q := (RR 89 5 A4 1 1 [N6 5, N6 1, N6 0, N6 0, N7 0])) rfl rfl (Nat.succ_pos _) w hw) (by rw [e]; decide)) (ones (by kernel_rfl)) (by decide) ?_
 intro A5 c5 hc5
 refine X.tellR [18, 17] (R' := [(18, RR 89 5 A5 1 c5 [N6 5, N6 1, N6 0, N6 0, N7 0]), (17, RR 89 5 A4 1 1 [N6 5, N6 1, N6 0, N6 0, N7 0])]) rfl ?_
 refine X.back ⟨⟨⟨fun _ h => (by cases h; rfl), rfl⟩, ⟨fun _ h => (by cases h; rfl), rfl⟩, trivial⟩, Le.refl _, rfl, ?_⟩
 refine XD.nilOwn (i := 13) (l' := (lb 16 16383)) (oA B15 (pa 14) 13) (x := .tmp 6) (b := 1700) (off := 0) hQ2 (by kernel_rfl) (by kernel_rfl) (by kernel_rfl) (by kernel_rfl) (by kernel_rfl) (by kernel_rfl) ?_
 refine Ts [14] 16 32767 1 2 hQ2 ?_
 refine XD.toE ?_
 refine En ⟨36, [(0, .own 1700 0), (3, .own 3 0), (18, VL A5 1 c5), (20, .own 1700 0)], [(3, ⟨27, [I6 5, I6 1, I6 0, I6 0]⟩), (1700, ⟨87, [VL none 0 0, I7 0]⟩)]⟩ ?_
 refine Eo 15 16 65535 B15 14 ?_
 refine X.simple (by kernel_rfl) ?_
 refine X.back ?_
 refine XE.done (by kernel_rfl) ?_
 refine Rn 21 (Qo B15 31 7) [] ⟨36, [(28, .own 1700 0), (34, I6 0)], [(1700, ⟨87, [VL A5 1 c5, I7 1]⟩)]⟩ ?_
 refine X.inline (f := 49) (l := [.own 1700 0, I6 0]) (fn := Try.f49) (c := B49) (by kernel_rfl) (by kernel_rfl) Try.func49 (by kernel_rfl) ?_
 intro Q6 M6 hM6 hQ6 fin6
 refine Rn 1 (Qc B49 2) [.blk 0] ⟨42, [(0, .own 2700 0), (1, I6 0)], [(2700, ⟨87, [VL A5 1 c5, I7 1]⟩)]⟩ ?_
 refine X.rounds 7 ?_
 refine RX.succ fun J7 hJ7 => ?_
 refine Rn 12 (.ex .normal) [] ⟨42, [], [(2700, ⟨87, [VL A5 1 c5, I7 1]⟩)]⟩ ?_
 refine fin6 _ _ _ _ [] [(1700, ⟨87, [VL A5 1 c5, I7 1]⟩)] (.inr rfl) (by kernel_rfl) (by kernel_rfl) ?_
 refine Rn 1 (.ex .normal) [] ⟨36, [], [(1700, ⟨87, [VL A5 1 c5, I7 1]⟩)]⟩ ?_
 refine fin2 _ _ _ _ [] [(700, ⟨87, [VL A5 1 c5, I7 1]⟩)] (.inr rfl) (by kernel_rfl) (by kernel_rfl) ?_
 refine Rn 6 (Qo B18 30 2) [Qs B18 31] ⟨54, [(0, VB false), (1, .own 700 0), (12, .own 700 0), (13, .v (.agg #[N6 3, N6 2, N6 0, N6 0]))], [(700, ⟨87, [VL A5 1 c5, I7 1]⟩)]⟩ ?_
 refine X.inline (f := 15) (l := [.own 700 0, .v (.agg #[N6 3, N6 2, N6 0, N6 0])]) (fn := Try.f15) (c := B15) (by kernel_rfl) (by kernel_rfl) Try.func15 (by kernel_rfl) ?_
 intro Q8 M8 hM8 hQ8 fin8
 refine Rn 9 (Qo B15 12 1) [Qs B15 13, Qs B15 7] ⟨36, [(0, .own 1700 0), (3, .own 3 0), (4, .own 1700 0)], [(3, ⟨27, [I6 3, I6 2, I6 0, I6 0]⟩), (1700, ⟨87, [VL A5 1 c5, I7 1]⟩)]⟩ ?_
 refine X.eqOwnNil (t := 23) (t' := 23) (e := 87) (b := 1700) (off := 0) (x := .tmp 4) (y := .const (.pointer none)) (by kernel_rfl) (fun g => by kernel_rfl) (by kernel_rfl) (by kernel_rfl) (by kernel_rfl) (by kernel_rfl) ?_
 refine Rn 6 (Qc B15 14) [Qs B15 15] ⟨36, [(0, .own 1700 0), (3, .own 3 0)], [(3, ⟨27, [I6 3, I6 2, I6 0, I6 0]⟩), (1700, ⟨87, [VL A5 1 c5, I7 1]⟩)]⟩ ?_
 refine Og 2 B15 14 16 [⟨some 0, 1700, 87, [VL A5 1 c5, I7 1]⟩, ⟨some 3, 3, 27, [I6 3, I6 2, I6 0, I6 0]⟩] [] [15] ⟨⟨fun _ h => (by cases h; rfl), rfl⟩, ⟨fun _ h => (by cases h; rfl), rfl⟩, trivial⟩ (by intro p hp hn; simp only [List.mem_cons, List.not_mem_nil, or_false] at hp; rcases hp with rfl | rfl <;> first | (cases hn; done) | exact hM8 _ (Nat.le_of_ble_eq_true rfl)) (fun ρ0 => ?_)
 refine Tk 0 16 1 B15 14 (.own 1700 0) hQ8 ?_
 refine Tk 1 16 3 B15 14 (.own 1700 0) hQ8 ?_
 refine XD.nilOwn (i := 2) (l' := (lb 16 7)) (oA B15 (pa 14) 2) (x := .tmp 7) (b := 1700) (off := 0) hQ8 (by kernel_rfl) (by kernel_rfl) (by kernel_rfl) (by kernel_rfl) (by kernel_rfl) (by kernel_rfl) ?_
 refine Tk 3 16 15 B15 14 (.own 1700 0) hQ8 ?_
 refine Tk 4 16 31 B15 14 (VL A5 1 c5) hQ8 ?_
 refine Tk 5 16 63 B15 14 (.v (.agg #[N6 3, N6 2, N6 0, N6 0])) hQ8 ?_
 refine Tk 6 16 127 B15 14 (.own 1700 0) hQ8 ?_
 refine XD.nilOwn (i := 7) (l' := (lb 16 255)) (oA B15 (pa 14) 7) (x := .tmp 12) (b := 1700) (off := 0) hQ8 (by kernel_rfl) (by kernel_rfl) (by kernel_rfl) (by kernel_rfl) (by kernel_rfl) (by kernel_rfl) ?_
 refine Ts [8, 9, 10] 16 2047 5 8 hQ8 ?_
 refine Dn ⟨36, [(0, .own 1700 0), (3, .own 3 0), (6, .own 1700 0), (10, VL A5 1 c5), (16, .v (.agg #[N6 3, N6 2, N6 0, N6 0, N7 1]))], [(3, ⟨27, [I6 3, I6 2, I6 0, I6 0]⟩), (1700, ⟨87, [VL A5 1 c5, I7 1]⟩)]⟩ ⟨⟨fun _ h => (by cases h; rfl), rfl⟩, ⟨fun _ h => (by cases h; rfl), rfl⟩, trivial⟩ ?_
 refine Do 11 16 4095 B15 14 ?_
 refine Lt 17 89 5 1 [N6 3, N6 2, N6 0, N6 0, N7 1] ?_
 intro A10
 refine X.back ⟨⟨⟨fun _ h => (by cases h; rfl), rfl⟩, ⟨fun _ h => (by cases h; rfl), rfl⟩, trivial⟩, Le.refl _, rfl, ?_⟩
 refine Dn ⟨36, [(0, .own 1700 0), (3, .own 3 0), (6, .own 1700 0), (10, VL A5 1 c5), (17, VL A10 1 1)], [(3, ⟨27, [I6 3, I6 2, I6 0, I6 0]⟩), (1700, ⟨87, [VL A5 1 c5, I7 1]⟩)]⟩ ⟨⟨fun _ h => (by cases h; rfl), rfl⟩, ⟨fun _ h => (by cases h; rfl), rfl⟩, trivial⟩ ?_
 refine Do 12 16 8191 B15 14 ?_
 refine Ap 18 (RR 89 5 A5 1 c5 [N6 5, N6 1, N6 0, N6 0, N7 0]) 84 40 (.agg #[N6 0, N6 0, N6 0, N6 0, N7 0]) (.tmp 10) (.tmp 17) 1 c5 1 1 A5 A10 [N6 3, N6 2, N6 0, N6 0, N7 1] (.inl rfl) (by kernel_rfl) (At.of_row (i := 17) (r := (RR 89 5 A10 1 1 [N6 3, N6 2, N6 0, N6 0, N7 1])) rfl rfl) (fun w hw e => absurd (rowSome (i := 17) (q := (RR 89 5 A10 1 1 [N6 3, N6 2, N6 0, N6 0, N7 1])) rfl rfl (Nat.succ_pos _) w hw) (by rw [e]; decide)) (ones (by kernel_rfl)) (by decide) ?_
 intro A11 c11 hc11
 refine X.tellR [18, 17] (R' := [(18, RR 89 5 A11 2 c11 [N6 5, N6 1, N6 0, N6 0, N7 0, N6 3, N6 2, N6 0, N6 0, N7 1]), (17, RR 89 5 A10 1 1 [N6 3, N6 2, N6 0, N6 0, N7 1])]) rfl ?_
 refine X.back ⟨⟨⟨fun _ h => (by cases h; rfl), rfl⟩, ⟨fun _ h => (by cases h; rfl), rfl⟩, trivial⟩, Le.refl _, rfl, ?_⟩
 refine XD.nilOwn (i := 13) (l' := (lb 16 16383)) (oA B15 (pa 14) 13) (x := .tmp 6) (b := 1700) (off := 0) hQ8 (by kernel_rfl) (by kernel_rfl) (by kernel_rfl) (by kernel_rfl) (by kernel_rfl) (by kernel_rfl) ?_
 refine Ts [14] 16 32767 1 2 hQ8 ?_
 refine XD.toE ?_
 refine En ⟨36, [(0, .own 1700 0), (3, .own 3 0), (18, VL A11 2 c11), (20, .own 1700 0)], [(3, ⟨27, [I6 3, I6 2, I6 0, I6 0]⟩), (1700, ⟨87, [VL A5 1 c5, I7 1]⟩)]⟩ ?_
 refine Eo 15 16 65535 B15 14 ?_
 refine X.simple (by kernel_rfl) ?_
 refine X.back ?_
 refine XE.done (by kernel_rfl) ?_
 refine Rn 21 (Qo B15 31 7) [] ⟨36, [(28, .own 1700 0), (34, I6 1)], [(1700, ⟨87, [VL A11 2 c11, I7 2]⟩)]⟩ ?_
 refine X.inline (f := 49) (l := [.own 1700 0, I6 1]) (fn := Try.f49) (c := B49) (by kernel_rfl) (by kernel_rfl) Try.func49 (by kernel_rfl) ?_
 intro Q12 M12 hM12 hQ12 fin12
 refine Rn 1 (Qc B49 2) [.blk 0] ⟨42, [(0, .own 2700 0), (1, I6 1)], [(2700, ⟨87, [VL A11 2 c11, I7 2]⟩)]⟩ ?_
 refine X.rounds 7 ?_
 refine RX.succ fun J13 hJ13 => ?_
 refine Rn 25 (Qo B49 148 3) [Qs B49 149, Qs B49 75, .blk 1, .loop J13, .blk 0] ⟨42, [(0, .own 2700 0), (1, I6 1), (4, I6 0), (5, I6 1), (6, VB true), (7, I6 1), (8, I6 0), (9, I6 0), (10, .own 2700 0), (11, I6 1), (12, I6 0)], [(2700, ⟨87, [VL A11 2 c11, I7 2]⟩)]⟩ ?_
 refine X.inline (f := 81) (l := [.own 2700 0, I6 1, I6 0]) (fn := Try.f81) (c := B81) (by kernel_rfl) (by kernel_rfl) Try.func81 (by kernel_rfl) ?_
 intro Q14 M14 hM14 hQ14 fin14
 refine Rn 6 (Qc B81 6) [Qs B81 7] ⟨52, [(0, .own 3700 0), (1, I6 1), (2, I6 0), (6, VB false)], [(3700, ⟨87, [VL A11 2 c11, I7 2]⟩)]⟩ ?_
 refine Og 1 B81 6 14 [⟨some 0, 3700, 87, [VL A11 2 c11, I7 2]⟩] [(18, RR 89 5 A11 2 c11 [N6 5, N6 1, N6 0, N6 0, N7 0, N6 3, N6 2, N6 0, N6 0, N7 1])] [] ⟨⟨fun _ h => (by cases h; rfl), rfl⟩, trivial⟩ (by intro p hp hn; simp only [List.mem_cons, List.not_mem_nil, or_false] at hp; rcases hp with rfl <;> first | (cases hn; done) | exact hM14 _ (Nat.le_of_ble_eq_true rfl)) (fun ρ0 => ?_)
 refine Tk 0 14 1 B81 6 (.own 3700 0) hQ14 ?_
 refine XD.nilOwn (i := 1) (l' := (lb 14 3)) (oA B81 (pa 6) 1) (x := .tmp 9) (b := 3700) (off := 0) hQ14 (by kernel_rfl) (by kernel_rfl) (by kernel_rfl) (by kernel_rfl) (by kernel_rfl) (by kernel_rfl) ?_
 refine Tk 2 14 7 B81 6 (.own 3700 0) hQ14 ?_
 refine Tk 3 14 15 B81 6 (VL A11 2 c11) hQ14 ?_
 refine Tk 4 14 31 B81 6 (I6 1) hQ14 ?_
 have b16 : (0 : Int) ≤ 1 := by omega
 have b17 : 1 < ((2 : Nat) : Int) := by omega
 have at18 : At G [(18, ⟨89, 5, .slice A11 2 c11, 2, [.int .i64 5, .int .i64 1, .int .i64 0, .int .i64 0, .int .u64 0, .int .i64 3, .int .i64 2, .int .i64 0, .int .i64 0, .int .u64 1]⟩)] A11 (1 * 5) [.int .i64 3, .int .i64 2, .int .i64 0, .int .i64 0, .int .u64 1] := (At.of_row (i := 18) (r := ⟨89, 5, .slice A11 2 c11, 2, [.int .i64 5, .int .i64 1, .int .i64 0, .int .i64 0, .int .u64 0, .int .i64 3, .int .i64 2, .int .i64 0, .int .i64 0, .int .u64 1]⟩) rfl rfl).part 5 5
 refine Dx 5 14 63 B81 6 84 89 5 A11 2 c11 .i64 1 (.tmp 12) (.tmp 13) hQ14 b16 b17 (rowSome (i := 18) (q := (RR 89 5 A11 2 c11 [N6 5, N6 1, N6 0, N6 0, N7 0, N6 3, N6 2, N6 0, N6 0, N7 1])) rfl rfl (Nat.succ_pos _)) ?_
 refine Tk 6 14 127 B81 6 (.own 3700 0) hQ14 ?_
 refine XD.nilOwn (i := 7) (l' := (lb 14 255)) (oA B81 (pa 6) 7) (x := .tmp 15) (b := 3700) (off := 0) hQ14 (by kernel_rfl) (by kernel_rfl) (by kernel_rfl) (by kernel_rfl) (by kernel_rfl) (by kernel_rfl) ?_
 refine Tk 8 14 511 B81 6 (.own 3700 0) hQ14 ?_
 refine Tk 9 14 1023 B81 6 (VL A11 2 c11) hQ14 ?_
 refine Tk 10 14 2047 B81 6 (I6 0) hQ14 ?_
 have b19 : (0 : Int) ≤ 0 := by omega
 have b20 : 0 < ((2 : Nat) : Int) := by omega
 have at21 : At G [(18, ⟨89, 5, .slice A11 2 c11, 2, [.int .i64 5, .int .i64 1, .int .i64 0, .int .i64 0, .int .u64 0, .int .i64 3, .int .i64 2, .int .i64 0, .int .i64 0, .int .u64 1]⟩)] A11 (0 * 5) [.int .i64 5, .int .i64 1, .int .i64 0, .int .i64 0, .int .u64 0] := (At.of_row (i := 18) (r := ⟨89, 5, .slice A11 2 c11, 2, [.int .i64 5, .int .i64 1, .int .i64 0, .int .i64 0, .int .u64 0, .int .i64 3, .int .i64 2, .int .i64 0, .int .i64 0, .int .u64 1]⟩) rfl rfl).part 0 5
 refine Dx 11 14 4095 B81 6 84 89 5 A11 2 c11 .i64 0 (.tmp 18) (.tmp 19) hQ14 b19 b20 (rowSome (i := 18) (q := (RR 89 5 A11 2 c11 [N6 5, N6 1, N6 0, N6 0, N7 0, N6 3, N6 2, N6 0, N6 0, N7 1])) rfl rfl (Nat.succ_pos _)) ?_
 refine Ts [12, 13] 14 16383 0 2 hQ14 ?_
 refine XD.done (by kernel_rfl) ?_
 refine Rn 3 (Qc B81 28) [Qs B81 29, Qs B81 15] ⟨52, [(6, VB false), (7, .v (elt A11 (1 * 5))), (8, .v (elt A11 (0 * 5)))], [(3700, ⟨87, [VL A11 2 c11, I7 2]⟩)]⟩ ?_
 refine Og 2 B81 28 11 [] [(18, RR 89 5 A11 2 c11 [N6 5, N6 1, N6 0, N6 0, N7 0, N6 3, N6 2, N6 0, N6 0, N7 1])] [] trivial (by simp) (fun ρ0 => ?_)
 refine Tk 0 11 1 B81 28 (.v (elt A11 (1 * 5))) hQ14 ?_
 refine XD.nilElt (i := 1) (l' := (lb 11 3)) (oA B81 (pa 28) 1) (x := .tmp 21) (A := A11) (j := 1 * 5) hQ14 (by kernel_rfl) (by kernel_rfl) (by kernel_rfl) (by kernel_rfl) (by kernel_rfl) (by kernel_rfl) ?_
 refine XD.field (i := 2) (l' := (lb 11 7)) (o := (oA B81 (pa 28) 2)) (t := 89) (f := 0) (n := 0) (A := A11) (j := 1 * 5) (x := .tmp 22) hQ14 (by kernel_rfl) (by kernel_rfl) (by kernel_rfl) (by kernel_rfl) (by kernel_rfl) (by kernel_rfl) (by kernel_rfl) ?_
 refine XD.field (i := 3) (l' := (lb 11 15)) (o := (oA B81 (pa 28) 3)) (t := 27) (f := 0) (n := 0) (A := A11) (j := 1 * 5 + 0) (x := .tmp 23) hQ14 (by kernel_rfl) (by kernel_rfl) (by kernel_rfl) (by kernel_rfl) (by kernel_rfl) (by kernel_rfl) (by kernel_rfl) ?_
 have at23 : At G [(18, ⟨89, 5, .slice A11 2 c11, 2, [.int .i64 5, .int .i64 1, .int .i64 0, .int .i64 0, .int .u64 0, .int .i64 3, .int .i64 2, .int .i64 0, .int .i64 0, .int .u64 1]⟩)] A11 (1 * 5) [.int .i64 3, .int .i64 2, .int .i64 0, .int .i64 0, .int .u64 1] := (At.of_row (i := 18) (r := ⟨89, 5, .slice A11 2 c11, 2, [.int .i64 5, .int .i64 1, .int .i64 0, .int .i64 0, .int .u64 0, .int .i64 3, .int .i64 2, .int .i64 0, .int .i64 0, .int .u64 1]⟩) rfl rfl).part 5 5
 refine Dl 4 11 31 B81 28 2 A11 (1 * 5 + 0 + 0) (.tmp 24) (N6 3) [N6 3] hQ14 (at23.part 0 1) ?_
 refine Tk 5 11 63 B81 28 (.v (elt A11 (0 * 5))) hQ14 ?_
 refine XD.nilElt (i := 6) (l' := (lb 11 127)) (oA B81 (pa 28) 6) (x := .tmp 26) (A := A11) (j := 0 * 5) hQ14 (by kernel_rfl) (by kernel_rfl) (by kernel_rfl) (by kernel_rfl) (by kernel_rfl) (by kernel_rfl) ?_
 refine XD.field (i := 7) (l' := (lb 11 255)) (o := (oA B81 (pa 28) 7)) (t := 89) (f := 0) (n := 0) (A := A11) (j := 0 * 5) (x := .tmp 27) hQ14 (by kernel_rfl) (by kernel_rfl) (by kernel_rfl) (by kernel_rfl) (by kernel_rfl) (by kernel_rfl) (by kernel_rfl) ?_
 refine XD.field (i := 8) (l' := (lb 11 511)) (o := (oA B81 (pa 28) 8)) (t := 27) (f := 0) (n := 0) (A := A11) (j := 0 * 5 + 0) (x := .tmp 28) hQ14 (by kernel_rfl) (by kernel_rfl) (by kernel_rfl) (by kernel_rfl) (by kernel_rfl) (by kernel_rfl) (by kernel_rfl) ?_
 have at24 : At G [(18, ⟨89, 5, .slice A11 2 c11, 2, [.int .i64 5, .int .i64 1, .int .i64 0, .int .i64 0, .int .u64 0, .int .i64 3, .int .i64 2, .int .i64 0, .int .i64 0, .int .u64 1]⟩)] A11 (0 * 5) [.int .i64 5, .int .i64 1, .int .i64 0, .int .i64 0, .int .u64 0] := (At.of_row (i := 18) (r := ⟨89, 5, .slice A11 2 c11, 2, [.int .i64 5, .int .i64 1, .int .i64 0, .int .i64 0, .int .u64 0, .int .i64 3, .int .i64 2, .int .i64 0, .int .i64 0, .int .u64 1]⟩) rfl rfl).part 0 5
 refine Dl 9 11 1023 B81 28 2 A11 (0 * 5 + 0 + 0) (.tmp 29) (N6 5) [N6 5] hQ14 (at24.part 0 1) ?_
 refine Ts [10] 11 2047 0 1 hQ14 ?_
 refine XD.done (by kernel_rfl) ?_
 refine Rn 3 (Qc B81 116) [Qs B81 117, Qs B81 15] ⟨52, [(6, VB false), (7, .v (elt A11 (1 * 5))), (8, .v (elt A11 (0 * 5)))], [(3700, ⟨87, [VL A11 2 c11, I7 2]⟩)]⟩ ?_
 refine Og 3 B81 116 12 [] [(18, RR 89 5 A11 2 c11 [N6 5, N6 1, N6 0, N6 0, N7 0, N6 3, N6 2, N6 0, N6 0, N7 1])] [] trivial (by simp) (fun ρ0 => ?_)
 refine Tk 0 12 1 B81 116 (.v (elt A11 (1 * 5))) hQ14 ?_
 refine XD.nilElt (i := 1) (l' := (lb 12 3)) (oA B81 (pa 116) 1) (x := .tmp 32) (A := A11) (j := 1 * 5) hQ14 (by kernel_rfl) (by kernel_rfl) (by kernel_rfl) (by kernel_rfl) (by kernel_rfl) (by kernel_rfl) ?_
 refine XD.field (i := 2) (l' := (lb 12 7)) (o := (oA B81 (pa 116) 2)) (t := 89) (f := 0) (n := 0) (A := A11) (j := 1 * 5) (x := .tmp 33) hQ14 (by kernel_rfl) (by kernel_rfl) (by kernel_rfl) (by kernel_rfl) (by kernel_rfl) (by kernel_rfl) (by kernel_rfl) ?_
 refine XD.field (i := 3) (l' := (lb 12 15)) (o := (oA B81 (pa 116) 3)) (t := 27) (f := 0) (n := 0) (A := A11) (j := 1 * 5 + 0) (x := .tmp 34) hQ14 (by kernel_rfl) (by kernel_rfl) (by kernel_rfl) (by kernel_rfl) (by kernel_rfl) (by kernel_rfl) (by kernel_rfl) ?_
 have at26 : At G [(18, ⟨89, 5, .slice A11 2 c11, 2, [.int .i64 5, .int .i64 1, .int .i64 0, .int .i64 0, .int .u64 0, .int .i64 3, .int .i64 2, .int .i64 0, .int .i64 0, .int .u64 1]⟩)] A11 (1 * 5) [.int .i64 3, .int .i64 2, .int .i64 0, .int .i64 0, .int .u64 1] := (At.of_row (i := 18) (r := ⟨89, 5, .slice A11 2 c11, 2, [.int .i64 5, .int .i64 1, .int .i64 0, .int .i64 0, .int .u64 0, .int .i64 3, .int .i64 2, .int .i64 0, .int .i64 0, .int .u64 1]⟩) rfl rfl).part 5 5
 refine Dl 4 12 31 B81 116 2 A11 (1 * 5 + 0 + 0) (.tmp 35) (N6 3) [N6 3] hQ14 (at26.part 0 1) ?_
 refine Tk 5 12 63 B81 116 (.v (elt A11 (0 * 5))) hQ14 ?_
 refine XD.nilElt (i := 6) (l' := (lb 12 127)) (oA B81 (pa 116) 6) (x := .tmp 37) (A := A11) (j := 0 * 5) hQ14 (by kernel_rfl) (by kernel_rfl) (by kernel_rfl) (by kernel_rfl) (by kernel_rfl) (by kernel_rfl) ?_
 refine XD.field (i := 7) (l' := (lb 12 255)) (o := (oA B81 (pa 116) 7)) (t := 89) (f := 0) (n := 0) (A := A11) (j := 0 * 5) (x := .tmp 38) hQ14 (by kernel_rfl) (by kernel_rfl) (by kernel_rfl) (by kernel_rfl) (by kernel_rfl) (by kernel_rfl) (by kernel_rfl) ?_
 refine XD.field (i := 8) (l' := (lb 12 511)) (o := (oA B81 (pa 116) 8)) (t := 27) (f := 0) (n := 0) (A := A11) (j := 0 * 5 + 0) (x := .tmp 39) hQ14 (by kernel_rfl) (by kernel_rfl) (by kernel_rfl) (by kernel_rfl) (by kernel_rfl) (by kernel_rfl) (by kernel_rfl) ?_
 have at27 : At G [(18, ⟨89, 5, .slice A11 2 c11, 2, [.int .i64 5, .int .i64 1, .int .i64 0, .int .i64 0, .int .u64 0, .int .i64 3, .int .i64 2, .int .i64 0, .int .i64 0, .int .u64 1]⟩)] A11 (0 * 5) [.int .i64 5, .int .i64 1, .int .i64 0, .int .i64 0, .int .u64 0] := (At.of_row (i := 18) (r := ⟨89, 5, .slice A11 2 c11, 2, [.int .i64 5, .int .i64 1, .int .i64 0, .int .i64 0, .int .u64 0, .int .i64 3, .int .i64 2, .int .i64 0, .int .i64 0, .int .u64 1]⟩) rfl rfl).part 0 5
 refine Dl 9 12 1023 B81 116 2 A11 (0 * 5 + 0 + 0) (.tmp 40) (N6 5) [N6 5] hQ14 (at27.part 0 1) ?_
 refine Ts [10, 11] 12 4095 0 2 hQ14 ?_
 refine XD.done (by kernel_rfl) ?_
 refine Rn 3 (.ex .ret) [] ⟨52, [(6, VB true)], [(3700, ⟨87, [VL A11 2 c11, I7 2]⟩)]⟩ ?_
 refine fin14 _ _ _ _ [.bool true] [(2700, ⟨87, [VL A11 2 c11, I7 2]⟩)] (.inl rfl) (by kernel_rfl) (by kernel_rfl) ?_
 refine Rn 7 (Qc B49 150) [Qs B49 151, .blk 1, .loop J13, .blk 0] ⟨42, [(0, .own 2700 0), (1, I6 1), (4, I6 0), (5, I6 1), (6, VB true), (7, I6 1), (8, I6 0), (9, I6 0), (10, .own 2700 0), (11, I6 1), (12, I6 0), (13, VB true), (14, VB false)], [(2700, ⟨87, [VL A11 2 c11, I7 2]⟩)]⟩ ?_
 refine Og 3 B49 150 28 [⟨some 0, 2700, 87, [VL A11 2 c11, I7 2]⟩] [(18, RR 89 5 A11 2 c11 [N6 5, N6 1, N6 0, N6 0, N7 0, N6 3, N6 2, N6 0, N6 0, N7 1])] [25, 26, 27] ⟨⟨fun _ h => (by cases h; rfl), rfl⟩, trivial⟩ (by intro p hp hn; simp only [List.mem_cons, List.not_mem_nil, or_false] at hp; rcases hp with rfl <;> first | (cases hn; done) | exact hM12 _ (Nat.le_of_ble_eq_true rfl)) (fun ρ0 => ?_)
 refine Tk 0 28 1 B49 150 (.own 2700 0) hQ12 ?_
 refine XD.nilOwn (i := 1) (l' := (lb 28 3)) (oA B49 (pa 150) 1) (x := .tmp 15) (b := 2700) (off := 0) hQ12 (by kernel_rfl) (by kernel_rfl) (by kernel_rfl) (by kernel_rfl) (by kernel_rfl) (by kernel_rfl) ?_
 refine Tk 2 28 7 B49 150 (.own 2700 0) hQ12 ?_
 refine Tk 3 28 15 B49 150 (VL A11 2 c11) hQ12 ?_
 refine Tk 4 28 31 B49 150 (I6 1) hQ12 ?_
 refine Tk 5 28 63 B49 150 (.own 2700 0) hQ12 ?_
 refine XD.nilOwn (i := 6) (l' := (lb 28 127)) (oA B49 (pa 150) 6) (x := .tmp 20) (b := 2700) (off := 0) hQ12 (by kernel_rfl) (by kernel_rfl) (by kernel_rfl) (by kernel_rfl) (by kernel_rfl) (by kernel_rfl) ?_
 refine Tk 7 28 255 B49 150 (.own 2700 0) hQ12 ?_
 refine Tk 8 28 511 B49 150 (VL A11 2 c11) hQ12 ?_
 refine XD.pureMove (i := 9) (l' := (lb 28 1023)) (x := .tmp 4) (oA B49 (pa 150) 9) (I6 0) hQ12 (by kernel_rfl) (by kernel_rfl) (by kernel_rfl) (by kernel_rfl) (by kernel_rfl) (by kernel_rfl) ?_
 refine Tk 10 28 2047 B49 150 (.own 2700 0) hQ12 ?_
 refine XD.nilOwn (i := 11) (l' := (lb 28 4095)) (oA B49 (pa 150) 11) (x := .tmp 25) (b := 2700) (off := 0) hQ12 (by kernel_rfl) (by kernel_rfl) (by kernel_rfl) (by kernel_rfl) (by kernel_rfl) (by kernel_rfl) ?_
 refine Tk 12 28 8191 B49 150 (.own 2700 0) hQ12 ?_
 refine Tk 13 28 16383 B49 150 (VL A11 2 c11) hQ12 ?_
 refine Tk 14 28 32767 B49 150 (I6 0) hQ12 ?_
 have b29 : (0 : Int) ≤ 0 := by omega
 have b30 : 0 < ((2 : Nat) : Int) := by omega
 have at31 : At G [(18, ⟨89, 5, .slice A11 2 c11, 2, [.int .i64 5, .int .i64 1, .int .i64 0, .int .i64 0, .int .u64 0, .int .i64 3, .int .i64 2, .int .i64 0, .int .i64 0, .int .u64 1]⟩)] A11 (0 * 5) [.int .i64 5, .int .i64 1, .int .i64 0, .int .i64 0, .int .u64 0] := (At.of_row (i := 18) (r := ⟨89, 5, .slice A11 2 c11, 2, [.int .i64 5, .int .i64 1, .int .i64 0, .int .i64 0, .int .u64 0, .int .i64 3, .int .i64 2, .int .i64 0, .int .i64 0, .int .u64 1]⟩) rfl rfl).part 0 5
 refine Dx 15 28 65535 B49 150 84 89 5 A11 2 c11 .i64 0 (.tmp 28) (.tmp 29) hQ12 b29 b30 (rowSome (i := 18) (q := (RR 89 5 A11 2 c11 [N6 5, N6 1, N6 0, N6 0, N7 0, N6 3, N6 2, N6 0, N6 0, N7 1])) rfl rfl (Nat.succ_pos _)) ?_
 have at32 : At G [(18, ⟨89, 5, .slice A11 2 c11, 2, [.int .i64 5, .int .i64 1, .int .i64 0, .int .i64 0, .int .u64 0, .int .i64 3, .int .i64 2, .int .i64 0, .int .i64 0, .int .u64 1]⟩)] A11 (0 * 5) [.int .i64 5, .int .i64 1, .int .i64 0, .int .i64 0, .int .u64 0] := (At.of_row (i := 18) (r := ⟨89, 5, .slice A11 2 c11, 2, [.int .i64 5, .int .i64 1, .int .i64 0, .int .i64 0, .int .u64 0, .int .i64 3, .int .i64 2, .int .i64 0, .int .i64 0, .int .u64 1]⟩) rfl rfl).part 0 5
 refine Dl 16 28 131071 B49 150 89 A11 (0 * 5) (.tmp 30) (.agg #[N6 5, N6 1, N6 0, N6 0, N7 0]) [N6 5, N6 1, N6 0, N6 0, N7 0] hQ12 at32 ?_
 refine Tk 17 28 262143 B49 150 (.own 2700 0) hQ12 ?_
 refine XD.nilOwn (i := 18) (l' := (lb 28 524287)) (oA B49 (pa 150) 18) (x := .tmp 32) (b := 2700) (off := 0) hQ12 (by kernel_rfl) (by kernel_rfl) (by kernel_rfl) (by kernel_rfl) (by kernel_rfl) (by kernel_rfl) ?_
 refine Tk 19 28 1048575 B49 150 (.own 2700 0) hQ12 ?_
 refine Tk 20 28 2097151 B49 150 (VL A11 2 c11) hQ12 ?_
 refine Tk 21 28 4194303 B49 150 (I6 1) hQ12 ?_
 have b33 : (0 : Int) ≤ 1 := by omega
 have b34 : 1 < ((2 : Nat) : Int) := by omega
 have at35 : At G [(18, ⟨89, 5, .slice A11 2 c11, 2, [.int .i64 5, .int .i64 1, .int .i64 0, .int .i64 0, .int .u64 0, .int .i64 3, .int .i64 2, .int .i64 0, .int .i64 0, .int .u64 1]⟩)] A11 (1 * 5) [.int .i64 3, .int .i64 2, .int .i64 0, .int .i64 0, .int .u64 1] := (At.of_row (i := 18) (r := ⟨89, 5, .slice A11 2 c11, 2, [.int .i64 5, .int .i64 1, .int .i64 0, .int .i64 0, .int .u64 0, .int .i64 3, .int .i64 2, .int .i64 0, .int .i64 0, .int .u64 1]⟩) rfl rfl).part 5 5
 refine Dx 22 28 8388607 B49 150 84 89 5 A11 2 c11 .i64 1 (.tmp 35) (.tmp 36) hQ12 b33 b34 (rowSome (i := 18) (q := (RR 89 5 A11 2 c11 [N6 5, N6 1, N6 0, N6 0, N7 0, N6 3, N6 2, N6 0, N6 0, N7 1])) rfl rfl (Nat.succ_pos _)) ?_
 have at36 : At G [(18, ⟨89, 5, .slice A11 2 c11, 2, [.int .i64 5, .int .i64 1, .int .i64 0, .int .i64 0, .int .u64 0, .int .i64 3, .int .i64 2, .int .i64 0, .int .i64 0, .int .u64 1]⟩)] A11 (1 * 5) [.int .i64 3, .int .i64 2, .int .i64 0, .int .i64 0, .int .u64 1] := (At.of_row (i := 18) (r := ⟨89, 5, .slice A11 2 c11, 2, [.int .i64 5, .int .i64 1, .int .i64 0, .int .i64 0, .int .u64 0, .int .i64 3, .int .i64 2, .int .i64 0, .int .i64 0, .int .u64 1]⟩) rfl rfl).part 5 5
 refine Dl 23 28 16777215 B49 150 89 A11 (1 * 5) (.tmp 37) (.agg #[N6 3, N6 2, N6 0, N6 0, N7 1]) [N6 3, N6 2, N6 0, N6 0, N7 1] hQ12 at36 ?_
 have b37 : (0 : Int) ≤ 1 := by omega
 have b38 : 1 < ((2 : Nat) : Int) := by omega
 have at39 : At G [(18, ⟨89, 5, .slice A11 2 c11, 2, [.int .i64 5, .int .i64 1, .int .i64 0, .int .i64 0, .int .u64 0, .int .i64 3, .int .i64 2, .int .i64 0, .int .i64 0, .int .u64 1]⟩)] A11 (1 * 5) [.int .i64 3, .int .i64 2, .int .i64 0, .int .i64 0, .int .u64 1] := (At.of_row (i := 18) (r := ⟨89, 5, .slice A11 2 c11, 2, [.int .i64 5, .int .i64 1, .int .i64 0, .int .i64 0, .int .u64 0, .int .i64 3, .int .i64 2, .int .i64 0, .int .i64 0, .int .u64 1]⟩) rfl rfl).part 5 5
 refine Dx 24 28 33554431 B49 150 84 89 5 A11 2 c11 .i64 1 (.tmp 18) (.tmp 19) hQ12 b37 b38 (rowSome (i := 18) (q := (RR 89 5 A11 2 c11 [N6 5, N6 1, N6 0, N6 0, N7 0, N6 3, N6 2, N6 0, N6 0, N7 1])) rfl rfl (Nat.succ_pos _)) ?_
 refine XD.toE ?_
 refine En ⟨42, [(0, .own 2700 0), (1, I6 1), (4, I6 0), (5, I6 1), (6, VB true), (7, I6 1), (8, I6 0), (9, I6 0), (10, .own 2700 0), (11, I6 1), (12, I6 0), (13, VB true), (14, VB false), (15, .own 2700 0), (16, .own 2700 0), (17, .own 2700 0), (18, VL A11 2 c11), (19, I6 1), (20, .own 2700 0), (21, .own 2700 0), (22, .own 2700 0), (23, VL A11 2 c11), (24, I6 0), (25, .own 2700 0), (26, .own 2700 0), (27, .own 2700 0), (28, VL A11 2 c11), (29, I6 0), (30, .v (elt A11 (0 * 5))), (31, .v (.agg #[N6 5, N6 1, N6 0, N6 0, N7 0])), (32, .own 2700 0), (33, .own 2700 0), (34, .own 2700 0), (35, VL A11 2 c11), (36, I6 1), (37, .v (elt A11 (1 * 5))), (38, .v (.agg #[N6 3, N6 2, N6 0, N6 0, N7 1])), (39, .v (elt A11 (1 * 5)))], [(2700, ⟨87, [VL A11 2 c11, I7 2]⟩)]⟩ ?_
 refine Eo 25 28 67108863 B49 150 ?_
 refine X.storeElem (i := 18) (t := 89) (j := 1 * 5) (n := 2) (c := c11) (q := (RR 89 5 A11 2 c11 [N6 5, N6 1, N6 0, N6 0, N7 0, N6 3, N6 2, N6 0, N6 0, N7 1])) (A := A11) (x := .tmp 39) (y := .tmp 31) (z := .agg #[N6 5, N6 1, N6 0, N6 0, N7 0]) (by kernel_rfl) (by kernel_rfl) (by kernel_rfl) rfl rfl (by kernel_rfl) (Nat.le_of_ble_eq_true rfl) (by kernel_rfl) (Nat.succ_pos _) (by kernel_rfl) ?_
 refine X.tellR [18, 17] (R' := [(18, RR 89 5 A11 2 c11 [N6 5, N6 1, N6 0, N6 0, N7 0, N6 5, N6 1, N6 0, N6 0, N7 0]), (17, RR 89 5 A10 1 1 [N6 3, N6 2, N6 0, N6 0, N7 1])]) rfl ?_
 refine X.back ?_
 refine En ⟨42, [(0, .own 2700 0), (1, I6 1), (4, I6 0), (5, I6 1), (6, VB true), (7, I6 1), (8, I6 0), (9, I6 0), (10, .own 2700 0), (11, I6 1), (12, I6 0), (13, VB true), (14, VB false), (15, .own 2700 0), (16, .own 2700 0), (17, .own 2700 0), (18, VL A11 2 c11), (19, I6 1), (20, .own 2700 0), (21, .own 2700 0), (22, .own 2700 0), (23, VL A11 2 c11), (24, I6 0), (25, .own 2700 0), (26, .own 2700 0), (27, .own 2700 0), (28, VL A11 2 c11), (29, I6 0), (30, .v (elt A11 (0 * 5))), (31, .v (.agg #[N6 5, N6 1, N6 0, N6 0, N7 0])), (32, .own 2700 0), (33, .own 2700 0), (34, .own 2700 0), (35, VL A11 2 c11), (36, I6 1), (37, .v (elt A11 (1 * 5))), (38, .v (.agg #[N6 3, N6 2, N6 0, N6 0, N7 1])), (39, .v (elt A11 (1 * 5)))], [(2700, ⟨87, [VL A11 2 c11, I7 2]⟩)]⟩ ?_
 refine Eo 26 28 134217727 B49 150 ?_
 have b40 : (0 : Int) ≤ 0 := by omega
 have b41 : 0 < ((2 : Nat) : Int) := by omega
 refine Ix 84 89 5 A11 2 c11 .i64 0 (.tmp 23) (.tmp 24) b40 b41 (rowSome (i := 18) (q := (RR 89 5 A11 2 c11 [N6 5, N6 1, N6 0, N6 0, N7 0, N6 5, N6 1, N6 0, N6 0, N7 0])) rfl rfl (Nat.succ_pos _)) ?_
 have at42 : At G [(18, ⟨89, 5, .slice A11 2 c11, 2, [.int .i64 5, .int .i64 1, .int .i64 0, .int .i64 0, .int .u64 0, .int .i64 5, .int .i64 1, .int .i64 0, .int .i64 0, .int .u64 0]⟩), (17, ⟨89, 5, .slice A10 1 1, 1, [.int .i64 3, .int .i64 2, .int .i64 0, .int .i64 0, .int .u64 1]⟩)] A11 (0 * 5) [.int .i64 5, .int .i64 1, .int .i64 0, .int .i64 0, .int .u64 0] := (At.of_row (i := 18) (r := ⟨89, 5, .slice A11 2 c11, 2, [.int .i64 5, .int .i64 1, .int .i64 0, .int .i64 0, .int .u64 0, .int .i64 5, .int .i64 1, .int .i64 0, .int .i64 0, .int .u64 0]⟩) rfl rfl).part 0 5
 refine X.back ?_
 refine En ⟨42, [(0, .own 2700 0), (1, I6 1), (4, I6 0), (5, I6 1), (6, VB true), (7, I6 1), (8, I6 0), (9, I6 0), (10, .own 2700 0), (11, I6 1), (12, I6 0), (13, VB true), (14, VB false), (15, .own 2700 0), (16, .own 2700 0), (17, .own 2700 0), (18, VL A11 2 c11), (19, I6 1), (20, .own 2700 0), (21, .own 2700 0), (22, .own 2700 0), (23, VL A11 2 c11), (24, I6 0), (25, .own 2700 0), (26, .own 2700 0), (27, .own 2700 0), (28, VL A11 2 c11), (29, I6 0), (30, .v (elt A11 (0 * 5))), (31, .v (.agg #[N6 5, N6 1, N6 0, N6 0, N7 0])), (32, .own 2700 0), (33, .own 2700 0), (34, .own 2700 0), (35, VL A11 2 c11), (36, I6 1), (37, .v (elt A11 (1 * 5))), (38, .v (.agg #[N6 3, N6 2, N6 0, N6 0, N7 1])), (39, .v (elt A11 (1 * 5))), (40, .v (elt A11 (0 * 5)))], [(2700, ⟨87, [VL A11 2 c11, I7 2]⟩)]⟩ ?_
 refine Eo 27 28 268435455 B49 150 ?_
 refine X.storeElem (i := 18) (t := 89) (j := 0 * 5) (n := 2) (c := c11) (q := (RR 89 5 A11 2 c11 [N6 5, N6 1, N6 0, N6 0, N7 0, N6 5, N6 1, N6 0, N6 0, N7 0])) (A := A11) (x := .tmp 40) (y := .tmp 38) (z := .agg #[N6 3, N6 2, N6 0, N6 0, N7 1]) (by kernel_rfl) (by kernel_rfl) (by kernel_rfl) rfl rfl (by kernel_rfl) (Nat.le_of_ble_eq_true rfl) (by kernel_rfl) (Nat.succ_pos _) (by kernel_rfl) ?_
 refine X.tellR [18, 17] (R' := [(18, RR 89 5 A11 2 c11 [N6 3, N6 2, N6 0, N6 0, N7 1, N6 5, N6 1, N6 0, N6 0, N7 0]), (17, RR 89 5 A10 1 1 [N6 3, N6 2, N6 0, N6 0, N7 1])]) rfl ?_
 refine X.back ?_
 refine XE.done (by kernel_rfl) ?_
 refine Rn 6 (.ex .normal) [.loop J13, .blk 0] ⟨42, [(0, .own 2700 0), (1, I6 0), (4, I6 0), (5, I6 1), (6, VB true), (7, I6 1), (8, I6 0), (9, I6 0), (10, .own 2700 0), (11, I6 1), (12, I6 0), (13, VB true), (14, VB false), (15, .own 2700 0), (16, .own 2700 0), (17, .own 2700 0), (18, VL A11 2 c11), (19, I6 1), (20, .own 2700 0), (21, .own 2700 0), (22, .own 2700 0), (23, VL A11 2 c11), (24, I6 0), (25, .own 2700 0), (26, .own 2700 0), (27, .own 2700 0), (28, VL A11 2 c11), (29, I6 0), (30, .v (elt A11 (0 * 5))), (31, .v (.agg #[N6 5, N6 1, N6 0, N6 0, N7 0])), (32, .own 2700 0), (33, .own 2700 0), (34, .own 2700 0), (35, VL A11 2 c11), (36, I6 1), (37, .v (elt A11 (1 * 5))), (38, .v (.agg #[N6 3, N6 2, N6 0, N6 0, N7 1])), (39, .v (elt A11 (1 * 5))), (40, .v (elt A11 (0 * 5))), (41, I6 0)], [(2700, ⟨87, [VL A11 2 c11, I7 2]⟩)]⟩ ?_
 refine X.again (hJ13 _ _ _ ?_)
 refine RX.succ fun J43 hJ43 => ?_
 refine Rn 12 (.ex .normal) [] ⟨42, [], [(2700, ⟨87, [VL A11 2 c11, I7 2]⟩)]⟩ ?_
 refine fin12 _ _ _ _ [] [(1700, ⟨87, [VL A11 2 c11, I7 2]⟩)] (.inr rfl) (by kernel_rfl) (by kernel_rfl) ?_
 refine Rn 1 (.ex .normal) [] ⟨36, [], [(1700, ⟨87, [VL A11 2 c11, I7 2]⟩)]⟩ ?_
 refine fin8 _ _ _ _ [] [(700, ⟨87, [VL A11 2 c11, I7 2]⟩)] (.inr rfl) (by kernel_rfl) (by kernel_rfl) ?_
 refine Rn 6 (Qo B18 62 2) [Qs B18 63] ⟨54, [(0, VB false), (1, .own 700 0), (15, .own 700 0), (16, .v (.agg #[N6 5, N6 3, N6 0, N6 0]))], [(700, ⟨87, [VL A11 2 c11, I7 2]⟩)]⟩ ?_
 refine X.inline (f := 15) (l := [.own 700 0, .v (.agg #[N6 5, N6 3, N6 0, N6 0])]) (fn := Try.f15) (c := B15) (by kernel_rfl) (by kernel_rfl) Try.func15 (by kernel_rfl) ?_
 intro Q44 M44 hM44 hQ44 fin44
 refine Rn 9 (Qo B15 12 1) [Qs B15 13, Qs B15 7] ⟨36, [(0, .own 1700 0), (3, .own 3 0), (4, .own 1700 0)], [(3, ⟨27, [I6 5, I6 3, I6 0, I6 0]⟩), (1700, ⟨87, [VL A11 2 c11, I7 2]⟩)]⟩ ?_
 refine X.eqOwnNil (t := 23) (t' := 23) (e := 87) (b := 1700) (off := 0) (x := .tmp 4) (y := .const (.pointer none)) (by kernel_rfl) (fun g => by kernel_rfl) (by kernel_rfl) (by kernel_rfl) (by kernel_rfl) (by kernel_rfl) ?_
 refine Rn 6 (Qc B15 14) [Qs B15 15] ⟨36, [(0, .own 1700 0), (3, .own 3 0)], [(3, ⟨27, [I6 5, I6 3, I6 0, I6 0]⟩), (1700, ⟨87, [VL A11 2 c11, I7 2]⟩)]⟩ ?_
 refine Og 2 B15 14 16 [⟨some 0, 1700, 87, [VL A11 2 c11, I7 2]⟩, ⟨some 3, 3, 27, [I6 5, I6 3, I6 0, I6 0]⟩] [] [15] ⟨⟨fun _ h => (by cases h; rfl), rfl⟩, ⟨fun _ h => (by cases h; rfl), rfl⟩, trivial⟩ (by intro p hp hn; simp only [List.mem_cons, List.not_mem_nil, or_false] at hp; rcases hp with rfl | rfl <;> first | (cases hn; done) | exact hM44 _ (Nat.le_of_ble_eq_true rfl)) (fun ρ0 => ?_)
 refine Tk 0 16 1 B15 14 (.own 1700 0) hQ44 ?_
 refine Tk 1 16 3 B15 14 (.own 1700 0) hQ44 ?_
 refine XD.nilOwn (i := 2) (l' := (lb 16 7)) (oA B15 (pa 14) 2) (x := .tmp 7) (b := 1700) (off := 0) hQ44 (by kernel_rfl) (by kernel_rfl) (by kernel_rfl) (by kernel_rfl) (by kernel_rfl) (by kernel_rfl) ?_
 refine Tk 3 16 15 B15 14 (.own 1700 0) hQ44 ?_
 refine Tk 4 16 31 B15 14 (VL A11 2 c11) hQ44 ?_
 refine Tk 5 16 63 B15 14 (.v (.agg #[N6 5, N6 3, N6 0, N6 0])) hQ44 ?_
 refine Tk 6 16 127 B15 14 (.own 1700 0) hQ44 ?_
 refine XD.nilOwn (i := 7) (l' := (lb 16 255)) (oA B15 (pa 14) 7) (x := .tmp 12) (b := 1700) (off := 0) hQ44 (by kernel_rfl) (by kernel_rfl) (by kernel_rfl) (by kernel_rfl) (by kernel_rfl) (by kernel_rfl) ?_
 refine Ts [8, 9, 10] 16 2047 5 8 hQ44 ?_
 refine Dn ⟨36, [(0, .own 1700 0), (3, .own 3 0), (6, .own 1700 0), (10, VL A11 2 c11), (16, .v (.agg #[N6 5, N6 3, N6 0, N6 0, N7 2]))], [(3, ⟨27, [I6 5, I6 3, I6 0, I6 0]⟩), (1700, ⟨87, [VL A11 2 c11, I7 2]⟩)]⟩ ⟨⟨fun _ h => (by cases h; rfl), rfl⟩, ⟨fun _ h => (by cases h; rfl), rfl⟩, trivial⟩ ?_
 refine Do 11 16 4095 B15 14 ?_
 refine Lt 17 89 5 1 [N6 5, N6 3, N6 0, N6 0, N7 2] ?_
 intro A46
 refine X.back ⟨⟨⟨fun _ h => (by cases h; rfl), rfl⟩, ⟨fun _ h => (by cases h; rfl), rfl⟩, trivial⟩, Le.refl _, rfl, ?_⟩
 refine Dn ⟨36, [(0, .own 1700 0), (3, .own 3 0), (6, .own 1700 0), (10, VL A11 2 c11), (17, VL A46 1 1)], [(3, ⟨27, [I6 5, I6 3, I6 0, I6 0]⟩), (1700, ⟨87, [VL A11 2 c11, I7 2]⟩)]⟩ ⟨⟨fun _ h => (by cases h; rfl), rfl⟩, ⟨fun _ h => (by cases h; rfl), rfl⟩, trivial⟩ ?_
 refine Do 12 16 8191 B15 14 ?_
 refine Ap 18 (RR 89 5 A11 2 c11 [N6 3, N6 2, N6 0, N6 0, N7 1, N6 5, N6 1, N6 0, N6 0, N7 0]) 84 40 (.agg #[N6 0, N6 0, N6 0, N6 0, N7 0]) (.tmp 10) (.tmp 17) 2 c11 1 1 A11 A46 [N6 5, N6 3, N6 0, N6 0, N7 2] (.inl rfl) (by kernel_rfl) (At.of_row (i := 17) (r := (RR 89 5 A46 1 1 [N6 5, N6 3, N6 0, N6 0, N7 2])) rfl rfl) (fun w hw e => absurd (rowSome (i := 17) (q := (RR 89 5 A46 1 1 [N6 5, N6 3, N6 0, N6 0, N7 2])) rfl rfl (Nat.succ_pos _) w hw) (by rw [e]; decide)) (ones (by kernel_rfl)) (by decide) ?_
 intro A47 c47 hc47
 refine X.tellR [18, 17] (R' := [(18, RR 89 5 A47 3 c47 [N6 3, N6 2, N6 0, N6 0, N7 1, N6 5, N6 1, N6 0, N6 0, N7 0, N6 5, N6 3, N6 0, N6 0, N7 2]), (17, RR 89 5 A46 1 1 [N6 5, N6 3, N6 0, N6 0, N7 2])]) rfl ?_
 refine X.back ⟨⟨⟨fun _ h => (by cases h; rfl), rfl⟩, ⟨fun _ h => (by cases h; rfl), rfl⟩, trivial⟩, Le.refl _, rfl, ?_⟩
 refine XD.nilOwn (i := 13) (l' := (lb 16 16383)) (oA B15 (pa 14) 13) (x := .tmp 6) (b := 1700) (off := 0) hQ44 (by kernel_rfl) (by kernel_rfl) (by kernel_rfl) (by kernel_rfl) (by kernel_rfl) (by kernel_rfl) ?_
 refine Ts [14] 16 32767 1 2 hQ44 ?_
 refine XD.toE ?_
 refine En ⟨36, [(0, .own 1700 0), (3, .own 3 0), (18, VL A47 3 c47), (20, .own 1700 0)], [(3, ⟨27, [I6 5, I6 3, I6 0, I6 0]⟩), (1700, ⟨87, [VL A11 2 c11, I7 2]⟩)]⟩ ?_
 refine Eo 15 16 65535 B15 14 ?_
 refine X.simple (by kernel_rfl) ?_
 refine X.back ?_
 refine XE.done (by kernel_rfl) ?_
 refine Rn 21 (Qo B15 31 7) [] ⟨36, [(28, .own 1700 0), (34, I6 2)], [(1700, ⟨87, [VL A47 3 c47, I7 3]⟩)]⟩ ?_
 refine X.inline (f := 49) (l := [.own 1700 0, I6 2]) (fn := Try.f49) (c := B49) (by kernel_rfl) (by kernel_rfl) Try.func49 (by kernel_rfl) ?_
 intro Q48 M48 hM48 hQ48 fin48
 refine Rn 1 (Qc B49 2) [.blk 0] ⟨42, [(0, .own 2700 0), (1, I6 2)], [(2700, ⟨87, [VL A47 3 c47, I7 3]⟩)]⟩ ?_
 refine X.rounds 7 ?_
 refine RX.succ fun J49 hJ49 => ?_
 refine Rn 25 (Qo B49 148 3) [Qs B49 149, Qs B49 75, .blk 1, .loop J49, .blk 0] ⟨42, [(0, .own 2700 0), (1, I6 2), (4, I6 0), (5, I6 2), (6, VB true), (7, I6 2), (8, I6 1), (9, I6 0), (10, .own 2700 0), (11, I6 2), (12, I6 0)], [(2700, ⟨87, [VL A47 3 c47, I7 3]⟩)]⟩ ?_
 refine X.inline (f := 81) (l := [.own 2700 0, I6 2, I6 0]) (fn := Try.f81) (c := B81) (by kernel_rfl) (by kernel_rfl) Try.func81 (by kernel_rfl) ?_
 intro Q50 M50 hM50 hQ50 fin50
 refine Rn 6 (Qc B81 6) [Qs B81 7] ⟨52, [(0, .own 3700 0), (1, I6 2), (2, I6 0), (6, VB false)], [(3700, ⟨87, [VL A47 3 c47, I7 3]⟩)]⟩ ?_
 refine Og 1 B81 6 14 [⟨some 0, 3700, 87, [VL A47 3 c47, I7 3]⟩] [(18, RR 89 5 A47 3 c47 [N6 3, N6 2, N6 0, N6 0, N7 1, N6 5, N6 1, N6 0, N6 0, N7 0, N6 5, N6 3, N6 0, N6 0, N7 2])] [] ⟨⟨fun _ h => (by cases h; rfl), rfl⟩, trivial⟩ (by intro p hp hn; simp only [List.mem_cons, List.not_mem_nil, or_false] at hp; rcases hp with rfl <;> first | (cases hn; done) | exact hM50 _ (Nat.le_of_ble_eq_true rfl)) (fun ρ0 => ?_)
 refine Tk 0 14 1 B81 6 (.own 3700 0) hQ50 ?_
 refine XD.nilOwn (i := 1) (l' := (lb 14 3)) (oA B81 (pa 6) 1) (x := .tmp 9) (b := 3700) (off := 0) hQ50 (by kernel_rfl) (by kernel_rfl) (by kernel_rfl) (by kernel_rfl) (by kernel_rfl) (by kernel_rfl) ?_
 refine Tk 2 14 7 B81 6 (.own 3700 0) hQ50 ?_
 refine Tk 3 14 15 B81 6 (VL A47 3 c47) hQ50 ?_
 refine Tk 4 14 31 B81 6 (I6 2) hQ50 ?_
 have b52 : (0 : Int) ≤ 2 := by omega
 have b53 : 2 < ((3 : Nat) : Int) := by omega
 have at54 : At G [(18, ⟨89, 5, .slice A47 3 c47, 3, [.int .i64 3, .int .i64 2, .int .i64 0, .int .i64 0, .int .u64 1, .int .i64 5, .int .i64 1, .int .i64 0, .int .i64 0, .int .u64 0, .int .i64 5, .int .i64 3, .int .i64 0, .int .i64 0, .int .u64 2]⟩)] A47 (2 * 5) [.int .i64 5, .int .i64 3, .int .i64 0, .int .i64 0, .int .u64 2] := (At.of_row (i := 18) (r := ⟨89, 5, .slice A47 3 c47, 3, [.int .i64 3, .int .i64 2, .int .i64 0, .int .i64 0, .int .u64 1, .int .i64 5, .int .i64 1, .int .i64 0, .int .i64 0, .int .u64 0, .int .i64 5, .int .i64 3, .int .i64 0, .int .i64 0, .int .u64 2]⟩) rfl rfl).part 10 5
 refine Dx 5 14 63 B81 6 84 89 5 A47 3 c47 .i64 2 (.tmp 12) (.tmp 13) hQ50 b52 b53 (rowSome (i := 18) (q := (RR 89 5 A47 3 c47 [N6 3, N6 2, N6 0, N6 0, N7 1, N6 5, N6 1, N6 0, N6 0, N7 0, N6 5, N6 3, N6 0, N6 0, N7 2])) rfl rfl (Nat.succ_pos _)) ?_
 refine Tk 6 14 127 B81 6 (.own 3700 0) hQ50 ?_
 refine XD.nilOwn (i := 7) (l' := (lb 14 255)) (oA B81 (pa 6) 7) (x := .tmp 15) (b := 3700) (off := 0) hQ50 (by kernel_rfl) (by kernel_rfl) (by kernel_rfl) (by kernel_rfl) (by kernel_rfl) (by kernel_rfl) ?_
 refine Tk 8 14 511 B81 6 (.own 3700 0) hQ50 ?_
 refine Tk 9 14 1023 B81 6 (VL A47 3 c47) hQ50 ?_
 refine Tk 10 14 2047 B81 6 (I6 0) hQ50 ?_
 have b55 : (0 : Int) ≤ 0 := by omega
 have b56 : 0 < ((3 : Nat) : Int) := by omega
 have at57 : At G [(18, ⟨89, 5, .slice A47 3 c47, 3, [.int .i64 3, .int .i64 2, .int .i64 0, .int .i64 0, .int .u64 1, .int .i64 5, .int .i64 1, .int .i64 0, .int .i64 0, .int .u64 0, .int .i64 5, .int .i64 3, .int .i64 0, .int .i64 0, .int .u64 2]⟩)] A47 (0 * 5) [.int .i64 3, .int .i64 2, .int .i64 0, .int .i64 0, .int .u64 1] := (At.of_row (i := 18) (r := ⟨89, 5, .slice A47 3 c47, 3, [.int .i64 3, .int .i64 2, .int .i64 0, .int .i64 0, .int .u64 1, .int .i64 5, .int .i64 1, .int .i64 0, .int .i64 0, .int .u64 0, .int .i64 5, .int .i64 3, .int .i64 0, .int .i64 0, .int .u64 2]⟩) rfl rfl).part 0 5
 refine Dx 11 14 4095 B81 6 84 89 5 A47 3 c47 .i64 0 (.tmp 18) (.tmp 19) hQ50 b55 b56 (rowSome (i := 18) (q := (RR 89 5 A47 3 c47 [N6 3, N6 2, N6 0, N6 0, N7 1, N6 5, N6 1, N6 0, N6 0, N7 0, N6 5, N6 3, N6 0, N6 0, N7 2])) rfl rfl (Nat.succ_pos _)) ?_
 refine Ts [12, 13] 14 16383 0 2 hQ50 ?_
 refine XD.done (by kernel_rfl) ?_
 refine Rn 3 (Qc B81 28) [Qs B81 29, Qs B81 15] ⟨52, [(6, VB false), (7, .v (elt A47 (2 * 5))), (8, .v (elt A47 (0 * 5)))], [(3700, ⟨87, [VL A47 3 c47, I7 3]⟩)]⟩ ?_
 refine Og 2 B81 28 11 [] [(18, RR 89 5 A47 3 c47 [N6 3, N6 2, N6 0, N6 0, N7 1, N6 5, N6 1, N6 0, N6 0, N7 0, N6 5, N6 3, N6 0, N6 0, N7 2])] [] trivial (by simp) (fun ρ0 => ?_)
 refine Tk 0 11 1 B81 28 (.v (elt A47 (2 * 5))) hQ50 ?_
 refine XD.nilElt (i := 1) (l' := (lb 11 3)) (oA B81 (pa 28) 1) (x := .tmp 21) (A := A47) (j := 2 * 5) hQ50 (by kernel_rfl) (by kernel_rfl) (by kernel_rfl) (by kernel_rfl) (by kernel_rfl) (by kernel_rfl) ?_
 refine XD.field (i := 2) (l' := (lb 11 7)) (o := (oA B81 (pa 28) 2)) (t := 89) (f := 0) (n := 0) (A := A47) (j := 2 * 5) (x := .tmp 22) hQ50 (by kernel_rfl) (by kernel_rfl) (by kernel_rfl) (by kernel_rfl) (by kernel_rfl) (by kernel_rfl) (by kernel_rfl) ?_
 refine XD.field (i := 3) (l' := (lb 11 15)) (o := (oA B81 (pa 28) 3)) (t := 27) (f := 0) (n := 0) (A := A47) (j := 2 * 5 + 0) (x := .tmp 23) hQ50 (by kernel_rfl) (by kernel_rfl) (by kernel_rfl) (by kernel_rfl) (by kernel_rfl) (by kernel_rfl) (by kernel_rfl) ?_
 have at59 : At G [(18, ⟨89, 5, .slice A47 3 c47, 3, [.int .i64 3, .int .i64 2, .int .i64 0, .int .i64 0, .int .u64 1, .int .i64 5, .int .i64 1, .int .i64 0, .int .i64 0, .int .u64 0, .int .i64 5, .int .i64 3, .int .i64 0, .int .i64 0, .int .u64 2]⟩)] A47 (2 * 5) [.int .i64 5, .int .i64 3, .int .i64 0, .int .i64 0, .int .u64 2] := (At.of_row (i := 18) (r := ⟨89, 5, .slice A47 3 c47, 3, [.int .i64 3, .int .i64 2, .int .i64 0, .int .i64 0, .int .u64 1, .int .i64 5, .int .i64 1, .int .i64 0, .int .i64 0, .int .u64 0, .int .i64 5, .int .i64 3, .int .i64 0, .int .i64 0, .int .u64 2]⟩) rfl rfl).part 10 5
 refine Dl 4 11 31 B81 28 2 A47 (2 * 5 + 0 + 0) (.tmp 24) (N6 5) [N6 5] hQ50 (at59.part 0 1) ?_
 refine Tk 5 11 63 B81 28 (.v (elt A47 (0 * 5))) hQ50 ?_
 refine XD.nilElt (i := 6) (l' := (lb 11 127)) (oA B81 (pa 28) 6) (x := .tmp 26) (A := A47) (j := 0 * 5) hQ50 (by kernel_rfl) (by kernel_rfl) (by kernel_rfl) (by kernel_rfl) (by kernel_rfl) (by kernel_rfl) ?_
 refine XD.field (i := 7) (l' := (lb 11 255)) (o := (oA B81 (pa 28) 7)) (t := 89) (f := 0) (n := 0) (A := A47) (j := 0 * 5) (x := .tmp 27) hQ50 (by kernel_rfl) (by kernel_rfl) (by kernel_rfl) (by kernel_rfl) (by kernel_rfl) (by kernel_rfl) (by kernel_rfl) ?_
 refine XD.field (i := 8) (l' := (lb 11 511)) (o := (oA B81 (pa 28) 8)) (t := 27) (f := 0) (n := 0) (A := A47) (j := 0 * 5 + 0) (x := .tmp 28) hQ50 (by kernel_rfl) (by kernel_rfl) (by kernel_rfl) (by kernel_rfl) (by kernel_rfl) (by kernel_rfl) (by kernel_rfl) ?_
 have at60 : At G [(18, ⟨89, 5, .slice A47 3 c47, 3, [.int .i64 3, .int .i64 2, .int .i64 0, .int .i64 0, .int .u64 1, .int .i64 5, .int .i64 1, .int .i64 0, .int .i64 0, .int .u64 0, .int .i64 5, .int .i64 3, .int .i64 0, .int .i64 0, .int .u64 2]⟩)] A47 (0 * 5) [.int .i64 3, .int .i64 2, .int .i64 0, .int .i64 0, .int .u64 1] := (At.of_row (i := 18) (r := ⟨89, 5, .slice A47 3 c47, 3, [.int .i64 3, .int .i64 2, .int .i64 0, .int .i64 0, .int .u64 1, .int .i64 5, .int .i64 1, .int .i64 0, .int .i64 0, .int .u64 0, .int .i64 5, .int .i64 3, .int .i64 0, .int .i64 0, .int .u64 2]⟩) rfl rfl).part 0 5
 refine Dl 9 11 1023 B81 28 2 A47 (0 * 5 + 0 + 0) (.tmp 29) (N6 3) [N6 3] hQ50 (at60.part 0 1) ?_
 refine Ts [10] 11 2047 0 1 hQ50 ?_
 refine XD.done (by kernel_rfl) ?_
 refine Rn 3 (Qc B81 116) [Qs B81 117, Qs B81 15] ⟨52, [(6, VB false), (7, .v (elt A47 (2 * 5))), (8, .v (elt A47 (0 * 5)))], [(3700, ⟨87, [VL A47 3 c47, I7 3]⟩)]⟩ ?_
 refine Og 3 B81 116 12 [] [(18, RR 89 5 A47 3 c47 [N6 3, N6 2, N6 0, N6 0, N7 1, N6 5, N6 1, N6 0, N6 0, N7 0, N6 5, N6 3, N6 0, N6 0, N7 2])] [] trivial (by simp) (fun ρ0 => ?_)
 refine Tk 0 12 1 B81 116 (.v (elt A47 (2 * 5))) hQ50 ?_
 refine XD.nilElt (i := 1) (l' := (lb 12 3)) (oA B81 (pa 116) 1) (x := .tmp 32) (A := A47) (j := 2 * 5) hQ50 (by kernel_rfl) (by kernel_rfl) (by kernel_rfl) (by kernel_rfl) (by kernel_rfl) (by kernel_rfl) ?_
 refine XD.field (i := 2) (l' := (lb 12 7)) (o := (oA B81 (pa 116) 2)) (t := 89) (f := 0) (n := 0) (A := A47) (j := 2 * 5) (x := .tmp 33) hQ50 (by kernel_rfl) (by kernel_rfl) (by kernel_rfl) (by kernel_rfl) (by kernel_rfl) (by kernel_rfl) (by kernel_rfl) ?_
 refine XD.field (i := 3) (l' := (lb 12 15)) (o := (oA B81 (pa 116) 3)) (t := 27) (f := 0) (n := 0) (A := A47) (j := 2 * 5 + 0) (x := .tmp 34) hQ50 (by kernel_rfl) (by kernel_rfl) (by kernel_rfl) (by kernel_rfl) (by kernel_rfl) (by kernel_rfl) (by kernel_rfl) ?_
 have at62 : At G [(18, ⟨89, 5, .slice A47 3 c47, 3, [.int .i64 3, .int .i64 2, .int .i64 0, .int .i64 0, .int .u64 1, .int .i64 5, .int .i64 1, .int .i64 0, .int .i64 0, .int .u64 0, .int .i64 5, .int .i64 3, .int .i64 0, .int .i64 0, .int .u64 2]⟩)] A47 (2 * 5) [.int .i64 5, .int .i64 3, .int .i64 0, .int .i64 0, .int .u64 2] := (At.of_row (i := 18) (r := ⟨89, 5, .slice A47 3 c47, 3, [.int .i64 3, .int .i64 2, .int .i64 0, .int .i64 0, .int .u64 1, .int .i64 5, .int .i64 1, .int .i64 0, .int .i64 0, .int .u64 0, .int .i64 5, .int .i64 3, .int .i64 0, .int .i64 0, .int .u64 2]⟩) rfl rfl).part 10 5
 refine Dl 4 12 31 B81 116 2 A47 (2 * 5 + 0 + 0) (.tmp 35) (N6 5) [N6 5] hQ50 (at62.part 0 1) ?_
 refine Tk 5 12 63 B81 116 (.v (elt A47 (0 * 5))) hQ50 ?_
 refine XD.nilElt (i := 6) (l' := (lb 12 127)) (oA B81 (pa 116) 6) (x := .tmp 37) (A := A47) (j := 0 * 5) hQ50 (by kernel_rfl) (by kernel_rfl) (by kernel_rfl) (by kernel_rfl) (by kernel_rfl) (by kernel_rfl) ?_
 refine XD.field (i := 7) (l' := (lb 12 255)) (o := (oA B81 (pa 116) 7)) (t := 89) (f := 0) (n := 0) (A := A47) (j := 0 * 5) (x := .tmp 38) hQ50 (by kernel_rfl) (by kernel_rfl) (by kernel_rfl) (by kernel_rfl) (by kernel_rfl) (by kernel_rfl) (by kernel_rfl) ?_
 refine XD.field (i := 8) (l' := (lb 12 511)) (o := (oA B81 (pa 116) 8)) (t := 27) (f := 0) (n := 0) (A := A47) (j := 0 * 5 + 0) (x := .tmp 39) hQ50 (by kernel_rfl) (by kernel_rfl) (by kernel_rfl) (by kernel_rfl) (by kernel_rfl) (by kernel_rfl) (by kernel_rfl) ?_
 have at63 : At G [(18, ⟨89, 5, .slice A47 3 c47, 3, [.int .i64 3, .int .i64 2, .int .i64 0, .int .i64 0, .int .u64 1, .int .i64 5, .int .i64 1, .int .i64 0, .int .i64 0, .int .u64 0, .int .i64 5, .int .i64 3, .int .i64 0, .int .i64 0, .int .u64 2]⟩)] A47 (0 * 5) [.int .i64 3, .int .i64 2, .int .i64 0, .int .i64 0, .int .u64 1] := (At.of_row (i := 18) (r := ⟨89, 5, .slice A47 3 c47, 3, [.int .i64 3, .int .i64 2, .int .i64 0, .int .i64 0, .int .u64 1, .int .i64 5, .int .i64 1, .int .i64 0, .int .i64 0, .int .u64 0, .int .i64 5, .int .i64 3, .int .i64 0, .int .i64 0, .int .u64 2]⟩) rfl rfl).part 0 5
 refine Dl 9 12 1023 B81 116 2 A47 (0 * 5 + 0 + 0) (.tmp 40) (N6 3) [N6 3] hQ50 (at63.part 0 1) ?_
 refine Ts [10, 11] 12 4095 0 2 hQ50 ?_
 refine XD.done (by kernel_rfl) ?_
 refine Rn 3 (.ex .ret) [] ⟨52, [(6, VB false)], [(3700, ⟨87, [VL A47 3 c47, I7 3]⟩)]⟩ ?_
 refine fin50 _ _ _ _ [.bool false] [(2700, ⟨87, [VL A47 3 c47, I7 3]⟩)] (.inl rfl) (by kernel_rfl) (by kernel_rfl) ?_
 refine Rn 9 (.ex .ret) [] ⟨42, [], [(2700, ⟨87, [VL A47 3 c47, I7 3]⟩)]⟩ ?_
 refine fin48 _ _ _ _ [] [(1700, ⟨87, [VL A47 3 c47, I7 3]⟩)] (.inl rfl) (by kernel_rfl) (by kernel_rfl) ?_
 refine Rn 1 (.ex .normal) [] ⟨36, [], [(1700, ⟨87, [VL A47 3 c47, I7 3]⟩)]⟩ ?_
 refine fin44 _ _ _ _ [] [(700, ⟨87, [VL A47 3 c47, I7 3]⟩)] (.inr rfl) (by kernel_rfl) (by kernel_rfl) ?_
 refine Rn 5 (Qo B18 126 1) [Qs B18 127] ⟨54, [(0, VB false), (1, .own 700 0), (19, .own 700 0)], [(700, ⟨87, [VL A47 3 c47, I7 3]⟩)]⟩ ?_
 refine X.inline (f := 16) (l := [.own 700 0]) (fn := Try.f16) (c := B16) (by kernel_rfl) (by kernel_rfl) Try.func16 (by kernel_rfl) ?_
 intro Q64 M64 hM64 hQ64 fin64
 refine Rn 9 (Qo B16 6 1) [Qs B16 7] ⟨45, [(0, .own 1700 0), (2, .own 2 0), (3, VB false), (8, .own 1700 0)], [(2, ⟨27, [I6 0, I6 0, I6 0, I6 0]⟩), (1700, ⟨87, [VL A47 3 c47, I7 3]⟩)]⟩ ?_
 refine X.inline (f := 32) (l := [.own 1700 0]) (fn := Try.f32) (c := B32) (by kernel_rfl) (by kernel_rfl) Try.func32 (by kernel_rfl) ?_
 intro Q65 M65 hM65 hQ65 fin65
 refine Rn 10 (Qo B32 12 1) [Qs B32 13, Qs B32 7] ⟨15, [(0, .own 2700 0), (2, .own 2 0), (3, VB false), (4, .own 2700 0)], [(2, ⟨27, [I6 0, I6 0, I6 0, I6 0]⟩), (1002, ⟨27, [I6 0, I6 0, I6 0, I6 0]⟩), (2700, ⟨87, [VL A47 3 c47, I7 3]⟩)]⟩ ?_
 refine X.inline (f := 17) (l := [.own 2700 0]) (fn := Try.f17) (c := B17) (by kernel_rfl) (by kernel_rfl) Try.func17 (by kernel_rfl) ?_
 intro Q66 M66 hM66 hQ66 fin66
 refine Rn 9 (Qo B17 12 1) [Qs B17 13, Qs B17 7] ⟨10, [(0, .own 3700 0), (2, I6 0), (3, .own 3700 0)], [(1002, ⟨27, [I6 0, I6 0, I6 0, I6 0]⟩), (2002, ⟨27, [I6 0, I6 0, I6 0, I6 0]⟩), (3700, ⟨87, [VL A47 3 c47, I7 3]⟩)]⟩ ?_
 refine X.eqOwnNil (t := 23) (t' := 23) (e := 87) (b := 3700) (off := 0) (x := .tmp 3) (y := .const (.pointer none)) (by kernel_rfl) (fun g => by kernel_rfl) (by kernel_rfl) (by kernel_rfl) (by kernel_rfl) (by kernel_rfl) ?_
 refine Rn 16 (.ex .ret) [] ⟨10, [(2, I6 3)], [(1002, ⟨27, [I6 0, I6 0, I6 0, I6 0]⟩), (2002, ⟨27, [I6 0, I6 0, I6 0, I6 0]⟩), (3700, ⟨87, [VL A47 3 c47, I7 3]⟩)]⟩ ?_
 refine fin66 _ _ _ _ [N6 3] [(2, ⟨27, [I6 0, I6 0, I6 0, I6 0]⟩), (1002, ⟨27, [I6 0, I6 0, I6 0, I6 0]⟩), (2700, ⟨87, [VL A47 3 c47, I7 3]⟩)] (.inl rfl) (by kernel_rfl) (by kernel_rfl) ?_
 refine Rn 12 (Qo B32 14 4) [Qs B32 15] ⟨15, [(2, .own 2 0), (3, VB false), (11, VL A47 3 c47)], [(2, ⟨27, [I6 0, I6 0, I6 0, I6 0]⟩), (1002, ⟨27, [I6 0, I6 0, I6 0, I6 0]⟩), (2700, ⟨87, [VL A47 3 c47, I7 3]⟩)]⟩ ?_
 have b67 : (0 : Int) ≤ 0 := by omega
 have b68 : 0 < ((3 : Nat) : Int) := by omega
 refine Ix 84 89 5 A47 3 c47 .i64 0 (.tmp 11) (.const (N6 0)) b67 b68 (rowSome (i := 18) (q := (RR 89 5 A47 3 c47 [N6 3, N6 2, N6 0, N6 0, N7 1, N6 5, N6 1, N6 0, N6 0, N7 0, N6 5, N6 3, N6 0, N6 0, N7 2])) rfl rfl (Nat.succ_pos _)) ?_
 have at69 : At G [(18, ⟨89, 5, .slice A47 3 c47, 3, [.int .i64 3, .int .i64 2, .int .i64 0, .int .i64 0, .int .u64 1, .int .i64 5, .int .i64 1, .int .i64 0, .int .i64 0, .int .u64 0, .int .i64 5, .int .i64 3, .int .i64 0, .int .i64 0, .int .u64 2]⟩), (17, ⟨89, 5, .slice A46 1 1, 1, [.int .i64 5, .int .i64 3, .int .i64 0, .int .i64 0, .int .u64 2]⟩)] A47 (0 * 5) [.int .i64 3, .int .i64 2, .int .i64 0, .int .i64 0, .int .u64 1] := (At.of_row (i := 18) (r := ⟨89, 5, .slice A47 3 c47, 3, [.int .i64 3, .int .i64 2, .int .i64 0, .int .i64 0, .int .u64 1, .int .i64 5, .int .i64 1, .int .i64 0, .int .i64 0, .int .u64 0, .int .i64 5, .int .i64 3, .int .i64 0, .int .i64 0, .int .u64 2]⟩) rfl rfl).part 0 5
 refine Rn 0 (Qo B32 14 5) [Qs B32 15] ⟨15, [(2, .own 2 0), (3, VB false), (12, .v (elt A47 (0 * 5)))], [(2, ⟨27, [I6 0, I6 0, I6 0, I6 0]⟩), (1002, ⟨27, [I6 0, I6 0, I6 0, I6 0]⟩), (2700, ⟨87, [VL A47 3 c47, I7 3]⟩)]⟩ ?_
 refine X.field (t := 89) (f := 0) (n := 0) (A := A47) (j := 0 * 5) (x := .tmp 12) (by kernel_rfl) (by kernel_rfl) (by kernel_rfl) (by kernel_rfl) ?_
 refine Rn 0 (Qo B32 14 6) [Qs B32 15] ⟨15, [(2, .own 2 0), (3, VB false), (13, .v (elt A47 (0 * 5 + 0)))], [(2, ⟨27, [I6 0, I6 0, I6 0, I6 0]⟩), (1002, ⟨27, [I6 0, I6 0, I6 0, I6 0]⟩), (2700, ⟨87, [VL A47 3 c47, I7 3]⟩)]⟩ ?_
 have at70 : At G [(18, ⟨89, 5, .slice A47 3 c47, 3, [.int .i64 3, .int .i64 2, .int .i64 0, .int .i64 0, .int .u64 1, .int .i64 5, .int .i64 1, .int .i64 0, .int .i64 0, .int .u64 0, .int .i64 5, .int .i64 3, .int .i64 0, .int .i64 0, .int .u64 2]⟩), (17, ⟨89, 5, .slice A46 1 1, 1, [.int .i64 5, .int .i64 3, .int .i64 0, .int .i64 0, .int .u64 2]⟩)] A47 (0 * 5) [.int .i64 3, .int .i64 2, .int .i64 0, .int .i64 0, .int .u64 1] := (At.of_row (i := 18) (r := ⟨89, 5, .slice A47 3 c47, 3, [.int .i64 3, .int .i64 2, .int .i64 0, .int .i64 0, .int .u64 1, .int .i64 5, .int .i64 1, .int .i64 0, .int .i64 0, .int .u64 0, .int .i64 5, .int .i64 3, .int .i64 0, .int .i64 0, .int .u64 2]⟩) rfl rfl).part 0 5
 refine Ld 27 A47 (0 * 5 + 0) (.tmp 13) (.agg #[N6 3, N6 2, N6 0, N6 0]) [N6 3, N6 2, N6 0, N6 0] (at70.part 0 4) ?_
 refine Rn 5 (.ex .ret) [] ⟨15, [(2, .own 2 0), (3, VB true)], [(2, ⟨27, [I6 3, I6 2, I6 0, I6 0]⟩), (1002, ⟨27, [I6 0, I6 0, I6 0, I6 0]⟩), (2700, ⟨87, [VL A47 3 c47, I7 3]⟩)]⟩ ?_
 refine fin65 _ _ _ _ [.agg #[N6 3, N6 2, N6 0, N6 0], .bool true] [(2, ⟨27, [I6 0, I6 0, I6 0, I6 0]⟩), (1700, ⟨87, [VL A47 3 c47, I7 3]⟩)] (.inl rfl) (by kernel_rfl) (by kernel_rfl) ?_
 refine Rn 30 (Qc B16 62) [Qs B16 63] ⟨45, [(0, .own 1700 0), (2, .own 2 0), (3, VB false), (4, .own 4 0), (6, I6 2)], [(2, ⟨27, [I6 0, I6 0, I6 0, I6 0]⟩), (4, ⟨27, [I6 3, I6 2, I6 0, I6 0]⟩), (1700, ⟨87, [VL A47 3 c47, I7 3]⟩)]⟩ ?_
 refine Og 5 B16 62 13 [⟨some 0, 1700, 87, [VL A47 3 c47, I7 3]⟩] [(18, RR 89 5 A47 3 c47 [N6 3, N6 2, N6 0, N6 0, N7 1, N6 5, N6 1, N6 0, N6 0, N7 0, N6 5, N6 3, N6 0, N6 0, N7 2])] [12] ⟨⟨fun _ h => (by cases h; rfl), rfl⟩, trivial⟩ (by intro p hp hn; simp only [List.mem_cons, List.not_mem_nil, or_false] at hp; rcases hp with rfl <;> first | (cases hn; done) | exact hM64 _ (Nat.le_of_ble_eq_true rfl)) (fun ρ0 => ?_)
 refine Tk 0 13 1 B16 62 (.own 1700 0) hQ64 ?_
 refine XD.nilOwn (i := 1) (l' := (lb 13 3)) (oA B16 (pa 62) 1) (x := .tmp 21) (b := 1700) (off := 0) hQ64 (by kernel_rfl) (by kernel_rfl) (by kernel_rfl) (by kernel_rfl) (by kernel_rfl) (by kernel_rfl) ?_
 refine Tk 2 13 7 B16 62 (.own 1700 0) hQ64 ?_
 refine Tk 3 13 15 B16 62 (VL A47 3 c47) hQ64 ?_
 refine Tk 4 13 31 B16 62 (.own 1700 0) hQ64 ?_
 refine XD.nilOwn (i := 5) (l' := (lb 13 63)) (oA B16 (pa 62) 5) (x := .tmp 25) (b := 1700) (off := 0) hQ64 (by kernel_rfl) (by kernel_rfl) (by kernel_rfl) (by kernel_rfl) (by kernel_rfl) (by kernel_rfl) ?_
 refine Tk 6 13 127 B16 62 (.own 1700 0) hQ64 ?_
 refine Tk 7 13 255 B16 62 (VL A47 3 c47) hQ64 ?_
 refine Tk 8 13 511 B16 62 (I6 2) hQ64 ?_
 have b72 : (0 : Int) ≤ 2 := by omega
 have b73 : 2 < ((3 : Nat) : Int) := by omega
 have at74 : At G [(18, ⟨89, 5, .slice A47 3 c47, 3, [.int .i64 3, .int .i64 2, .int .i64 0, .int .i64 0, .int .u64 1, .int .i64 5, .int .i64 1, .int .i64 0, .int .i64 0, .int .u64 0, .int .i64 5, .int .i64 3, .int .i64 0, .int .i64 0, .int .u64 2]⟩)] A47 (2 * 5) [.int .i64 5, .int .i64 3, .int .i64 0, .int .i64 0, .int .u64 2] := (At.of_row (i := 18) (r := ⟨89, 5, .slice A47 3 c47, 3, [.int .i64 3, .int .i64 2, .int .i64 0, .int .i64 0, .int .u64 1, .int .i64 5, .int .i64 1, .int .i64 0, .int .i64 0, .int .u64 0, .int .i64 5, .int .i64 3, .int .i64 0, .int .i64 0, .int .u64 2]⟩) rfl rfl).part 10 5
 refine Dx 9 13 1023 B16 62 84 89 5 A47 3 c47 .i64 2 (.tmp 28) (.tmp 29) hQ64 b72 b73 (rowSome (i := 18) (q := (RR 89 5 A47 3 c47 [N6 3, N6 2, N6 0, N6 0, N7 1, N6 5, N6 1, N6 0, N6 0, N7 0, N6 5, N6 3, N6 0, N6 0, N7 2])) rfl rfl (Nat.succ_pos _)) ?_
 have at75 : At G [(18, ⟨89, 5, .slice A47 3 c47, 3, [.int .i64 3, .int .i64 2, .int .i64 0, .int .i64 0, .int .u64 1, .int .i64 5, .int .i64 1, .int .i64 0, .int .i64 0, .int .u64 0, .int .i64 5, .int .i64 3, .int .i64 0, .int .i64 0, .int .u64 2]⟩)] A47 (2 * 5) [.int .i64 5, .int .i64 3, .int .i64 0, .int .i64 0, .int .u64 2] := (At.of_row (i := 18) (r := ⟨89, 5, .slice A47 3 c47, 3, [.int .i64 3, .int .i64 2, .int .i64 0, .int .i64 0, .int .u64 1, .int .i64 5, .int .i64 1, .int .i64 0, .int .i64 0, .int .u64 0, .int .i64 5, .int .i64 3, .int .i64 0, .int .i64 0, .int .u64 2]⟩) rfl rfl).part 10 5
 refine Dl 10 13 2047 B16 62 89 A47 (2 * 5) (.tmp 30) (.agg #[N6 5, N6 3, N6 0, N6 0, N7 2]) [N6 5, N6 3, N6 0, N6 0, N7 2] hQ64 at75 ?_
 have b76 : (0 : Int) ≤ 0 := by omega
 have b77 : 0 < ((3 : Nat) : Int) := by omega
 have at78 : At G [(18, ⟨89, 5, .slice A47 3 c47, 3, [.int .i64 3, .int .i64 2, .int .i64 0, .int .i64 0, .int .u64 1, .int .i64 5, .int .i64 1, .int .i64 0, .int .i64 0, .int .u64 0, .int .i64 5, .int .i64 3, .int .i64 0, .int .i64 0, .int .u64 2]⟩)] A47 (0 * 5) [.int .i64 3, .int .i64 2, .int .i64 0, .int .i64 0, .int .u64 1] := (At.of_row (i := 18) (r := ⟨89, 5, .slice A47 3 c47, 3, [.int .i64 3, .int .i64 2, .int .i64 0, .int .i64 0, .int .u64 1, .int .i64 5, .int .i64 1, .int .i64 0, .int .i64 0, .int .u64 0, .int .i64 5, .int .i64 3, .int .i64 0, .int .i64 0, .int .u64 2]⟩) rfl rfl).part 0 5
 refine Dx 11 13 4095 B16 62 84 89 5 A47 3 c47 .i64 0 (.tmp 24) (.const (N6 0)) hQ64 b76 b77 (rowSome (i := 18) (q := (RR 89 5 A47 3 c47 [N6 3, N6 2, N6 0, N6 0, N7 1, N6 5, N6 1, N6 0, N6 0, N7 0, N6 5, N6 3, N6 0, N6 0, N7 2])) rfl rfl (Nat.succ_pos _)) ?_
 refine XD.toE ?_
 refine En ⟨45, [(0, .own 1700 0), (2, .own 2 0), (3, VB false), (4, .own 4 0), (6, I6 2), (31, .v (.agg #[N6 5, N6 3, N6 0, N6 0, N7 2])), (32, .v (elt A47 (0 * 5)))], [(2, ⟨27, [I6 0, I6 0, I6 0, I6 0]⟩), (4, ⟨27, [I6 3, I6 2, I6 0, I6 0]⟩), (1700, ⟨87, [VL A47 3 c47, I7 3]⟩)]⟩ ?_
 refine Eo 12 13 8191 B16 62 ?_
 refine X.storeElem (i := 18) (t := 89) (j := 0 * 5) (n := 3) (c := c47) (q := (RR 89 5 A47 3 c47 [N6 3, N6 2, N6 0, N6 0, N7 1, N6 5, N6 1, N6 0, N6 0, N7 0, N6 5, N6 3, N6 0, N6 0, N7 2])) (A := A47) (x := .tmp 32) (y := .tmp 31) (z := .agg #[N6 5, N6 3, N6 0, N6 0, N7 2]) (by kernel_rfl) (by kernel_rfl) (by kernel_rfl) rfl rfl (by kernel_rfl) (Nat.le_of_ble_eq_true rfl) (by kernel_rfl) (Nat.succ_pos _) (by kernel_rfl) ?_
 refine X.tellR [18, 17] (R' := [(18, RR 89 5 A47 3 c47 [N6 5, N6 3, N6 0, N6 0, N7 2, N6 5, N6 1, N6 0, N6 0, N7 0, N6 5, N6 3, N6 0, N6 0, N7 2]), (17, RR 89 5 A46 1 1 [N6 5, N6 3, N6 0, N6 0, N7 2])]) rfl ?_
 refine X.back ?_
 refine XE.done (by kernel_rfl) ?_
 refine Rn 9 (Qo B16 126 6) [Qs B16 127] ⟨45, [(0, .own 1700 0), (2, .own 2 0), (3, VB false), (4, .own 4 0), (33, .own 1700 0), (37, VL A47 3 c47), (38, I6 2)], [(2, ⟨27, [I6 0, I6 0, I6 0, I6 0]⟩), (4, ⟨27, [I6 3, I6 2, I6 0, I6 0]⟩), (1700, ⟨87, [VL A47 3 c47, I7 3]⟩)]⟩ ?_
 have hlo79 : 0 ≤ 2 := by omega
 have hhi79 : 2 ≤ 3 := by omega
 refine X.cut (t := 84) (e := 89) (sz := 5) (n := 3) (c := c47) (A := A47) (x := .tmp 37) (l := none) (h := (some (.tmp 38))) (lv := none) (hv := (some (N6 2))) 0 2 (by kernel_rfl) (by kernel_rfl) (by kernel_rfl) (by kernel_rfl) (by kernel_rfl) (by kernel_rfl) (by kernel_rfl) (rfl) (⟨_, _, rfl, by omega, rfl⟩) hlo79 (Nat.le_trans hhi79 (by omega)) ?_
 refine X.known 39 (y := VL A47 2 c47) rfl (by rw [cutA_zero] <;> rfl) ?_
 refine Rn 8 (Qo B16 254 1) [Qs B16 255] ⟨45, [(2, .own 2 0), (3, VB false), (4, .own 4 0), (42, .own 1700 0)], [(2, ⟨27, [I6 0, I6 0, I6 0, I6 0]⟩), (4, ⟨27, [I6 3, I6 2, I6 0, I6 0]⟩), (1700, ⟨87, [VL A47 2 c47, I7 3]⟩)]⟩ ?_
 refine X.inline (f := 50) (l := [.own 1700 0, I6 0]) (fn := Try.f50) (c := B50) (by kernel_rfl) (by kernel_rfl) Try.func50 (by kernel_rfl) ?_
 intro Q80 M80 hM80 hQ80 fin80
 refine Rn 8 (Qc B50 6) [.blk 0] ⟨67, [(0, .own 2700 0), (1, I6 0), (4, .mth 81 2700 0)], [(1002, ⟨27, [I6 0, I6 0, I6 0, I6 0]⟩), (1004, ⟨27, [I6 3, I6 2, I6 0, I6 0]⟩), (2700, ⟨87, [VL A47 2 c47, I7 3]⟩)]⟩ ?_
 refine X.rounds 7 ?_
 refine RX.succ fun J81 hJ81 => ?_
 refine Rn 53 (Qo B50 796 3) [Qs B50 797, Qs B50 399, .blk 1, .loop J81, .blk 0] ⟨67, [(0, .own 2700 0), (1, I6 0), (4, .mth 81 2700 0), (5, I6 1), (8, I6 0), (9, I6 0), (10, I6 1), (11, I6 1), (12, .own 2700 0), (13, .own 2700 0), (14, .own 2700 0), (15, VL A47 2 c47), (16, I6 2), (17, VB false), (18, I6 1), (19, I6 2), (20, .own 2700 0), (21, .own 2700 0), (22, .own 2700 0), (23, VL A47 2 c47), (24, I6 2), (25, VB false), (26, VB false), (27, .v (undef)), (28, .v (undef)), (29, .v (undef)), (30, .v (undef)), (31, .v (undef)), (32, VB false), (35, .mth 81 2700 0), (36, I6 1), (37, I6 0)], [(1002, ⟨27, [I6 0, I6 0, I6 0, I6 0]⟩), (1004, ⟨27, [I6 3, I6 2, I6 0, I6 0]⟩), (2700, ⟨87, [VL A47 2 c47, I7 3]⟩)]⟩ ?_
 refine X.inline (f := 81) (l := [.own 2700 0, I6 1, I6 0]) (fn := Try.f81) (c := B81) (by kernel_rfl) (by kernel_rfl) Try.func81 (by kernel_rfl) ?_
 intro Q82 M82 hM82 hQ82 fin82
 refine Rn 6 (Qc B81 6) [Qs B81 7] ⟨52, [(0, .own 3700 0), (1, I6 1), (2, I6 0), (6, VB false)], [(2002, ⟨27, [I6 0, I6 0, I6 0, I6 0]⟩), (2004, ⟨27, [I6 3, I6 2, I6 0, I6 0]⟩), (3700, ⟨87, [VL A47 2 c47, I7 3]⟩)]⟩ ?_
 refine Og 1 B81 6 14 [⟨some 0, 3700, 87, [VL A47 2 c47, I7 3]⟩] [(18, RR 89 5 A47 3 c47 [N6 5, N6 3, N6 0, N6 0, N7 2, N6 5, N6 1, N6 0, N6 0, N7 0, N6 5, N6 3, N6 0, N6 0, N7 2])] [] ⟨⟨fun _ h => (by cases h; rfl), rfl⟩, trivial⟩ (by intro p hp hn; simp only [List.mem_cons, List.not_mem_nil, or_false] at hp; rcases hp with rfl <;> first | (cases hn; done) | exact hM82 _ (Nat.le_of_ble_eq_true rfl)) (fun ρ0 => ?_)
 refine Tk 0 14 1 B81 6 (.own 3700 0) hQ82 ?_
 refine XD.nilOwn (i := 1) (l' := (lb 14 3)) (oA B81 (pa 6) 1) (x := .tmp 9) (b := 3700) (off := 0) hQ82 (by kernel_rfl) (by kernel_rfl) (by kernel_rfl) (by kernel_rfl) (by kernel_rfl) (by kernel_rfl) ?_
 refine Tk 2 14 7 B81 6 (.own 3700 0) hQ82 ?_
 refine Tk 3 14 15 B81 6 (VL A47 2 c47) hQ82 ?_
 refine Tk 4 14 31 B81 6 (I6 1) hQ82 ?_
 have b84 : (0 : Int) ≤ 1 := by omega
 have b85 : 1 < ((2 : Nat) : Int) := by omega
 have at86 : At G [(18, ⟨89, 5, .slice A47 3 c47, 3, [.int .i64 5, .int .i64 3, .int .i64 0, .int .i64 0, .int .u64 2, .int .i64 5, .int .i64 1, .int .i64 0, .int .i64 0, .int .u64 0, .int .i64 5, .int .i64 3, .int .i64 0, .int .i64 0, .int .u64 2]⟩)] A47 (1 * 5) [.int .i64 5, .int .i64 1, .int .i64 0, .int .i64 0, .int .u64 0] := (At.of_row (i := 18) (r := ⟨89, 5, .slice A47 3 c47, 3, [.int .i64 5, .int .i64 3, .int .i64 0, .int .i64 0, .int .u64 2, .int .i64 5, .int .i64 1, .int .i64 0, .int .i64 0, .int .u64 0, .int .i64 5, .int .i64 3, .int .i64 0, .int .i64 0, .int .u64 2]⟩) rfl rfl).part 5 5
 refine Dx 5 14 63 B81 6 84 89 5 A47 2 c47 .i64 1 (.tmp 12) (.tmp 13) hQ82 b84 b85 (rowSome (i := 18) (q := (RR 89 5 A47 3 c47 [N6 5, N6 3, N6 0, N6 0, N7 2, N6 5, N6 1, N6 0, N6 0, N7 0, N6 5, N6 3, N6 0, N6 0, N7 2])) rfl rfl (Nat.succ_pos _)) ?_
 refine Tk 6 14 127 B81 6 (.own 3700 0) hQ82 ?_
 refine XD.nilOwn (i := 7) (l' := (lb 14 255)) (oA B81 (pa 6) 7) (x := .tmp 15) (b := 3700) (off := 0) hQ82 (by kernel_rfl) (by kernel_rfl) (by kernel_rfl) (by kernel_rfl) (by kernel_rfl) (by kernel_rfl) ?_
 refine Tk 8 14 511 B81 6 (.own 3700 0) hQ82 ?_
 refine Tk 9 14 1023 B81 6 (VL A47 2 c47) hQ82 ?_
 refine Tk 10 14 2047 B81 6 (I6 0) hQ82 ?_
 have b87 : (0 : Int) ≤ 0 := by omega
 have b88 : 0 < ((2 : Nat) : Int) := by omega
 have at89 : At G [(18, ⟨89, 5, .slice A47 3 c47, 3, [.int .i64 5, .int .i64 3, .int .i64 0, .int .i64 0, .int .u64 2, .int .i64 5, .int .i64 1, .int .i64 0, .int .i64 0, .int .u64 0, .int .i64 5, .int .i64 3, .int .i64 0, .int .i64 0, .int .u64 2]⟩)] A47 (0 * 5) [.int .i64 5, .int .i64 3, .int .i64 0, .int .i64 0, .int .u64 2] := (At.of_row (i := 18) (r := ⟨89, 5, .slice A47 3 c47, 3, [.int .i64 5, .int .i64 3, .int .i64 0, .int .i64 0, .int .u64 2, .int .i64 5, .int .i64 1, .int .i64 0, .int .i64 0, .int .u64 0, .int .i64 5, .int .i64 3, .int .i64 0, .int .i64 0, .int .u64 2]⟩) rfl rfl).part 0 5
 refine Dx 11 14 4095 B81 6 84 89 5 A47 2 c47 .i64 0 (.tmp 18) (.tmp 19) hQ82 b87 b88 (rowSome (i := 18) (q := (RR 89 5 A47 3 c47 [N6 5, N6 3, N6 0, N6 0, N7 2, N6 5, N6 1, N6 0, N6 0, N7 0, N6 5, N6 3, N6 0, N6 0, N7 2])) rfl rfl (Nat.succ_pos _)) ?_
 refine Ts [12, 13] 14 16383 0 2 hQ82 ?_
 refine XD.done (by kernel_rfl) ?_
 refine Rn 3 (Qc B81 28) [Qs B81 29, Qs B81 15] ⟨52, [(6, VB false), (7, .v (elt A47 (1 * 5))), (8, .v (elt A47 (0 * 5)))], [(2002, ⟨27, [I6 0, I6 0, I6 0, I6 0]⟩), (2004, ⟨27, [I6 3, I6 2, I6 0, I6 0]⟩), (3700, ⟨87, [VL A47 2 c47, I7 3]⟩)]⟩ ?_
 refine Og 2 B81 28 11 [] [(18, RR 89 5 A47 3 c47 [N6 5, N6 3, N6 0, N6 0, N7 2, N6 5, N6 1, N6 0, N6 0, N7 0, N6 5, N6 3, N6 0, N6 0, N7 2])] [] trivial (by simp) (fun ρ0 => ?_)
 refine Tk 0 11 1 B81 28 (.v (elt A47 (1 * 5))) hQ82 ?_
 refine XD.nilElt (i := 1) (l' := (lb 11 3)) (oA B81 (pa 28) 1) (x := .tmp 21) (A := A47) (j := 1 * 5) hQ82 (by kernel_rfl) (by kernel_rfl) (by kernel_rfl) (by kernel_rfl) (by kernel_rfl) (by kernel_rfl) ?_
 refine XD.field (i := 2) (l' := (lb 11 7)) (o := (oA B81 (pa 28) 2)) (t := 89) (f := 0) (n := 0) (A := A47) (j := 1 * 5) (x := .tmp 22) hQ82 (by kernel_rfl) (by kernel_rfl) (by kernel_rfl) (by kernel_rfl) (by kernel_rfl) (by kernel_rfl) (by kernel_rfl) ?_
 refine XD.field (i := 3) (l' := (lb 11 15)) (o := (oA B81 (pa 28) 3)) (t := 27) (f := 0) (n := 0) (A := A47) (j := 1 * 5 + 0) (x := .tmp 23) hQ82 (by kernel_rfl) (by kernel_rfl) (by kernel_rfl) (by kernel_rfl) (by kernel_rfl) (by kernel_rfl) (by kernel_rfl) ?_
 have at91 : At G [(18, ⟨89, 5, .slice A47 3 c47, 3, [.int .i64 5, .int .i64 3, .int .i64 0, .int .i64 0, .int .u64 2, .int .i64 5, .int .i64 1, .int .i64 0, .int .i64 0, .int .u64 0, .int .i64 5, .int .i64 3, .int .i64 0, .int .i64 0, .int .u64 2]⟩)] A47 (1 * 5) [.int .i64 5, .int .i64 1, .int .i64 0, .int .i64 0, .int .u64 0] := (At.of_row (i := 18) (r := ⟨89, 5, .slice A47 3 c47, 3, [.int .i64 5, .int .i64 3, .int .i64 0, .int .i64 0, .int .u64 2, .int .i64 5, .int .i64 1, .int .i64 0, .int .i64 0, .int .u64 0, .int .i64 5, .int .i64 3, .int .i64 0, .int .i64 0, .int .u64 2]⟩) rfl rfl).part 5 5
 refine Dl 4 11 31 B81 28 2 A47 (1 * 5 + 0 + 0) (.tmp 24) (N6 5) [N6 5] hQ82 (at91.part 0 1) ?_
 refine Tk 5 11 63 B81 28 (.v (elt A47 (0 * 5))) hQ82 ?_
 refine XD.nilElt (i := 6) (l' := (lb 11 127)) (oA B81 (pa 28) 6) (x := .tmp 26) (A := A47) (j := 0 * 5) hQ82 (by kernel_rfl) (by kernel_rfl) (by kernel_rfl) (by kernel_rfl) (by kernel_rfl) (by kernel_rfl) ?_
 refine XD.field (i := 7) (l' := (lb 11 255)) (o := (oA B81 (pa 28) 7)) (t := 89) (f := 0) (n := 0) (A := A47) (j := 0 * 5) (x := .tmp 27) hQ82 (by kernel_rfl) (by kernel_rfl) (by kernel_rfl) (by kernel_rfl) (by kernel_rfl) (by kernel_rfl) (by kernel_rfl) ?_
 refine XD.field (i := 8) (l' := (lb 11 511)) (o := (oA B81 (pa 28) 8)) (t := 27) (f := 0) (n := 0) (A := A47) (j := 0 * 5 + 0) (x := .tmp 28) hQ82 (by kernel_rfl) (by kernel_rfl) (by kernel_rfl) (by kernel_rfl) (by kernel_rfl) (by kernel_rfl) (by kernel_rfl) ?_
 have at92 : At G [(18, ⟨89, 5, .slice A47 3 c47, 3, [.int .i64 5, .int .i64 3, .int .i64 0, .int .i64 0, .int .u64 2, .int .i64 5, .int .i64 1, .int .i64 0, .int .i64 0, .int .u64 0, .int .i64 5, .int .i64 3, .int .i64 0, .int .i64 0, .int .u64 2]⟩)] A47 (0 * 5) [.int .i64 5, .int .i64 3, .int .i64 0, .int .i64 0, .int .u64 2] := (At.of_row (i := 18) (r := ⟨89, 5, .slice A47 3 c47, 3, [.int .i64 5, .int .i64 3, .int .i64 0, .int .i64 0, .int .u64 2, .int .i64 5, .int .i64 1, .int .i64 0, .int .i64 0, .int .u64 0, .int .i64 5, .int .i64 3, .int .i64 0, .int .i64 0, .int .u64 2]⟩) rfl rfl).part 0 5
 refine Dl 9 11 1023 B81 28 2 A47 (0 * 5 + 0 + 0) (.tmp 29) (N6 5) [N6 5] hQ82 (at92.part 0 1) ?_
 refine Ts [10] 11 2047 0 1 hQ82 ?_
 refine XD.done (by kernel_rfl) ?_
 refine Rn 5 (Qc B81 30) [Qs B81 31] ⟨52, [(6, VB false), (7, .v (elt A47 (1 * 5))), (8, .v (elt A47 (0 * 5)))], [(2002, ⟨27, [I6 0, I6 0, I6 0, I6 0]⟩), (2004, ⟨27, [I6 3, I6 2, I6 0, I6 0]⟩), (3700, ⟨87, [VL A47 2 c47, I7 3]⟩)]⟩ ?_
 refine Og 4 B81 30 10 [] [(18, RR 89 5 A47 3 c47 [N6 5, N6 3, N6 0, N6 0, N7 2, N6 5, N6 1, N6 0, N6 0, N7 0, N6 5, N6 3, N6 0, N6 0, N7 2])] [] trivial (by simp) (fun ρ0 => ?_)
 refine Tk 0 10 1 B81 30 (.v (elt A47 (1 * 5))) hQ82 ?_
 refine XD.nilElt (i := 1) (l' := (lb 10 3)) (oA B81 (pa 30) 1) (x := .tmp 43) (A := A47) (j := 1 * 5) hQ82 (by kernel_rfl) (by kernel_rfl) (by kernel_rfl) (by kernel_rfl) (by kernel_rfl) (by kernel_rfl) ?_
 refine XD.field (i := 2) (l' := (lb 10 7)) (o := (oA B81 (pa 30) 2)) (t := 89) (f := 1) (n := 4) (A := A47) (j := 1 * 5) (x := .tmp 44) hQ82 (by kernel_rfl) (by kernel_rfl) (by kernel_rfl) (by kernel_rfl) (by kernel_rfl) (by kernel_rfl) (by kernel_rfl) ?_
 have at94 : At G [(18, ⟨89, 5, .slice A47 3 c47, 3, [.int .i64 5, .int .i64 3, .int .i64 0, .int .i64 0, .int .u64 2, .int .i64 5, .int .i64 1, .int .i64 0, .int .i64 0, .int .u64 0, .int .i64 5, .int .i64 3, .int .i64 0, .int .i64 0, .int .u64 2]⟩)] A47 (1 * 5) [.int .i64 5, .int .i64 1, .int .i64 0, .int .i64 0, .int .u64 0] := (At.of_row (i := 18) (r := ⟨89, 5, .slice A47 3 c47, 3, [.int .i64 5, .int .i64 3, .int .i64 0, .int .i64 0, .int .u64 2, .int .i64 5, .int .i64 1, .int .i64 0, .int .i64 0, .int .u64 0, .int .i64 5, .int .i64 3, .int .i64 0, .int .i64 0, .int .u64 2]⟩) rfl rfl).part 5 5
 refine Dl 3 10 15 B81 30 85 A47 (1 * 5 + 4) (.tmp 45) (N7 0) [N7 0] hQ82 (at94.part 4 1) ?_
 refine Tk 4 10 31 B81 30 (.v (elt A47 (0 * 5))) hQ82 ?_
 refine XD.nilElt (i := 5) (l' := (lb 10 63)) (oA B81 (pa 30) 5) (x := .tmp 47) (A := A47) (j := 0 * 5) hQ82 (by kernel_rfl) (by kernel_rfl) (by kernel_rfl) (by kernel_rfl) (by kernel_rfl) (by kernel_rfl) ?_
 refine XD.field (i := 6) (l' := (lb 10 127)) (o := (oA B81 (pa 30) 6)) (t := 89) (f := 1) (n := 4) (A := A47) (j := 0 * 5) (x := .tmp 48) hQ82 (by kernel_rfl) (by kernel_rfl) (by kernel_rfl) (by kernel_rfl) (by kernel_rfl) (by kernel_rfl) (by kernel_rfl) ?_
 have at95 : At G [(18, ⟨89, 5, .slice A47 3 c47, 3, [.int .i64 5, .int .i64 3, .int .i64 0, .int .i64 0, .int .u64 2, .int .i64 5, .int .i64 1, .int .i64 0, .int .i64 0, .int .u64 0, .int .i64 5, .int .i64 3, .int .i64 0, .int .i64 0, .int .u64 2]⟩)] A47 (0 * 5) [.int .i64 5, .int .i64 3, .int .i64 0, .int .i64 0, .int .u64 2] := (At.of_row (i := 18) (r := ⟨89, 5, .slice A47 3 c47, 3, [.int .i64 5, .int .i64 3, .int .i64 0, .int .i64 0, .int .u64 2, .int .i64 5, .int .i64 1, .int .i64 0, .int .i64 0, .int .u64 0, .int .i64 5, .int .i64 3, .int .i64 0, .int .i64 0, .int .u64 2]⟩) rfl rfl).part 0 5
 refine Dl 7 10 255 B81 30 85 A47 (0 * 5 + 4) (.tmp 49) (N7 2) [N7 2] hQ82 (at95.part 4 1) ?_
 refine Ts [8, 9] 10 1023 0 2 hQ82 ?_
 refine XD.done (by kernel_rfl) ?_
 refine Rn 2 (.ex .ret) [] ⟨52, [(6, VB true)], [(2002, ⟨27, [I6 0, I6 0, I6 0, I6 0]⟩), (2004, ⟨27, [I6 3, I6 2, I6 0, I6 0]⟩), (3700, ⟨87, [VL A47 2 c47, I7 3]⟩)]⟩ ?_
 refine fin82 _ _ _ _ [.bool true] [(1002, ⟨27, [I6 0, I6 0, I6 0, I6 0]⟩), (1004, ⟨27, [I6 3, I6 2, I6 0, I6 0]⟩), (2700, ⟨87, [VL A47 2 c47, I7 3]⟩)] (.inl rfl) (by kernel_rfl) (by kernel_rfl) ?_
 refine Rn 7 (Qc B50 798) [Qs B50 799, .blk 1, .loop J81, .blk 0] ⟨67, [(0, .own 2700 0), (1, I6 0), (4, .mth 81 2700 0), (5, I6 1), (8, I6 0), (9, I6 0), (10, I6 1), (11, I6 1), (12, .own 2700 0), (13, .own 2700 0), (14, .own 2700 0), (15, VL A47 2 c47), (16, I6 2), (17, VB false), (18, I6 1), (19, I6 2), (20, .own 2700 0), (21, .own 2700 0), (22, .own 2700 0), (23, VL A47 2 c47), (24, I6 2), (25, VB false), (26, VB false), (27, .v (undef)), (28, .v (undef)), (29, .v (undef)), (30, .v (undef)), (31, .v (undef)), (32, VB false), (35, .mth 81 2700 0), (36, I6 1), (37, I6 0), (38, VB true), (39, VB false)], [(1002, ⟨27, [I6 0, I6 0, I6 0, I6 0]⟩), (1004, ⟨27, [I6 3, I6 2, I6 0, I6 0]⟩), (2700, ⟨87, [VL A47 2 c47, I7 3]⟩)]⟩ ?_
 refine Og 6 B50 798 28 [⟨some 0, 2700, 87, [VL A47 2 c47, I7 3]⟩] [(18, RR 89 5 A47 3 c47 [N6 5, N6 3, N6 0, N6 0, N7 2, N6 5, N6 1, N6 0, N6 0, N7 0, N6 5, N6 3, N6 0, N6 0, N7 2])] [25, 26, 27] ⟨⟨fun _ h => (by cases h; rfl), rfl⟩, trivial⟩ (by intro p hp hn; simp only [List.mem_cons, List.not_mem_nil, or_false] at hp; rcases hp with rfl <;> first | (cases hn; done) | exact hM80 _ (Nat.le_of_ble_eq_true rfl)) (fun ρ0 => ?_)
 refine Tk 0 28 1 B50 798 (.own 2700 0) hQ80 ?_
 refine XD.nilOwn (i := 1) (l' := (lb 28 3)) (oA B50 (pa 798) 1) (x := .tmp 40) (b := 2700) (off := 0) hQ80 (by kernel_rfl) (by kernel_rfl) (by kernel_rfl) (by kernel_rfl) (by kernel_rfl) (by kernel_rfl) ?_
 refine Tk 2 28 7 B50 798 (.own 2700 0) hQ80 ?_
 refine Tk 3 28 15 B50 798 (VL A47 2 c47) hQ80 ?_
 refine Tk 4 28 31 B50 798 (I6 0) hQ80 ?_
 refine Tk 5 28 63 B50 798 (.own 2700 0) hQ80 ?_
 refine XD.nilOwn (i := 6) (l' := (lb 28 127)) (oA B50 (pa 798) 6) (x := .tmp 45) (b := 2700) (off := 0) hQ80 (by kernel_rfl) (by kernel_rfl) (by kernel_rfl) (by kernel_rfl) (by kernel_rfl) (by kernel_rfl) ?_
 refine Tk 7 28 255 B50 798 (.own 2700 0) hQ80 ?_
 refine Tk 8 28 511 B50 798 (VL A47 2 c47) hQ80 ?_
 refine XD.pureMove (i := 9) (l' := (lb 28 1023)) (x := .tmp 5) (oA B50 (pa 798) 9) (I6 1) hQ80 (by kernel_rfl) (by kernel_rfl) (by kernel_rfl) (by kernel_rfl) (by kernel_rfl) (by kernel_rfl) ?_
 refine Tk 10 28 2047 B50 798 (.own 2700 0) hQ80 ?_
 refine XD.nilOwn (i := 11) (l' := (lb 28 4095)) (oA B50 (pa 798) 11) (x := .tmp 50) (b := 2700) (off := 0) hQ80 (by kernel_rfl) (by kernel_rfl) (by kernel_rfl) (by kernel_rfl) (by kernel_rfl) (by kernel_rfl) ?_
 refine Tk 12 28 8191 B50 798 (.own 2700 0) hQ80 ?_
 refine Tk 13 28 16383 B50 798 (VL A47 2 c47) hQ80 ?_
 refine Tk 14 28 32767 B50 798 (I6 1) hQ80 ?_
 have b97 : (0 : Int) ≤ 1 := by omega
 have b98 : 1 < ((2 : Nat) : Int) := by omega
 have at99 : At G [(18, ⟨89, 5, .slice A47 3 c47, 3, [.int .i64 5, .int .i64 3, .int .i64 0, .int .i64 0, .int .u64 2, .int .i64 5, .int .i64 1, .int .i64 0, .int .i64 0, .int .u64 0, .int .i64 5, .int .i64 3, .int .i64 0, .int .i64 0, .int .u64 2]⟩)] A47 (1 * 5) [.int .i64 5, .int .i64 1, .int .i64 0, .int .i64 0, .int .u64 0] := (At.of_row (i := 18) (r := ⟨89, 5, .slice A47 3 c47, 3, [.int .i64 5, .int .i64 3, .int .i64 0, .int .i64 0, .int .u64 2, .int .i64 5, .int .i64 1, .int .i64 0, .int .i64 0, .int .u64 0, .int .i64 5, .int .i64 3, .int .i64 0, .int .i64 0, .int .u64 2]⟩) rfl rfl).part 5 5
 refine Dx 15 28 65535 B50 798 84 89 5 A47 2 c47 .i64 1 (.tmp 53) (.tmp 54) hQ80 b97 b98 (rowSome (i := 18) (q := (RR 89 5 A47 3 c47 [N6 5, N6 3, N6 0, N6 0, N7 2, N6 5, N6 1, N6 0, N6 0, N7 0, N6 5, N6 3, N6 0, N6 0, N7 2])) rfl rfl (Nat.succ_pos _)) ?_
 have at100 : At G [(18, ⟨89, 5, .slice A47 3 c47, 3, [.int .i64 5, .int .i64 3, .int .i64 0, .int .i64 0, .int .u64 2, .int .i64 5, .int .i64 1, .int .i64 0, .int .i64 0, .int .u64 0, .int .i64 5, .int .i64 3, .int .i64 0, .int .i64 0, .int .u64 2]⟩)] A47 (1 * 5) [.int .i64 5, .int .i64 1, .int .i64 0, .int .i64 0, .int .u64 0] := (At.of_row (i := 18) (r := ⟨89, 5, .slice A47 3 c47, 3, [.int .i64 5, .int .i64 3, .int .i64 0, .int .i64 0, .int .u64 2, .int .i64 5, .int .i64 1, .int .i64 0, .int .i64 0, .int .u64 0, .int .i64 5, .int .i64 3, .int .i64 0, .int .i64 0, .int .u64 2]⟩) rfl rfl).part 5 5
 refine Dl 16 28 131071 B50 798 89 A47 (1 * 5) (.tmp 55) (.agg #[N6 5, N6 1, N6 0, N6 0, N7 0]) [N6 5, N6 1, N6 0, N6 0, N7 0] hQ80 at100 ?_
 refine Tk 17 28 262143 B50 798 (.own 2700 0) hQ80 ?_
 refine XD.nilOwn (i := 18) (l' := (lb 28 524287)) (oA B50 (pa 798) 18) (x := .tmp 57) (b := 2700) (off := 0) hQ80 (by kernel_rfl) (by kernel_rfl) (by kernel_rfl) (by kernel_rfl) (by kernel_rfl) (by kernel_rfl) ?_
 refine Tk 19 28 1048575 B50 798 (.own 2700 0) hQ80 ?_
 refine Tk 20 28 2097151 B50 798 (VL A47 2 c47) hQ80 ?_
 refine Tk 21 28 4194303 B50 798 (I6 0) hQ80 ?_
 have b101 : (0 : Int) ≤ 0 := by omega
 have b102 : 0 < ((2 : Nat) : Int) := by omega
 have at103 : At G [(18, ⟨89, 5, .slice A47 3 c47, 3, [.int .i64 5, .int .i64 3, .int .i64 0, .int .i64 0, .int .u64 2, .int .i64 5, .int .i64 1, .int .i64 0, .int .i64 0, .int .u64 0, .int .i64 5, .int .i64 3, .int .i64 0, .int .i64 0, .int .u64 2]⟩)] A47 (0 * 5) [.int .i64 5, .int .i64 3, .int .i64 0, .int .i64 0, .int .u64 2] := (At.of_row (i := 18) (r := ⟨89, 5, .slice A47 3 c47, 3, [.int .i64 5, .int .i64 3, .int .i64 0, .int .i64 0, .int .u64 2, .int .i64 5, .int .i64 1, .int .i64 0, .int .i64 0, .int .u64 0, .int .i64 5, .int .i64 3, .int .i64 0, .int .i64 0, .int .u64 2]⟩) rfl rfl).part 0 5
 refine Dx 22 28 8388607 B50 798 84 89 5 A47 2 c47 .i64 0 (.tmp 60) (.tmp 61) hQ80 b101 b102 (rowSome (i := 18) (q := (RR 89 5 A47 3 c47 [N6 5, N6 3, N6 0, N6 0, N7 2, N6 5, N6 1, N6 0, N6 0, N7 0, N6 5, N6 3, N6 0, N6 0, N7 2])) rfl rfl (Nat.succ_pos _)) ?_
 have at104 : At G [(18, ⟨89, 5, .slice A47 3 c47, 3, [.int .i64 5, .int .i64 3, .int .i64 0, .int .i64 0, .int .u64 2, .int .i64 5, .int .i64 1, .int .i64 0, .int .i64 0, .int .u64 0, .int .i64 5, .int .i64 3, .int .i64 0, .int .i64 0, .int .u64 2]⟩)] A47 (0 * 5) [.int .i64 5, .int .i64 3, .int .i64 0, .int .i64 0, .int .u64 2] := (At.of_row (i := 18) (r := ⟨89, 5, .slice A47 3 c47, 3, [.int .i64 5, .int .i64 3, .int .i64 0, .int .i64 0, .int .u64 2, .int .i64 5, .int .i64 1, .int .i64 0, .int .i64 0, .int .u64 0, .int .i64 5, .int .i64 3, .int .i64 0, .int .i64 0, .int .u64 2]⟩) rfl rfl).part 0 5
 refine Dl 23 28 16777215 B50 798 89 A47 (0 * 5) (.tmp 62) (.agg #[N6 5, N6 3, N6 0, N6 0, N7 2]) [N6 5, N6 3, N6 0, N6 0, N7 2] hQ80 at104 ?_
 have b105 : (0 : Int) ≤ 0 := by omega
 have b106 : 0 < ((2 : Nat) : Int) := by omega
 have at107 : At G [(18, ⟨89, 5, .slice A47 3 c47, 3, [.int .i64 5, .int .i64 3, .int .i64 0, .int .i64 0, .int .u64 2, .int .i64 5, .int .i64 1, .int .i64 0, .int .i64 0, .int .u64 0, .int .i64 5, .int .i64 3, .int .i64 0, .int .i64 0, .int .u64 2]⟩)] A47 (0 * 5) [.int .i64 5, .int .i64 3, .int .i64 0, .int .i64 0, .int .u64 2] := (At.of_row (i := 18) (r := ⟨89, 5, .slice A47 3 c47, 3, [.int .i64 5, .int .i64 3, .int .i64 0, .int .i64 0, .int .u64 2, .int .i64 5, .int .i64 1, .int .i64 0, .int .i64 0, .int .u64 0, .int .i64 5, .int .i64 3, .int .i64 0, .int .i64 0, .int .u64 2]⟩) rfl rfl).part 0 5
 refine Dx 24 28 33554431 B50 798 84 89 5 A47 2 c47 .i64 0 (.tmp 43) (.tmp 44) hQ80 b105 b106 (rowSome (i := 18) (q := (RR 89 5 A47 3 c47 [N6 5, N6 3, N6 0, N6 0, N7 2, N6 5, N6 1, N6 0, N6 0, N7 0, N6 5, N6 3, N6 0, N6 0, N7 2])) rfl rfl (Nat.succ_pos _)) ?_
 refine XD.toE ?_
 refine En ⟨67, [(0, .own 2700 0), (1, I6 0), (4, .mth 81 2700 0), (5, I6 1), (8, I6 0), (9, I6 0), (10, I6 1), (11, I6 1), (12, .own 2700 0), (13, .own 2700 0), (14, .own 2700 0), (15, VL A47 2 c47), (16, I6 2), (17, VB false), (18, I6 1), (19, I6 2), (20, .own 2700 0), (21, .own 2700 0), (22, .own 2700 0), (23, VL A47 2 c47), (24, I6 2), (25, VB false), (26, VB false), (27, .v (undef)), (28, .v (undef)), (29, .v (undef)), (30, .v (undef)), (31, .v (undef)), (32, VB false), (35, .mth 81 2700 0), (36, I6 1), (37, I6 0), (38, VB true), (39, VB false), (40, .own 2700 0), (41, .own 2700 0), (42, .own 2700 0), (43, VL A47 2 c47), (44, I6 0), (45, .own 2700 0), (46, .own 2700 0), (47, .own 2700 0), (48, VL A47 2 c47), (49, I6 1), (50, .own 2700 0), (51, .own 2700 0), (52, .own 2700 0), (53, VL A47 2 c47), (54, I6 1), (55, .v (elt A47 (1 * 5))), (56, .v (.agg #[N6 5, N6 1, N6 0, N6 0, N7 0])), (57, .own 2700 0), (58, .own 2700 0), (59, .own 2700 0), (60, VL A47 2 c47), (61, I6 0), (62, .v (elt A47 (0 * 5))), (63, .v (.agg #[N6 5, N6 3, N6 0, N6 0, N7 2])), (64, .v (elt A47 (0 * 5)))], [(1002, ⟨27, [I6 0, I6 0, I6 0, I6 0]⟩), (1004, ⟨27, [I6 3, I6 2, I6 0, I6 0]⟩), (2700, ⟨87, [VL A47 2 c47, I7 3]⟩)]⟩ ?_
 refine Eo 25 28 67108863 B50 798 ?_
 refine X.storeElem (i := 18) (t := 89) (j := 0 * 5) (n := 3) (c := c47) (q := (RR 89 5 A47 3 c47 [N6 5, N6 3, N6 0, N6 0, N7 2, N6 5, N6 1, N6 0, N6 0, N7 0, N6 5, N6 3, N6 0, N6 0, N7 2])) (A := A47) (x := .tmp 64) (y := .tmp 56) (z := .agg #[N6 5, N6 1, N6 0, N6 0, N7 0]) (by kernel_rfl) (by kernel_rfl) (by kernel_rfl) rfl rfl (by kernel_rfl) (Nat.le_of_ble_eq_true rfl) (by kernel_rfl) (Nat.succ_pos _) (by kernel_rfl) ?_
 refine X.tellR [18, 17] (R' := [(18, RR 89 5 A47 3 c47 [N6 5, N6 1, N6 0, N6 0, N7 0, N6 5, N6 1, N6 0, N6 0, N7 0, N6 5, N6 3, N6 0, N6 0, N7 2]), (17, RR 89 5 A46 1 1 [N6 5, N6 3, N6 0, N6 0, N7 2])]) rfl ?_
 refine X.back ?_
 refine En ⟨67, [(0, .own 2700 0), (1, I6 0), (4, .mth 81 2700 0), (5, I6 1), (8, I6 0), (9, I6 0), (10, I6 1), (11, I6 1), (12, .own 2700 0), (13, .own 2700 0), (14, .own 2700 0), (15, VL A47 2 c47), (16, I6 2), (17, VB false), (18, I6 1), (19, I6 2), (20, .own 2700 0), (21, .own 2700 0), (22, .own 2700 0), (23, VL A47 2 c47), (24, I6 2), (25, VB false), (26, VB false), (27, .v (undef)), (28, .v (undef)), (29, .v (undef)), (30, .v (undef)), (31, .v (undef)), (32, VB false), (35, .mth 81 2700 0), (36, I6 1), (37, I6 0), (38, VB true), (39, VB false), (40, .own 2700 0), (41, .own 2700 0), (42, .own 2700 0), (43, VL A47 2 c47), (44, I6 0), (45, .own 2700 0), (46, .own 2700 0), (47, .own 2700 0), (48, VL A47 2 c47), (49, I6 1), (50, .own 2700 0), (51, .own 2700 0), (52, .own 2700 0), (53, VL A47 2 c47), (54, I6 1), (55, .v (elt A47 (1 * 5))), (56, .v (.agg #[N6 5, N6 1, N6 0, N6 0, N7 0])), (57, .own 2700 0), (58, .own 2700 0), (59, .own 2700 0), (60, VL A47 2 c47), (61, I6 0), (62, .v (elt A47 (0 * 5))), (63, .v (.agg #[N6 5, N6 3, N6 0, N6 0, N7 2])), (64, .v (elt A47 (0 * 5)))], [(1002, ⟨27, [I6 0, I6 0, I6 0, I6 0]⟩), (1004, ⟨27, [I6 3, I6 2, I6 0, I6 0]⟩), (2700, ⟨87, [VL A47 2 c47, I7 3]⟩)]⟩ ?_
 refine Eo 26 28 134217727 B50 798 ?_
 have b108 : (0 : Int) ≤ 1 := by omega
 have b109 : 1 < ((2 : Nat) : Int) := by omega
 refine Ix 84 89 5 A47 2 c47 .i64 1 (.tmp 48) (.tmp 49) b108 b109 (rowSome (i := 18) (q := (RR 89 5 A47 3 c47 [N6 5, N6 1, N6 0, N6 0, N7 0, N6 5, N6 1, N6 0, N6 0, N7 0, N6 5, N6 3, N6 0, N6 0, N7 2])) rfl rfl (Nat.succ_pos _)) ?_
 have at110 : At G [(18, ⟨89, 5, .slice A47 3 c47, 3, [.int .i64 5, .int .i64 1, .int .i64 0, .int .i64 0, .int .u64 0, .int .i64 5, .int .i64 1, .int .i64 0, .int .i64 0, .int .u64 0, .int .i64 5, .int .i64 3, .int .i64 0, .int .i64 0, .int .u64 2]⟩), (17, ⟨89, 5, .slice A46 1 1, 1, [.int .i64 5, .int .i64 3, .int .i64 0, .int .i64 0, .int .u64 2]⟩)] A47 (1 * 5) [.int .i64 5, .int .i64 1, .int .i64 0, .int .i64 0, .int .u64 0] := (At.of_row (i := 18) (r := ⟨89, 5, .slice A47 3 c47, 3, [.int .i64 5, .int .i64 1, .int .i64 0, .int .i64 0, .int .u64 0, .int .i64 5, .int .i64 1, .int .i64 0, .int .i64 0, .int .u64 0, .int .i64 5, .int .i64 3, .int .i64 0, .int .i64 0, .int .u64 2]⟩) rfl rfl).part 5 5
 refine X.back ?_
 refine En ⟨67, [(0, .own 2700 0), (1, I6 0), (4, .mth 81 2700 0), (5, I6 1), (8, I6 0), (9, I6 0), (10, I6 1), (11, I6 1), (12, .own 2700 0), (13, .own 2700 0), (14, .own 2700 0), (15, VL A47 2 c47), (16, I6 2), (17, VB false), (18, I6 1), (19, I6 2), (20, .own 2700 0), (21, .own 2700 0), (22, .own 2700 0), (23, VL A47 2 c47), (24, I6 2), (25, VB false), (26, VB false), (27, .v (undef)), (28, .v (undef)), (29, .v (undef)), (30, .v (undef)), (31, .v (undef)), (32, VB false), (35, .mth 81 2700 0), (36, I6 1), (37, I6 0), (38, VB true), (39, VB false), (40, .own 2700 0), (41, .own 2700 0), (42, .own 2700 0), (43, VL A47 2 c47), (44, I6 0), (45, .own 2700 0), (46, .own 2700 0), (47, .own 2700 0), (48, VL A47 2 c47), (49, I6 1), (50, .own 2700 0), (51, .own 2700 0), (52, .own 2700 0), (53, VL A47 2 c47), (54, I6 1), (55, .v (elt A47 (1 * 5))), (56, .v (.agg #[N6 5, N6 1, N6 0, N6 0, N7 0])), (57, .own 2700 0), (58, .own 2700 0), (59, .own 2700 0), (60, VL A47 2 c47), (61, I6 0), (62, .v (elt A47 (0 * 5))), (63, .v (.agg #[N6 5, N6 3, N6 0, N6 0, N7 2])), (64, .v (elt A47 (0 * 5))), (65, .v (elt A47 (1 * 5)))], [(1002, ⟨27, [I6 0, I6 0, I6 0, I6 0]⟩), (1004, ⟨27, [I6 3, I6 2, I6 0, I6 0]⟩), (2700, ⟨87, [VL A47 2 c47, I7 3]⟩)]⟩ ?_
 refine Eo 27 28 268435455 B50 798 ?_
 refine X.storeElem (i := 18) (t := 89) (j := 1 * 5) (n := 3) (c := c47) (q := (RR 89 5 A47 3 c47 [N6 5, N6 1, N6 0, N6 0, N7 0, N6 5, N6 1, N6 0, N6 0, N7 0, N6 5, N6 3, N6 0, N6 0, N7 2])) (A := A47) (x := .tmp 65) (y := .tmp 63) (z := .agg #[N6 5, N6 3, N6 0, N6 0, N7 2]) (by kernel_rfl) (by kernel_rfl) (by kernel_rfl) rfl rfl (by kernel_rfl) (Nat.le_of_ble_eq_true rfl) (by kernel_rfl) (Nat.succ_pos _) (by kernel_rfl) ?_
 refine X.tellR [18, 17] (R' := [(18, RR 89 5 A47 3 c47 [N6 5, N6 1, N6 0, N6 0, N7 0, N6 5, N6 3, N6 0, N6 0, N7 2, N6 5, N6 3, N6 0, N6 0, N7 2]), (17, RR 89 5 A46 1 1 [N6 5, N6 3, N6 0, N6 0, N7 2])]) rfl ?_
 refine X.back ?_
 refine XE.done (by kernel_rfl) ?_
 refine Rn 6 (.ex .normal) [.loop J81, .blk 0] ⟨67, [(0, .own 2700 0), (1, I6 1), (4, .mth 81 2700 0), (5, I6 1), (8, I6 0), (9, I6 0), (10, I6 1), (11, I6 1), (12, .own 2700 0), (13, .own 2700 0), (14, .own 2700 0), (15, VL A47 2 c47), (16, I6 2), (17, VB false), (18, I6 1), (19, I6 2), (20, .own 2700 0), (21, .own 2700 0), (22, .own 2700 0), (23, VL A47 2 c47), (24, I6 2), (25, VB false), (26, VB false), (27, .v (undef)), (28, .v (undef)), (29, .v (undef)), (30, .v (undef)), (31, .v (undef)), (32, VB false), (35, .mth 81 2700 0), (36, I6 1), (37, I6 0), (38, VB true), (39, VB false), (40, .own 2700 0), (41, .own 2700 0), (42, .own 2700 0), (43, VL A47 2 c47), (44, I6 0), (45, .own 2700 0), (46, .own 2700 0), (47, .own 2700 0), (48, VL A47 2 c47), (49, I6 1), (50, .own 2700 0), (51, .own 2700 0), (52, .own 2700 0), (53, VL A47 2 c47), (54, I6 1), (55, .v (elt A47 (1 * 5))), (56, .v (.agg #[N6 5, N6 1, N6 0, N6 0, N7 0])), (57, .own 2700 0), (58, .own 2700 0), (59, .own 2700 0), (60, VL A47 2 c47), (61, I6 0), (62, .v (elt A47 (0 * 5))), (63, .v (.agg #[N6 5, N6 3, N6 0, N6 0, N7 2])), (64, .v (elt A47 (0 * 5))), (65, .v (elt A47 (1 * 5))), (66, I6 1)], [(1002, ⟨27, [I6 0, I6 0, I6 0, I6 0]⟩), (1004, ⟨27, [I6 3, I6 2, I6 0, I6 0]⟩), (2700, ⟨87, [VL A47 2 c47, I7 3]⟩)]⟩ ?_
 refine X.again (hJ81 _ _ _ ?_)
 refine RX.succ fun J111 hJ111 => ?_
 refine Rn 27 (.ex .ret) [] ⟨67, [], [(1002, ⟨27, [I6 0, I6 0, I6 0, I6 0]⟩), (1004, ⟨27, [I6 3, I6 2, I6 0, I6 0]⟩), (2700, ⟨87, [VL A47 2 c47, I7 3]⟩)]⟩ ?_
 refine fin80 _ _ _ _ [] [(2, ⟨27, [I6 0, I6 0, I6 0, I6 0]⟩), (4, ⟨27, [I6 3, I6 2, I6 0, I6 0]⟩), (1700, ⟨87, [VL A47 2 c47, I7 3]⟩)] (.inl rfl) (by kernel_rfl) (by kernel_rfl) ?_
 refine Rn 10 (.ex .ret) [] ⟨45, [(2, .own 2 0), (3, VB true)], [(2, ⟨27, [I6 3, I6 2, I6 0, I6 0]⟩), (1700, ⟨87, [VL A47 2 c47, I7 3]⟩)]⟩ ?_
 refine fin64 _ _ _ _ [.agg #[N6 3, N6 2, N6 0, N6 0], .bool true] [(700, ⟨87, [VL A47 2 c47, I7 3]⟩)] (.inl rfl) (by kernel_rfl) (by kernel_rfl) ?_
 refine Rn 11 (Qo B18 254 1) [Qs B18 255] ⟨54, [(0, VB false), (1, .own 700 0), (2, .own 2 0), (24, .own 700 0)], [(2, ⟨27, [I6 3, I6 2, I6 0, I6 0]⟩), (700, ⟨87, [VL A47 2 c47, I7 3]⟩)]⟩ ?_
 refine X.inline (f := 16) (l := [.own 700 0]) (fn := Try.f16) (c := B16) (by kernel_rfl) (by kernel_rfl) Try.func16 (by kernel_rfl) ?_
 intro Q112 M112 hM112 hQ112 fin112
 refine Rn 9 (Qo B16 6 1) [Qs B16 7] ⟨45, [(0, .own 1700 0), (2, .own 2 0), (3, VB false), (8, .own 1700 0)], [(2, ⟨27, [I6 0, I6 0, I6 0, I6 0]⟩), (1002, ⟨27, [I6 3, I6 2, I6 0, I6 0]⟩), (1700, ⟨87, [VL A47 2 c47, I7 3]⟩)]⟩ ?_
 refine X.inline (f := 32) (l := [.own 1700 0]) (fn := Try.f32) (c := B32) (by kernel_rfl) (by kernel_rfl) Try.func32 (by kernel_rfl) ?_
 intro Q113 M113 hM113 hQ113 fin113
 refine Rn 10 (Qo B32 12 1) [Qs B32 13, Qs B32 7] ⟨15, [(0, .own 2700 0), (2, .own 2 0), (3, VB false), (4, .own 2700 0)], [(2, ⟨27, [I6 0, I6 0, I6 0, I6 0]⟩), (1002, ⟨27, [I6 0, I6 0, I6 0, I6 0]⟩), (2002, ⟨27, [I6 3, I6 2, I6 0, I6 0]⟩), (2700, ⟨87, [VL A47 2 c47, I7 3]⟩)]⟩ ?_
 refine X.inline (f := 17) (l := [.own 2700 0]) (fn := Try.f17) (c := B17) (by kernel_rfl) (by kernel_rfl) Try.func17 (by kernel_rfl) ?_
 intro Q114 M114 hM114 hQ114 fin114
 refine Rn 9 (Qo B17 12 1) [Qs B17 13, Qs B17 7] ⟨10, [(0, .own 3700 0), (2, I6 0), (3, .own 3700 0)], [(1002, ⟨27, [I6 0, I6 0, I6 0, I6 0]⟩), (2002, ⟨27, [I6 0, I6 0, I6 0, I6 0]⟩), (3002, ⟨27, [I6 3, I6 2, I6 0, I6 0]⟩), (3700, ⟨87, [VL A47 2 c47, I7 3]⟩)]⟩ ?_
 refine X.eqOwnNil (t := 23) (t' := 23) (e := 87) (b := 3700) (off := 0) (x := .tmp 3) (y := .const (.pointer none)) (by kernel_rfl) (fun g => by kernel_rfl) (by kernel_rfl) (by kernel_rfl) (by kernel_rfl) (by kernel_rfl) ?_
 refine Rn 16 (.ex .ret) [] ⟨10, [(2, I6 2)], [(1002, ⟨27, [I6 0, I6 0, I6 0, I6 0]⟩), (2002, ⟨27, [I6 0, I6 0, I6 0, I6 0]⟩), (3002, ⟨27, [I6 3, I6 2, I6 0, I6 0]⟩), (3700, ⟨87, [VL A47 2 c47, I7 3]⟩)]⟩ ?_
 refine fin114 _ _ _ _ [N6 2] [(2, ⟨27, [I6 0, I6 0, I6 0, I6 0]⟩), (1002, ⟨27, [I6 0, I6 0, I6 0, I6 0]⟩), (2002, ⟨27, [I6 3, I6 2, I6 0, I6 0]⟩), (2700, ⟨87, [VL A47 2 c47, I7 3]⟩)] (.inl rfl) (by kernel_rfl) (by kernel_rfl) ?_
 refine Rn 12 (Qo B32 14 4) [Qs B32 15] ⟨15, [(2, .own 2 0), (3, VB false), (11, VL A47 2 c47)], [(2, ⟨27, [I6 0, I6 0, I6 0, I6 0]⟩), (1002, ⟨27, [I6 0, I6 0, I6 0, I6 0]⟩), (2002, ⟨27, [I6 3, I6 2, I6 0, I6 0]⟩), (2700, ⟨87, [VL A47 2 c47, I7 3]⟩)]⟩ ?_
 have b115 : (0 : Int) ≤ 0 := by omega
 have b116 : 0 < ((2 : Nat) : Int) := by omega
 refine Ix 84 89 5 A47 2 c47 .i64 0 (.tmp 11) (.const (N6 0)) b115 b116 (rowSome (i := 18) (q := (RR 89 5 A47 3 c47 [N6 5, N6 1, N6 0, N6 0, N7 0, N6 5, N6 3, N6 0, N6 0, N7 2, N6 5, N6 3, N6 0, N6 0, N7 2])) rfl rfl (Nat.succ_pos _)) ?_
 have at117 : At G [(18, ⟨89, 5, .slice A47 3 c47, 3, [.int .i64 5, .int .i64 1, .int .i64 0, .int .i64 0, .int .u64 0, .int .i64 5, .int .i64 3, .int .i64 0, .int .i64 0, .int .u64 2, .int .i64 5, .int .i64 3, .int .i64 0, .int .i64 0, .int .u64 2]⟩), (17, ⟨89, 5, .slice A46 1 1, 1, [.int .i64 5, .int .i64 3, .int .i64 0, .int .i64 0, .int .u64 2]⟩)] A47 (0 * 5) [.int .i64 5, .int .i64 1, .int .i64 0, .int .i64 0, .int .u64 0] := (At.of_row (i := 18) (r := ⟨89, 5, .slice A47 3 c47, 3, [.int .i64 5, .int .i64 1, .int .i64 0, .int .i64 0, .int .u64 0, .int .i64 5, .int .i64 3, .int .i64 0, .int .i64 0, .int .u64 2, .int .i64 5, .int .i64 3, .int .i64 0, .int .i64 0, .int .u64 2]⟩) rfl rfl).part 0 5
 refine Rn 0 (Qo B32 14 5) [Qs B32 15] ⟨15, [(2, .own 2 0), (3, VB false), (12, .v (elt A47 (0 * 5)))], [(2, ⟨27, [I6 0, I6 0, I6 0, I6 0]⟩), (1002, ⟨27, [I6 0, I6 0, I6 0, I6 0]⟩), (2002, ⟨27, [I6 3, I6 2, I6 0, I6 0]⟩), (2700, ⟨87, [VL A47 2 c47, I7 3]⟩)]⟩ ?_
 refine X.field (t := 89) (f := 0) (n := 0) (A := A47) (j := 0 * 5) (x := .tmp 12) (by kernel_rfl) (by kernel_rfl) (by kernel_rfl) (by kernel_rfl) ?_
 refine Rn 0 (Qo B32 14 6) [Qs B32 15] ⟨15, [(2, .own 2 0), (3, VB false), (13, .v (elt A47 (0 * 5 + 0)))], [(2, ⟨27, [I6 0, I6 0, I6 0, I6 0]⟩), (1002, ⟨27, [I6 0, I6 0, I6 0, I6 0]⟩), (2002, ⟨27, [I6 3, I6 2, I6 0, I6 0]⟩), (2700, ⟨87, [VL A47 2 c47, I7 3]⟩)]⟩ ?_
 have at118 : At G [(18, ⟨89, 5, .slice A47 3 c47, 3, [.int .i64 5, .int .i64 1, .int .i64 0, .int .i64 0, .int .u64 0, .int .i64 5, .int .i64 3, .int .i64 0, .int .i64 0, .int .u64 2, .int .i64 5, .int .i64 3, .int .i64 0, .int .i64 0, .int .u64 2]⟩), (17, ⟨89, 5, .slice A46 1 1, 1, [.int .i64 5, .int .i64 3, .int .i64 0, .int .i64 0, .int .u64 2]⟩)] A47 (0 * 5) [.int .i64 5, .int .i64 1, .int .i64 0, .int .i64 0, .int .u64 0] := (At.of_row (i := 18) (r := ⟨89, 5, .slice A47 3 c47, 3, [.int .i64 5, .int .i64 1, .int .i64 0, .int .i64 0, .int .u64 0, .int .i64 5, .int .i64 3, .int .i64 0, .int .i64 0, .int .u64 2, .int .i64 5, .int .i64 3, .int .i64 0, .int .i64 0, .int .u64 2]⟩) rfl rfl).part 0 5
 refine Ld 27 A47 (0 * 5 + 0) (.tmp 13) (.agg #[N6 5, N6 1, N6 0, N6 0]) [N6 5, N6 1, N6 0, N6 0] (at118.part 0 4) ?_
 refine Rn 5 (.ex .ret) [] ⟨15, [(2, .own 2 0), (3, VB true)], [(2, ⟨27, [I6 5, I6 1, I6 0, I6 0]⟩), (1002, ⟨27, [I6 0, I6 0, I6 0, I6 0]⟩), (2002, ⟨27, [I6 3, I6 2, I6 0, I6 0]⟩), (2700, ⟨87, [VL A47 2 c47, I7 3]⟩)]⟩ ?_
 refine fin113 _ _ _ _ [.agg #[N6 5, N6 1, N6 0, N6 0], .bool true] [(2, ⟨27, [I6 0, I6 0, I6 0, I6 0]⟩), (1002, ⟨27, [I6 3, I6 2, I6 0, I6 0]⟩), (1700, ⟨87, [VL A47 2 c47, I7 3]⟩)] (.inl rfl) (by kernel_rfl) (by kernel_rfl) ?_
 refine Rn 30 (Qc B16 62) [Qs B16 63] ⟨45, [(0, .own 1700 0), (2, .own 2 0), (3, VB false), (4, .own 4 0), (6, I6 1)], [(2, ⟨27, [I6 0, I6 0, I6 0, I6 0]⟩), (4, ⟨27, [I6 5, I6 1, I6 0, I6 0]⟩), (1002, ⟨27, [I6 3, I6 2, I6 0, I6 0]⟩), (1700, ⟨87, [VL A47 2 c47, I7 3]⟩)]⟩ ?_
 refine Og 5 B16 62 13 [⟨some 0, 1700, 87, [VL A47 2 c47, I7 3]⟩] [(18, RR 89 5 A47 3 c47 [N6 5, N6 1, N6 0, N6 0, N7 0, N6 5, N6 3, N6 0, N6 0, N7 2, N6 5, N6 3, N6 0, N6 0, N7 2])] [12] ⟨⟨fun _ h => (by cases h; rfl), rfl⟩, trivial⟩ (by intro p hp hn; simp only [List.mem_cons, List.not_mem_nil, or_false] at hp; rcases hp with rfl <;> first | (cases hn; done) | exact hM112 _ (Nat.le_of_ble_eq_true rfl)) (fun ρ0 => ?_)
 refine Tk 0 13 1 B16 62 (.own 1700 0) hQ112 ?_
 refine XD.nilOwn (i := 1) (l' := (lb 13 3)) (oA B16 (pa 62) 1) (x := .tmp 21) (b := 1700) (off := 0) hQ112 (by kernel_rfl) (by kernel_rfl) (by kernel_rfl) (by kernel_rfl) (by kernel_rfl) (by kernel_rfl) ?_
 refine Tk 2 13 7 B16 62 (.own 1700 0) hQ112 ?_
 refine Tk 3 13 15 B16 62 (VL A47 2 c47) hQ112 ?_
 refine Tk 4 13 31 B16 62 (.own 1700 0) hQ112 ?_
 refine XD.nilOwn (i := 5) (l' := (lb 13 63)) (oA B16 (pa 62) 5) (x := .tmp 25) (b := 1700) (off := 0) hQ112 (by kernel_rfl) (by kernel_rfl) (by kernel_rfl) (by kernel_rfl) (by kernel_rfl) (by kernel_rfl) ?_
 refine Tk 6 13 127 B16 62 (.own 1700 0) hQ112 ?_
 refine Tk 7 13 255 B16 62 (VL A47 2 c47) hQ112 ?_
 refine Tk 8 13 511 B16 62 (I6 1) hQ112 ?_
 have b120 : (0 : Int) ≤ 1 := by omega
 have b121 : 1 < ((2 : Nat) : Int) := by omega
 have at122 : At G [(18, ⟨89, 5, .slice A47 3 c47, 3, [.int .i64 5, .int .i64 1, .int .i64 0, .int .i64 0, .int .u64 0, .int .i64 5, .int .i64 3, .int .i64 0, .int .i64 0, .int .u64 2, .int .i64 5, .int .i64 3, .int .i64 0, .int .i64 0, .int .u64 2]⟩)] A47 (1 * 5) [.int .i64 5, .int .i64 3, .int .i64 0, .int .i64 0, .int .u64 2] := (At.of_row (i := 18) (r := ⟨89, 5, .slice A47 3 c47, 3, [.int .i64 5, .int .i64 1, .int .i64 0, .int .i64 0, .int .u64 0, .int .i64 5, .int .i64 3, .int .i64 0, .int .i64 0, .int .u64 2, .int .i64 5, .int .i64 3, .int .i64 0, .int .i64 0, .int .u64 2]⟩) rfl rfl).part 5 5
 refine Dx 9 13 1023 B16 62 84 89 5 A47 2 c47 .i64 1 (.tmp 28) (.tmp 29) hQ112 b120 b121 (rowSome (i := 18) (q := (RR 89 5 A47 3 c47 [N6 5, N6 1, N6 0, N6 0, N7 0, N6 5, N6 3, N6 0, N6 0, N7 2, N6 5, N6 3, N6 0, N6 0, N7 2])) rfl rfl (Nat.succ_pos _)) ?_
 have at123 : At G [(18, ⟨89, 5, .slice A47 3 c47, 3, [.int .i64 5, .int .i64 1, .int .i64 0, .int .i64 0, .int .u64 0, .int .i64 5, .int .i64 3, .int .i64 0, .int .i64 0, .int .u64 2, .int .i64 5, .int .i64 3, .int .i64 0, .int .i64 0, .int .u64 2]⟩)] A47 (1 * 5) [.int .i64 5, .int .i64 3, .int .i64 0, .int .i64 0, .int .u64 2] := (At.of_row (i := 18) (r := ⟨89, 5, .slice A47 3 c47, 3, [.int .i64 5, .int .i64 1, .int .i64 0, .int .i64 0, .int .u64 0, .int .i64 5, .int .i64 3, .int .i64 0, .int .i64 0, .int .u64 2, .int .i64 5, .int .i64 3, .int .i64 0, .int .i64 0, .int .u64 2]⟩) rfl rfl).part 5 5
 refine Dl 10 13 2047 B16 62 89 A47 (1 * 5) (.tmp 30) (.agg #[N6 5, N6 3, N6 0, N6 0, N7 2]) [N6 5, N6 3, N6 0, N6 0, N7 2] hQ112 at123 ?_
 have b124 : (0 : Int) ≤ 0 := by omega
 have b125 : 0 < ((2 : Nat) : Int) := by omega
 have at126 : At G [(18, ⟨89, 5, .slice A47 3 c47, 3, [.int .i64 5, .int .i64 1, .int .i64 0, .int .i64 0, .int .u64 0, .int .i64 5, .int .i64 3, .int .i64 0, .int .i64 0, .int .u64 2, .int .i64 5, .int .i64 3, .int .i64 0, .int .i64 0, .int .u64 2]⟩)] A47 (0 * 5) [.int .i64 5, .int .i64 1, .int .i64 0, .int .i64 0, .int .u64 0] := (At.of_row (i := 18) (r := ⟨89, 5, .slice A47 3 c47, 3, [.int .i64 5, .int .i64 1, .int .i64 0, .int .i64 0, .int .u64 0, .int .i64 5, .int .i64 3, .int .i64 0, .int .i64 0, .int .u64 2, .int .i64 5, .int .i64 3, .int .i64 0, .int .i64 0, .int .u64 2]⟩) rfl rfl).part 0 5
 refine Dx 11 13 4095 B16 62 84 89 5 A47 2 c47 .i64 0 (.tmp 24) (.const (N6 0)) hQ112 b124 b125 (rowSome (i := 18) (q := (RR 89 5 A47 3 c47 [N6 5, N6 1, N6 0, N6 0, N7 0, N6 5, N6 3, N6 0, N6 0, N7 2, N6 5, N6 3, N6 0, N6 0, N7 2])) rfl rfl (Nat.succ_pos _)) ?_
 refine XD.toE ?_
 refine En ⟨45, [(0, .own 1700 0), (2, .own 2 0), (3, VB false), (4, .own 4 0), (6, I6 1), (31, .v (.agg #[N6 5, N6 3, N6 0, N6 0, N7 2])), (32, .v (elt A47 (0 * 5)))], [(2, ⟨27, [I6 0, I6 0, I6 0, I6 0]⟩), (4, ⟨27, [I6 5, I6 1, I6 0, I6 0]⟩), (1002, ⟨27, [I6 3, I6 2, I6 0, I6 0]⟩), (1700, ⟨87, [VL A47 2 c47, I7 3]⟩)]⟩ ?_
 refine Eo 12 13 8191 B16 62 ?_
 refine X.storeElem (i := 18) (t := 89) (j := 0 * 5) (n := 3) (c := c47) (q := (RR 89 5 A47 3 c47 [N6 5, N6 1, N6 0, N6 0, N7 0, N6 5, N6 3, N6 0, N6 0, N7 2, N6 5, N6 3, N6 0, N6 0, N7 2])) (A := A47) (x := .tmp 32) (y := .tmp 31) (z := .agg #[N6 5, N6 3, N6 0, N6 0, N7 2]) (by kernel_rfl) (by kernel_rfl) (by kernel_rfl) rfl rfl (by kernel_rfl) (Nat.le_of_ble_eq_true rfl) (by kernel_rfl) (Nat.succ_pos _) (by kernel_rfl) ?_
 refine X.tellR [18, 17] (R' := [(18, RR 89 5 A47 3 c47 [N6 5, N6 3, N6 0, N6 0, N7 2, N6 5, N6 3, N6 0, N6 0, N7 2, N6 5, N6 3, N6 0, N6 0, N7 2]), (17, RR 89 5 A46 1 1 [N6 5, N6 3, N6 0, N6 0, N7 2])]) rfl ?_
 refine X.back ?_
 refine XE.done (by kernel_rfl) ?_
 refine Rn 9 (Qo B16 126 6) [Qs B16 127] ⟨45, [(0, .own 1700 0), (2, .own 2 0), (3, VB false), (4, .own 4 0), (33, .own 1700 0), (37, VL A47 2 c47), (38, I6 1)], [(2, ⟨27, [I6 0, I6 0, I6 0, I6 0]⟩), (4, ⟨27, [I6 5, I6 1, I6 0, I6 0]⟩), (1002, ⟨27, [I6 3, I6 2, I6 0, I6 0]⟩), (1700, ⟨87, [VL A47 2 c47, I7 3]⟩)]⟩ ?_
 have hlo127 : 0 ≤ 1 := by omega
 have hhi127 : 1 ≤ 2 := by omega
 refine X.cut (t := 84) (e := 89) (sz := 5) (n := 2) (c := c47) (A := A47) (x := .tmp 37) (l := none) (h := (some (.tmp 38))) (lv := none) (hv := (some (N6 1))) 0 1 (by kernel_rfl) (by kernel_rfl) (by kernel_rfl) (by kernel_rfl) (by kernel_rfl) (by kernel_rfl) (by kernel_rfl) (rfl) (⟨_, _, rfl, by omega, rfl⟩) hlo127 (Nat.le_trans hhi127 (by omega)) ?_
 refine X.known 39 (y := VL A47 1 c47) rfl (by rw [cutA_zero] <;> rfl) ?_
 refine Rn 8 (Qo B16 254 1) [Qs B16 255] ⟨45, [(2, .own 2 0), (3, VB false), (4, .own 4 0), (42, .own 1700 0)], [(2, ⟨27, [I6 0, I6 0, I6 0, I6 0]⟩), (4, ⟨27, [I6 5, I6 1, I6 0, I6 0]⟩), (1002, ⟨27, [I6 3, I6 2, I6 0, I6 0]⟩), (1700, ⟨87, [VL A47 1 c47, I7 3]⟩)]⟩ ?_
 refine X.inline (f := 50) (l := [.own 1700 0, I6 0]) (fn := Try.f50) (c := B50) (by kernel_rfl) (by kernel_rfl) Try.func50 (by kernel_rfl) ?_
 intro Q128 M128 hM128 hQ128 fin128
 refine Rn 8 (Qc B50 6) [.blk 0] ⟨67, [(0, .own 2700 0), (1, I6 0), (4, .mth 81 2700 0)], [(1002, ⟨27, [I6 0, I6 0, I6 0, I6 0]⟩), (1004, ⟨27, [I6 5, I6 1, I6 0, I6 0]⟩), (2002, ⟨27, [I6 3, I6 2, I6 0, I6 0]⟩), (2700, ⟨87, [VL A47 1 c47, I7 3]⟩)]⟩ ?_
 refine X.rounds 7 ?_
 refine RX.succ fun J129 hJ129 => ?_
 refine Rn 27 (.ex .ret) [] ⟨67, [], [(1002, ⟨27, [I6 0, I6 0, I6 0, I6 0]⟩), (1004, ⟨27, [I6 5, I6 1, I6 0, I6 0]⟩), (2002, ⟨27, [I6 3, I6 2, I6 0, I6 0]⟩), (2700, ⟨87, [VL A47 1 c47, I7 3]⟩)]⟩ ?_
 refine fin128 _ _ _ _ [] [(2, ⟨27, [I6 0, I6 0, I6 0, I6 0]⟩), (4, ⟨27, [I6 5, I6 1, I6 0, I6 0]⟩), (1002, ⟨27, [I6 3, I6 2, I6 0, I6 0]⟩), (1700, ⟨87, [VL A47 1 c47, I7 3]⟩)] (.inl rfl) (by kernel_rfl) (by kernel_rfl) ?_
 refine Rn 10 (.ex .ret) [] ⟨45, [(2, .own 2 0), (3, VB true)], [(2, ⟨27, [I6 5, I6 1, I6 0, I6 0]⟩), (1002, ⟨27, [I6 3, I6 2, I6 0, I6 0]⟩), (1700, ⟨87, [VL A47 1 c47, I7 3]⟩)]⟩ ?_
 refine fin112 _ _ _ _ [.agg #[N6 5, N6 1, N6 0, N6 0], .bool true] [(2, ⟨27, [I6 3, I6 2, I6 0, I6 0]⟩), (700, ⟨87, [VL A47 1 c47, I7 3]⟩)] (.inl rfl) (by kernel_rfl) (by kernel_rfl) ?_
 refine Rn 11 (Qo B18 510 1) [Qs B18 511] ⟨54, [(0, VB false), (1, .own 700 0), (2, .own 2 0), (4, .own 4 0), (29, .own 700 0)], [(2, ⟨27, [I6 3, I6 2, I6 0, I6 0]⟩), (4, ⟨27, [I6 5, I6 1, I6 0, I6 0]⟩), (700, ⟨87, [VL A47 1 c47, I7 3]⟩)]⟩ ?_
 refine X.inline (f := 16) (l := [.own 700 0]) (fn := Try.f16) (c := B16) (by kernel_rfl) (by kernel_rfl) Try.func16 (by kernel_rfl) ?_
 intro Q130 M130 hM130 hQ130 fin130
 refine Rn 9 (Qo B16 6 1) [Qs B16 7] ⟨45, [(0, .own 1700 0), (2, .own 2 0), (3, VB false), (8, .own 1700 0)], [(2, ⟨27, [I6 0, I6 0, I6 0, I6 0]⟩), (1002, ⟨27, [I6 3, I6 2, I6 0, I6 0]⟩), (1004, ⟨27, [I6 5, I6 1, I6 0, I6 0]⟩), (1700, ⟨87, [VL A47 1 c47, I7 3]⟩)]⟩ ?_
 refine X.inline (f := 32) (l := [.own 1700 0]) (fn := Try.f32) (c := B32) (by kernel_rfl) (by kernel_rfl) Try.func32 (by kernel_rfl) ?_
 intro Q131 M131 hM131 hQ131 fin131
 refine Rn 10 (Qo B32 12 1) [Qs B32 13, Qs B32 7] ⟨15, [(0, .own 2700 0), (2, .own 2 0), (3, VB false), (4, .own 2700 0)], [(2, ⟨27, [I6 0, I6 0, I6 0, I6 0]⟩), (1002, ⟨27, [I6 0, I6 0, I6 0, I6 0]⟩), (2002, ⟨27, [I6 3, I6 2, I6 0, I6 0]⟩), (2004, ⟨27, [I6 5, I6 1, I6 0, I6 0]⟩), (2700, ⟨87, [VL A47 1 c47, I7 3]⟩)]⟩ ?_
 refine X.inline (f := 17) (l := [.own 2700 0]) (fn := Try.f17) (c := B17) (by kernel_rfl) (by kernel_rfl) Try.func17 (by kernel_rfl) ?_
 intro Q132 M132 hM132 hQ132 fin132
 refine Rn 9 (Qo B17 12 1) [Qs B17 13, Qs B17 7] ⟨10, [(0, .own 3700 0), (2, I6 0), (3, .own 3700 0)], [(1002, ⟨27, [I6 0, I6 0, I6 0, I6 0]⟩), (2002, ⟨27, [I6 0, I6 0, I6 0, I6 0]⟩), (3002, ⟨27, [I6 3, I6 2, I6 0, I6 0]⟩), (3004, ⟨27, [I6 5, I6 1, I6 0, I6 0]⟩), (3700, ⟨87, [VL A47 1 c47, I7 3]⟩)]⟩ ?_
 refine X.eqOwnNil (t := 23) (t' := 23) (e := 87) (b := 3700) (off := 0) (x := .tmp 3) (y := .const (.pointer none)) (by kernel_rfl) (fun g => by kernel_rfl) (by kernel_rfl) (by kernel_rfl) (by kernel_rfl) (by kernel_rfl) ?_
 refine Rn 16 (.ex .ret) [] ⟨10, [(2, I6 1)], [(1002, ⟨27, [I6 0, I6 0, I6 0, I6 0]⟩), (2002, ⟨27, [I6 0, I6 0, I6 0, I6 0]⟩), (3002, ⟨27, [I6 3, I6 2, I6 0, I6 0]⟩), (3004, ⟨27, [I6 5, I6 1, I6 0, I6 0]⟩), (3700, ⟨87, [VL A47 1 c47, I7 3]⟩)]⟩ ?_
 refine fin132 _ _ _ _ [N6 1] [(2, ⟨27, [I6 0, I6 0, I6 0, I6 0]⟩), (1002, ⟨27, [I6 0, I6 0, I6 0, I6 0]⟩), (2002, ⟨27, [I6 3, I6 2, I6 0, I6 0]⟩), (2004, ⟨27, [I6 5, I6 1, I6 0, I6 0]⟩), (2700, ⟨87, [VL A47 1 c47, I7 3]⟩)] (.inl rfl) (by kernel_rfl) (by kernel_rfl) ?_
 refine Rn 12 (Qo B32 14 4) [Qs B32 15] ⟨15, [(2, .own 2 0), (3, VB false), (11, VL A47 1 c47)], [(2, ⟨27, [I6 0, I6 0, I6 0, I6 0]⟩), (1002, ⟨27, [I6 0, I6 0, I6 0, I6 0]⟩), (2002, ⟨27, [I6 3, I6 2, I6 0, I6 0]⟩), (2004, ⟨27, [I6 5, I6 1, I6 0, I6 0]⟩), (2700, ⟨87, [VL A47 1 c47, I7 3]⟩)]⟩ ?_
 have b133 : (0 : Int) ≤ 0 := by omega
 have b134 : 0 < ((1 : Nat) : Int) := by omega
 refine Ix 84 89 5 A47 1 c47 .i64 0 (.tmp 11) (.const (N6 0)) b133 b134 (rowSome (i := 18) (q := (RR 89 5 A47 3 c47 [N6 5, N6 3, N6 0, N6 0, N7 2, N6 5, N6 3, N6 0, N6 0, N7 2, N6 5, N6 3, N6 0, N6 0, N7 2])) rfl rfl (Nat.succ_pos _)) ?_
 have at135 : At G [(18, ⟨89, 5, .slice A47 3 c47, 3, [.int .i64 5, .int .i64 3, .int .i64 0, .int .i64 0, .int .u64 2, .int .i64 5, .int .i64 3, .int .i64 0, .int .i64 0, .int .u64 2, .int .i64 5, .int .i64 3, .int .i64 0, .int .i64 0, .int .u64 2]⟩), (17, ⟨89, 5, .slice A46 1 1, 1, [.int .i64 5, .int .i64 3, .int .i64 0, .int .i64 0, .int .u64 2]⟩)] A47 (0 * 5) [.int .i64 5, .int .i64 3, .int .i64 0, .int .i64 0, .int .u64 2] := (At.of_row (i := 18) (r := ⟨89, 5, .slice A47 3 c47, 3, [.int .i64 5, .int .i64 3, .int .i64 0, .int .i64 0, .int .u64 2, .int .i64 5, .int .i64 3, .int .i64 0, .int .i64 0, .int .u64 2, .int .i64 5, .int .i64 3, .int .i64 0, .int .i64 0, .int .u64 2]⟩) rfl rfl).part 0 5
 refine Rn 0 (Qo B32 14 5) [Qs B32 15] ⟨15, [(2, .own 2 0), (3, VB false), (12, .v (elt A47 (0 * 5)))], [(2, ⟨27, [I6 0, I6 0, I6 0, I6 0]⟩), (1002, ⟨27, [I6 0, I6 0, I6 0, I6 0]⟩), (2002, ⟨27, [I6 3, I6 2, I6 0, I6 0]⟩), (2004, ⟨27, [I6 5, I6 1, I6 0, I6 0]⟩), (2700, ⟨87, [VL A47 1 c47, I7 3]⟩)]⟩ ?_
 refine X.field (t := 89) (f := 0) (n := 0) (A := A47) (j := 0 * 5) (x := .tmp 12) (by kernel_rfl) (by kernel_rfl) (by kernel_rfl) (by kernel_rfl) ?_
 refine Rn 0 (Qo B32 14 6) [Qs B32 15] ⟨15, [(2, .own 2 0), (3, VB false), (13, .v (elt A47 (0 * 5 + 0)))], [(2, ⟨27, [I6 0, I6 0, I6 0, I6 0]⟩), (1002, ⟨27, [I6 0, I6 0, I6 0, I6 0]⟩), (2002, ⟨27, [I6 3, I6 2, I6 0, I6 0]⟩), (2004, ⟨27, [I6 5, I6 1, I6 0, I6 0]⟩), (2700, ⟨87, [VL A47 1 c47, I7 3]⟩)]⟩ ?_
 have at136 : At G [(18, ⟨89, 5, .slice A47 3 c47, 3, [.int .i64 5, .int .i64 3, .int .i64 0, .int .i64 0, .int .u64 2, .int .i64 5, .int .i64 3, .int .i64 0, .int .i64 0, .int .u64 2, .int .i64 5, .int .i64 3, .int .i64 0, .int .i64 0, .int .u64 2]⟩), (17, ⟨89, 5, .slice A46 1 1, 1, [.int .i64 5, .int .i64 3, .int .i64 0, .int .i64 0, .int .u64 2]⟩)] A47 (0 * 5) [.int .i64 5, .int .i64 3, .int .i64 0, .int .i64 0, .int .u64 2] := (At.of_row (i := 18) (r := ⟨89, 5, .slice A47 3 c47, 3, [.int .i64 5, .int .i64 3, .int .i64 0, .int .i64 0, .int .u64 2, .int .i64 5, .int .i64 3, .int .i64 0, .int .i64 0, .int .u64 2, .int .i64 5, .int .i64 3, .int .i64 0, .int .i64 0, .int .u64 2]⟩) rfl rfl).part 0 5
 refine Ld 27 A47 (0 * 5 + 0) (.tmp 13) (.agg #[N6 5, N6 3, N6 0, N6 0]) [N6 5, N6 3, N6 0, N6 0] (at136.part 0 4) ?_
 refine Rn 5 (.ex .ret) [] ⟨15, [(2, .own 2 0), (3, VB true)], [(2, ⟨27, [I6 5, I6 3, I6 0, I6 0]⟩), (1002, ⟨27, [I6 0, I6 0, I6 0, I6 0]⟩), (2002, ⟨27, [I6 3, I6 2, I6 0, I6 0]⟩), (2004, ⟨27, [I6 5, I6 1, I6 0, I6 0]⟩), (2700, ⟨87, [VL A47 1 c47, I7 3]⟩)]⟩ ?_
 refine fin131 _ _ _ _ [.agg #[N6 5, N6 3, N6 0, N6 0], .bool true] [(2, ⟨27, [I6 0, I6 0, I6 0, I6 0]⟩), (1002, ⟨27, [I6 3, I6 2, I6 0, I6 0]⟩), (1004, ⟨27, [I6 5, I6 1, I6 0, I6 0]⟩), (1700, ⟨87, [VL A47 1 c47, I7 3]⟩)] (.inl rfl) (by kernel_rfl) (by kernel_rfl) ?_
 refine Rn 30 (Qc B16 62) [Qs B16 63] ⟨45, [(0, .own 1700 0), (2, .own 2 0), (3, VB false), (4, .own 4 0), (6, I6 0)], [(2, ⟨27, [I6 0, I6 0, I6 0, I6 0]⟩), (4, ⟨27, [I6 5, I6 3, I6 0, I6 0]⟩), (1002, ⟨27, [I6 3, I6 2, I6 0, I6 0]⟩), (1004, ⟨27, [I6 5, I6 1, I6 0, I6 0]⟩), (1700, ⟨87, [VL A47 1 c47, I7 3]⟩)]⟩ ?_
 refine Og 5 B16 62 13 [⟨some 0, 1700, 87, [VL A47 1 c47, I7 3]⟩] [(18, RR 89 5 A47 3 c47 [N6 5, N6 3, N6 0, N6 0, N7 2, N6 5, N6 3, N6 0, N6 0, N7 2, N6 5, N6 3, N6 0, N6 0, N7 2])] [12] ⟨⟨fun _ h => (by cases h; rfl), rfl⟩, trivial⟩ (by intro p hp hn; simp only [List.mem_cons, List.not_mem_nil, or_false] at hp; rcases hp with rfl <;> first | (cases hn; done) | exact hM130 _ (Nat.le_of_ble_eq_true rfl)) (fun ρ0 => ?_)
 refine Tk 0 13 1 B16 62 (.own 1700 0) hQ130 ?_
 refine XD.nilOwn (i := 1) (l' := (lb 13 3)) (oA B16 (pa 62) 1) (x := .tmp 21) (b := 1700) (off := 0) hQ130 (by kernel_rfl) (by kernel_rfl) (by kernel_rfl) (by kernel_rfl) (by kernel_rfl) (by kernel_rfl) ?_
 refine Tk 2 13 7 B16 62 (.own 1700 0) hQ130 ?_
 refine Tk 3 13 15 B16 62 (VL A47 1 c47) hQ130 ?_
 refine Tk 4 13 31 B16 62 (.own 1700 0) hQ130 ?_
 refine XD.nilOwn (i := 5) (l' := (lb 13 63)) (oA B16 (pa 62) 5) (x := .tmp 25) (b := 1700) (off := 0) hQ130 (by kernel_rfl) (by kernel_rfl) (by kernel_rfl) (by kernel_rfl) (by kernel_rfl) (by kernel_rfl) ?_
 refine Tk 6 13 127 B16 62 (.own 1700 0) hQ130 ?_
 refine Tk 7 13 255 B16 62 (VL A47 1 c47) hQ130 ?_
 refine Tk 8 13 511 B16 62 (I6 0) hQ130 ?_
 have b138 : (0 : Int) ≤ 0 := by omega
 have b139 : 0 < ((1 : Nat) : Int) := by omega
 have at140 : At G [(18, ⟨89, 5, .slice A47 3 c47, 3, [.int .i64 5, .int .i64 3, .int .i64 0, .int .i64 0, .int .u64 2, .int .i64 5, .int .i64 3, .int .i64 0, .int .i64 0, .int .u64 2, .int .i64 5, .int .i64 3, .int .i64 0, .int .i64 0, .int .u64 2]⟩)] A47 (0 * 5) [.int .i64 5, .int .i64 3, .int .i64 0, .int .i64 0, .int .u64 2] := (At.of_row (i := 18) (r := ⟨89, 5, .slice A47 3 c47, 3, [.int .i64 5, .int .i64 3, .int .i64 0, .int .i64 0, .int .u64 2, .int .i64 5, .int .i64 3, .int .i64 0, .int .i64 0, .int .u64 2, .int .i64 5, .int .i64 3, .int .i64 0, .int .i64 0, .int .u64 2]⟩) rfl rfl).part 0 5
 refine Dx 9 13 1023 B16 62 84 89 5 A47 1 c47 .i64 0 (.tmp 28) (.tmp 29) hQ130 b138 b139 (rowSome (i := 18) (q := (RR 89 5 A47 3 c47 [N6 5, N6 3, N6 0, N6 0, N7 2, N6 5, N6 3, N6 0, N6 0, N7 2, N6 5, N6 3, N6 0, N6 0, N7 2])) rfl rfl (Nat.succ_pos _)) ?_
 have at141 : At G [(18, ⟨89, 5, .slice A47 3 c47, 3, [.int .i64 5, .int .i64 3, .int .i64 0, .int .i64 0, .int .u64 2, .int .i64 5, .int .i64 3, .int .i64 0, .int .i64 0, .int .u64 2, .int .i64 5, .int .i64 3, .int .i64 0, .int .i64 0, .int .u64 2]⟩)] A47 (0 * 5) [.int .i64 5, .int .i64 3, .int .i64 0, .int .i64 0, .int .u64 2] := (At.of_row (i := 18) (r := ⟨89, 5, .slice A47 3 c47, 3, [.int .i64 5, .int .i64 3, .int .i64 0, .int .i64 0, .int .u64 2, .int .i64 5, .int .i64 3, .int .i64 0, .int .i64 0, .int .u64 2, .int .i64 5, .int .i64 3, .int .i64 0, .int .i64 0, .int .u64 2]⟩) rfl rfl).part 0 5
 refine Dl 10 13 2047 B16 62 89 A47 (0 * 5) (.tmp 30) (.agg #[N6 5, N6 3, N6 0, N6 0, N7 2]) [N6 5, N6 3, N6 0, N6 0, N7 2] hQ130 at141 ?_
 have b142 : (0 : Int) ≤ 0 := by omega
 have b143 : 0 < ((1 : Nat) : Int) := by omega
 have at144 : At G [(18, ⟨89, 5, .slice A47 3 c47, 3, [.int .i64 5, .int .i64 3, .int .i64 0, .int .i64 0, .int .u64 2, .int .i64 5, .int .i64 3, .int .i64 0, .int .i64 0, .int .u64 2, .int .i64 5, .int .i64 3, .int .i64 0, .int .i64 0, .int .u64 2]⟩)] A47 (0 * 5) [.int .i64 5, .int .i64 3, .int .i64 0, .int .i64 0, .int .u64 2] := (At.of_row (i := 18) (r := ⟨89, 5, .slice A47 3 c47, 3, [.int .i64 5, .int .i64 3, .int .i64 0, .int .i64 0, .int .u64 2, .int .i64 5, .int .i64 3, .int .i64 0, .int .i64 0, .int .u64 2, .int .i64 5, .int .i64 3, .int .i64 0, .int .i64 0, .int .u64 2]⟩) rfl rfl).part 0 5
 refine Dx 11 13 4095 B16 62 84 89 5 A47 1 c47 .i64 0 (.tmp 24) (.const (N6 0)) hQ130 b142 b143 (rowSome (i := 18) (q := (RR 89 5 A47 3 c47 [N6 5, N6 3, N6 0, N6 0, N7 2, N6 5, N6 3, N6 0, N6 0, N7 2, N6 5, N6 3, N6 0, N6 0, N7 2])) rfl rfl (Nat.succ_pos _)) ?_
 refine XD.toE ?_
 refine En ⟨45, [(0, .own 1700 0), (2, .own 2 0), (3, VB false), (4, .own 4 0), (6, I6 0), (31, .v (.agg #[N6 5, N6 3, N6 0, N6 0, N7 2])), (32, .v (elt A47 (0 * 5)))], [(2, ⟨27, [I6 0, I6 0, I6 0, I6 0]⟩), (4, ⟨27, [I6 5, I6 3, I6 0, I6 0]⟩), (1002, ⟨27, [I6 3, I6 2, I6 0, I6 0]⟩), (1004, ⟨27, [I6 5, I6 1, I6 0, I6 0]⟩), (1700, ⟨87, [VL A47 1 c47, I7 3]⟩)]⟩ ?_
 refine Eo 12 13 8191 B16 62 ?_
 refine X.storeElem (i := 18) (t := 89) (j := 0 * 5) (n := 3) (c := c47) (q := (RR 89 5 A47 3 c47 [N6 5, N6 3, N6 0, N6 0, N7 2, N6 5, N6 3, N6 0, N6 0, N7 2, N6 5, N6 3, N6 0, N6 0, N7 2])) (A := A47) (x := .tmp 32) (y := .tmp 31) (z := .agg #[N6 5, N6 3, N6 0, N6 0, N7 2]) (by kernel_rfl) (by kernel_rfl) (by kernel_rfl) rfl rfl (by kernel_rfl) (Nat.le_of_ble_eq_true rfl) (by kernel_rfl) (Nat.succ_pos _) (by kernel_rfl) ?_
 refine X.tellR [18, 17] (R' := [(18, RR 89 5 A47 3 c47 [N6 5, N6 3, N6 0, N6 0, N7 2, N6 5, N6 3, N6 0, N6 0, N7 2, N6 5, N6 3, N6 0, N6 0, N7 2]), (17, RR 89 5 A46 1 1 [N6 5, N6 3, N6 0, N6 0, N7 2])]) rfl ?_
 refine X.back ?_
 refine XE.done (by kernel_rfl) ?_
 refine Rn 9 (Qo B16 126 6) [Qs B16 127] ⟨45, [(0, .own 1700 0), (2, .own 2 0), (3, VB false), (4, .own 4 0), (33, .own 1700 0), (37, VL A47 1 c47), (38, I6 0)], [(2, ⟨27, [I6 0, I6 0, I6 0, I6 0]⟩), (4, ⟨27, [I6 5, I6 3, I6 0, I6 0]⟩), (1002, ⟨27, [I6 3, I6 2, I6 0, I6 0]⟩), (1004, ⟨27, [I6 5, I6 1, I6 0, I6 0]⟩), (1700, ⟨87, [VL A47 1 c47, I7 3]⟩)]⟩ ?_
 have hlo145 : 0 ≤ 0 := by omega
 have hhi145 : 0 ≤ 1 := by omega
 refine X.cut (t := 84) (e := 89) (sz := 5) (n := 1) (c := c47) (A := A47) (x := .tmp 37) (l := none) (h := (some (.tmp 38))) (lv := none) (hv := (some (N6 0))) 0 0 (by kernel_rfl) (by kernel_rfl) (by kernel_rfl) (by kernel_rfl) (by kernel_rfl) (by kernel_rfl) (by kernel_rfl) (rfl) (⟨_, _, rfl, by omega, rfl⟩) hlo145 (Nat.le_trans hhi145 (by omega)) ?_
 refine X.known 39 (y := VL A47 0 c47) rfl (by rw [cutA_zero] <;> rfl) ?_
 refine Rn 8 (Qo B16 254 1) [Qs B16 255] ⟨45, [(2, .own 2 0), (3, VB false), (4, .own 4 0), (42, .own 1700 0)], [(2, ⟨27, [I6 0, I6 0, I6 0, I6 0]⟩), (4, ⟨27, [I6 5, I6 3, I6 0, I6 0]⟩), (1002, ⟨27, [I6 3, I6 2, I6 0, I6 0]⟩), (1004, ⟨27, [I6 5, I6 1, I6 0, I6 0]⟩), (1700, ⟨87, [VL A47 0 c47, I7 3]⟩)]⟩ ?_
 refine X.inline (f := 50) (l := [.own 1700 0, I6 0]) (fn := Try.f50) (c := B50) (by kernel_rfl) (by kernel_rfl) Try.func50 (by kernel_rfl) ?_
 intro Q146 M146 hM146 hQ146 fin146
 refine Rn 8 (Qc B50 6) [.blk 0] ⟨67, [(0, .own 2700 0), (1, I6 0), (4, .mth 81 2700 0)], [(1002, ⟨27, [I6 0, I6 0, I6 0, I6 0]⟩), (1004, ⟨27, [I6 5, I6 3, I6 0, I6 0]⟩), (2002, ⟨27, [I6 3, I6 2, I6 0, I6 0]⟩), (2004, ⟨27, [I6 5, I6 1, I6 0, I6 0]⟩), (2700, ⟨87, [VL A47 0 c47, I7 3]⟩)]⟩ ?_
 refine X.rounds 7 ?_
 refine RX.succ fun J147 hJ147 => ?_
 refine Rn 27 (.ex .ret) [] ⟨67, [], [(1002, ⟨27, [I6 0, I6 0, I6 0, I6 0]⟩), (1004, ⟨27, [I6 5, I6 3, I6 0, I6 0]⟩), (2002, ⟨27, [I6 3, I6 2, I6 0, I6 0]⟩), (2004, ⟨27, [I6 5, I6 1, I6 0, I6 0]⟩), (2700, ⟨87, [VL A47 0 c47, I7 3]⟩)]⟩ ?_
 refine fin146 _ _ _ _ [] [(2, ⟨27, [I6 0, I6 0, I6 0, I6 0]⟩), (4, ⟨27, [I6 5, I6 3, I6 0, I6 0]⟩), (1002, ⟨27, [I6 3, I6 2, I6 0, I6 0]⟩), (1004, ⟨27, [I6 5, I6 1, I6 0, I6 0]⟩), (1700, ⟨87, [VL A47 0 c47, I7 3]⟩)] (.inl rfl) (by kernel_rfl) (by kernel_rfl) ?_
 refine Rn 10 (.ex .ret) [] ⟨45, [(2, .own 2 0), (3, VB true)], [(2, ⟨27, [I6 5, I6 3, I6 0, I6 0]⟩), (1002, ⟨27, [I6 3, I6 2, I6 0, I6 0]⟩), (1004, ⟨27, [I6 5, I6 1, I6 0, I6 0]⟩), (1700, ⟨87, [VL A47 0 c47, I7 3]⟩)]⟩ ?_
 refine fin130 _ _ _ _ [.agg #[N6 5, N6 3, N6 0, N6 0], .bool true] [(2, ⟨27, [I6 3, I6 2, I6 0, I6 0]⟩), (4, ⟨27, [I6 5, I6 1, I6 0, I6 0]⟩), (700, ⟨87, [VL A47 0 c47, I7 3]⟩)] (.inl rfl) (by kernel_rfl) (by kernel_rfl) ?_
 refine Rn 28 (Qo B18 1022 18) [Qs B18 1023] ⟨54, [(0, VB false), (49, VB true), (50, .own 700 0)], [(700, ⟨87, [VL A47 0 c47, I7 3]⟩)]⟩ ?_
 refine X.inline (f := 17) (l := [.own 700 0]) (fn := Try.f17) (c := B17) (by kernel_rfl) (by kernel_rfl) Try.func17 (by kernel_rfl) ?_
 intro Q148 M148 hM148 hQ148 fin148
 refine Rn 9 (Qo B17 12 1) [Qs B17 13, Qs B17 7] ⟨10, [(0, .own 1700 0), (2, I6 0), (3, .own 1700 0)], [(1700, ⟨87, [VL A47 0 c47, I7 3]⟩)]⟩ ?_
 refine X.eqOwnNil (t := 23) (t' := 23) (e := 87) (b := 1700) (off := 0) (x := .tmp 3) (y := .const (.pointer none)) (by kernel_rfl) (fun g => by kernel_rfl) (by kernel_rfl) (by kernel_rfl) (by kernel_rfl) (by kernel_rfl) ?_
 refine Rn 16 (.ex .ret) [] ⟨10, [(2, I6 0)], [(1700, ⟨87, [VL A47 0 c47, I7 3]⟩)]⟩ ?_
 refine fin148 _ _ _ _ [N6 0] [(700, ⟨87, [VL A47 0 c47, I7 3]⟩)] (.inl rfl) (by kernel_rfl) (by kernel_rfl) ?_
 refine Rn 6 (.ex .ret) [] ⟨54, [(0, VB true)], []⟩ ?_
 refine Dg (.inl rfl) [.bool true] [] rfl (Ge.refl _ _) ?_
 exact ⟨rfl, rfl⟩
end Go.Proofs.YthpinlcfcgnilaaX
