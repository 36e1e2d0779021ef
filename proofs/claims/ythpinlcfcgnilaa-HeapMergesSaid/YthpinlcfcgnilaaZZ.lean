/- cmp.Compare, cmp.Or, the closure of heap.Sorted. Walked; printed by a small program of this session. Conditions: none. -/
import Derived.Test.YthpinlcfcgnilaaProg
import Derived.KernelRfl
import Derived.Test.YthpinlcfcgnilaaZS
namespace Go.Proofs.YthpinlcfcgnilaaZ
open Go.RowKit
open Go.Proofs.YthpinlcfcgnilaaW.PrintLast
set_option linter.unusedVariables false
set_option linter.unusedSimpArgs false
set_option maxRecDepth 100000
def cmpI (a b : Int) : Int := if a < b then -1 else if b < a then 1 else 0
def orI (a b : Int) : Int := if a ≠ 0 then a else b
/-- cmp.isNaN[int64] -/
noncomputable def B97 : Code := bodyOf Try.f97
set_option maxHeartbeats 1000000 in
theorem nan97_ok (a : Int) (G : Mem) : CallsG Try.prog 97 [.int .i64 a] G (fun _ v rows => v = .bool false ∧ rows = []) := by
 refine CallsG.enter Try.func97 rfl rfl ?_
 intro w
 refine Rn 14 (.ex .ret) [] ⟨6, [(2, VB (a != a))], []⟩ ?_
 refine Dg (.inl rfl) [.bool (a != a)] [] rfl (Ge.refl _ _) ?_
 exact ⟨congrArg Value.bool (by simp), rfl⟩
/-- cmp.isNaN[uint64] -/
noncomputable def B98 : Code := bodyOf Try.f98
set_option maxHeartbeats 1000000 in
theorem nan98_ok (a : Int) (G : Mem) : CallsG Try.prog 98 [.int .u64 a] G (fun _ v rows => v = .bool false ∧ rows = []) := by
 refine CallsG.enter Try.func98 rfl rfl ?_
 intro w
 refine Rn 14 (.ex .ret) [] ⟨6, [(2, VB (a != a))], []⟩ ?_
 refine Dg (.inl rfl) [.bool (a != a)] [] rfl (Ge.refl _ _) ?_
 exact ⟨congrArg Value.bool (by simp), rfl⟩
/-- cmp.Compare[int64] -/
noncomputable def B79 : Code := bodyOf Try.f79
set_option maxHeartbeats 1000000 in
theorem cmp79_ok (a b : Int) (G : Mem) : CallsG Try.prog 79 [.int .i64 a, .int .i64 b] G (fun _ v rows => v = .int .i64 (cmpI a b) ∧ rows = []) := by
 refine CallsG.enter Try.func79 rfl rfl ?_
 intro w
 refine Rn 8 (Qo B79 6 1) [Qs B79 7] ⟨20, [(0, I6 a), (1, I6 b), (4, I6 0), (7, I6 a)], []⟩ ?_
 refine Cg 97 [N6 a] 0 (nan97_ok a _) ?_
 rintro v1 G1 rows1 hG1 ⟨rfl, rfl⟩
 refine Rn 6 (Qo B79 14 1) [Qs B79 15] ⟨20, [(0, I6 a), (1, I6 b), (4, I6 0), (5, VB false), (9, I6 b)], []⟩ ?_
 refine Cg 97 [N6 b] 0 (nan97_ok b _) ?_
 rintro v2 G2 rows2 hG2 ⟨rfl, rfl⟩
 refine Rn 29 (Qc B79 253) [Qs B79 127] ⟨20, [(0, I6 a), (1, I6 b), (4, I6 0), (16, VB (decide (a < b)))], []⟩ ?_
 refine X.split 16 rfl (fun h3 => ?_) (fun h3 => ?_)
 ·
  replace h3 : a < b := of_decide_eq_true h3
  refine Rn 8 (.ex .ret) [] ⟨20, [(4, I6 (-1))], []⟩ ?_
  refine Dg (.inl rfl) [N6 (-1)] [] rfl ((hG1.trans hG2)) ?_
  rw [show cmpI a b = (-1) by unfold cmpI; omega]
  exact ⟨rfl, rfl⟩
 ·
  replace h3 : ¬ (a < b) := of_decide_eq_false h3
  refine Rn 11 (Qc B79 509) [Qs B79 255] ⟨20, [(4, I6 0), (19, VB (decide (a > b)))], []⟩ ?_
  refine X.split 19 rfl (fun h4 => ?_) (fun h4 => ?_)
  ·
   replace h4 : a > b := of_decide_eq_true h4
   refine Rn 8 (.ex .ret) [] ⟨20, [(4, I6 1)], []⟩ ?_
   refine Dg (.inl rfl) [N6 1] [] rfl ((hG1.trans hG2)) ?_
   rw [show cmpI a b = 1 by unfold cmpI; omega]
   exact ⟨rfl, rfl⟩
  ·
   replace h4 : ¬ (a > b) := of_decide_eq_false h4
   refine Rn 9 (.ex .ret) [] ⟨20, [(4, I6 0)], []⟩ ?_
   refine Dg (.inl rfl) [N6 0] [] rfl ((hG1.trans hG2)) ?_
   rw [show cmpI a b = 0 by unfold cmpI; omega]
   exact ⟨rfl, rfl⟩
/-- cmp.Compare[uint64] -/
noncomputable def B80 : Code := bodyOf Try.f80
set_option maxHeartbeats 1000000 in
theorem cmp80_ok (a b : Int) (G : Mem) : CallsG Try.prog 80 [.int .u64 a, .int .u64 b] G (fun _ v rows => v = .int .i64 (cmpI a b) ∧ rows = []) := by
 refine CallsG.enter Try.func80 rfl rfl ?_
 intro w
 refine Rn 8 (Qo B80 6 1) [Qs B80 7] ⟨20, [(0, I7 a), (1, I7 b), (4, I6 0), (7, I7 a)], []⟩ ?_
 refine Cg 98 [N7 a] 0 (nan98_ok a _) ?_
 rintro v1 G1 rows1 hG1 ⟨rfl, rfl⟩
 refine Rn 6 (Qo B80 14 1) [Qs B80 15] ⟨20, [(0, I7 a), (1, I7 b), (4, I6 0), (5, VB false), (9, I7 b)], []⟩ ?_
 refine Cg 98 [N7 b] 0 (nan98_ok b _) ?_
 rintro v2 G2 rows2 hG2 ⟨rfl, rfl⟩
 refine Rn 29 (Qc B80 253) [Qs B80 127] ⟨20, [(0, I7 a), (1, I7 b), (4, I6 0), (16, VB (decide (a < b)))], []⟩ ?_
 refine X.split 16 rfl (fun h3 => ?_) (fun h3 => ?_)
 ·
  replace h3 : a < b := of_decide_eq_true h3
  refine Rn 8 (.ex .ret) [] ⟨20, [(4, I6 (-1))], []⟩ ?_
  refine Dg (.inl rfl) [N6 (-1)] [] rfl ((hG1.trans hG2)) ?_
  rw [show cmpI a b = (-1) by unfold cmpI; omega]
  exact ⟨rfl, rfl⟩
 ·
  replace h3 : ¬ (a < b) := of_decide_eq_false h3
  refine Rn 11 (Qc B80 509) [Qs B80 255] ⟨20, [(4, I6 0), (19, VB (decide (a > b)))], []⟩ ?_
  refine X.split 19 rfl (fun h4 => ?_) (fun h4 => ?_)
  ·
   replace h4 : a > b := of_decide_eq_true h4
   refine Rn 8 (.ex .ret) [] ⟨20, [(4, I6 1)], []⟩ ?_
   refine Dg (.inl rfl) [N6 1] [] rfl ((hG1.trans hG2)) ?_
   rw [show cmpI a b = 1 by unfold cmpI; omega]
   exact ⟨rfl, rfl⟩
  ·
   replace h4 : ¬ (a > b) := of_decide_eq_false h4
   refine Rn 9 (.ex .ret) [] ⟨20, [(4, I6 0)], []⟩ ?_
   refine Dg (.inl rfl) [N6 0] [] rfl ((hG1.trans hG2)) ?_
   rw [show cmpI a b = 0 by unfold cmpI; omega]
   exact ⟨rfl, rfl⟩
/-- cmp.Or[int] -/
noncomputable def B78 : Code := bodyOf Try.f78
/-- (*leat/heap.Heap).Sorted-1 -/
noncomputable def B77 : Code := bodyOf Try.f77
set_option maxHeartbeats 1000000 in
theorem less77_ok (a0 a1 a2 a3 a4 b0 b1 b2 b3 b4 : Int) (G : Mem) : CallsG Try.prog 77 [.agg #[.int .i64 a0, .int .i64 a1, .int .i64 a2, .int .i64 a3, .int .u64 a4], .agg #[.int .i64 b0, .int .i64 b1, .int .i64 b2, .int .i64 b3, .int .u64 b4]] G (fun _ v rows => v = .int .i64 (orI (cmpI a0 b0) (cmpI a4 b4)) ∧ rows = []) := by
 refine CallsG.enter Try.func77 rfl rfl ?_
 intro w
 refine Rn 8 (Qc B77 6) [Qs B77 7] ⟨19, [(2, .own 2 0), (3, .own 3 0), (4, I6 0)], [(2, ⟨89, [I6 a0, I6 a1, I6 a2, I6 a3, I7 a4]⟩), (3, ⟨89, [I6 b0, I6 b1, I6 b2, I6 b3, I7 b4]⟩)]⟩ ?_
 refine Og 1 B77 6 15 [⟨some 2, 2, 89, [I6 a0, I6 a1, I6 a2, I6 a3, I7 a4]⟩, ⟨some 3, 3, 89, [I6 b0, I6 b1, I6 b2, I6 b3, I7 b4]⟩] [] [] ⟨⟨fun _ h => (by cases h; rfl), rfl⟩, ⟨fun _ h => (by cases h; rfl), rfl⟩, trivial⟩ (by intro p hp hn; simp only [List.mem_cons, List.not_mem_nil, or_false] at hp; rcases hp with rfl | rfl <;> first | (cases hn; done) | exact absurd _ (Nat.le_of_ble_eq_true rfl)) (fun ρ0 => ?_)
 refine Ts [0, 1, 2, 3, 4, 5, 7, 8, 9, 10] 15 1983 5 15 QOk.ctxG ?_
 refine Dn ⟨19, [(2, .own 2 0), (3, .own 3 0), (4, I6 0), (7, I6 a0), (10, I6 b0), (13, I7 a4), (15, I7 b4)], [(2, ⟨89, [I6 a0, I6 a1, I6 a2, I6 a3, I7 a4]⟩), (3, ⟨89, [I6 b0, I6 b1, I6 b2, I6 b3, I7 b4]⟩)]⟩ ⟨⟨fun _ h => (by cases h; rfl), rfl⟩, ⟨fun _ h => (by cases h; rfl), rfl⟩, trivial⟩ ?_
 refine Do 6 15 2047 B77 6 ?_
 refine Cg 79 [N6 a0, N6 b0] 0 (cmp79_ok a0 b0 _) ?_
 rintro v2 G2 rows2 hG2 ⟨rfl, rfl⟩
 refine X.back ⟨⟨⟨fun _ h => (by cases h; rfl), rfl⟩, ⟨fun _ h => (by cases h; rfl), rfl⟩, trivial⟩, hG2.le, rfl, ?_⟩
 refine Dn ⟨19, [(2, .own 2 0), (3, .own 3 0), (4, I6 0), (11, I6 (cmpI a0 b0)), (13, I7 a4), (15, I7 b4)], [(2, ⟨89, [I6 a0, I6 a1, I6 a2, I6 a3, I7 a4]⟩), (3, ⟨89, [I6 b0, I6 b1, I6 b2, I6 b3, I7 b4]⟩)]⟩ ⟨⟨fun _ h => (by cases h; rfl), rfl⟩, ⟨fun _ h => (by cases h; rfl), rfl⟩, trivial⟩ ?_
 refine Do 11 15 4095 B77 6 ?_
 refine Cg 80 [N7 a4, N7 b4] 0 (cmp80_ok a4 b4 _) ?_
 rintro v3 G3 rows3 hG3 ⟨rfl, rfl⟩
 refine X.back ⟨⟨⟨fun _ h => (by cases h; rfl), rfl⟩, ⟨fun _ h => (by cases h; rfl), rfl⟩, trivial⟩, (hG2.trans hG3).le, rfl, ?_⟩
 refine Dn ⟨19, [(2, .own 2 0), (3, .own 3 0), (4, I6 0), (11, I6 (cmpI a0 b0)), (16, I6 (cmpI a4 b4))], [(2, ⟨89, [I6 a0, I6 a1, I6 a2, I6 a3, I7 a4]⟩), (3, ⟨89, [I6 b0, I6 b1, I6 b2, I6 b3, I7 b4]⟩)]⟩ ⟨⟨fun _ h => (by cases h; rfl), rfl⟩, ⟨fun _ h => (by cases h; rfl), rfl⟩, trivial⟩ ?_
 refine Do 12 15 8191 B77 6 ?_
 refine Lt 17 3 1 2 [N6 (cmpI a0 b0), N6 (cmpI a4 b4)] ?_
 intro A4
 refine X.back ⟨⟨⟨fun _ h => (by cases h; rfl), rfl⟩, ⟨fun _ h => (by cases h; rfl), rfl⟩, trivial⟩, (hG2.trans hG3).le, rfl, ?_⟩
 refine Dn ⟨19, [(2, .own 2 0), (3, .own 3 0), (4, I6 0), (17, VL A4 2 2)], [(2, ⟨89, [I6 a0, I6 a1, I6 a2, I6 a3, I7 a4]⟩), (3, ⟨89, [I6 b0, I6 b1, I6 b2, I6 b3, I7 b4]⟩)]⟩ ⟨⟨fun _ h => (by cases h; rfl), rfl⟩, ⟨fun _ h => (by cases h; rfl), rfl⟩, trivial⟩ ?_
 refine Do 13 15 16383 B77 6 ?_
 refine X.inline (f := 78) (l := [VL A4 2 2]) (fn := Try.f78) (c := B78) (by kernel_rfl) (by kernel_rfl) Try.func78 (by kernel_rfl) ?_
 intro Q5 M5 hM5 hQ5 fin5
 refine Rn 19 (Qc B78 58) [.blk 0, Qs B78 15] ⟨18, [(2, I6 0), (3, I6 0), (6, VL A4 2 2), (7, I6 2), (8, I6 0)], [(1002, ⟨89, [I6 a0, I6 a1, I6 a2, I6 a3, I7 a4]⟩), (1003, ⟨89, [I6 b0, I6 b1, I6 b2, I6 b3, I7 b4]⟩)]⟩ ?_
 refine X.rounds 4 ?_
 refine RX.succ fun J6 hJ6 => ?_
 refine Rn 13 (Qo B78 3736 0) [Qs B78 3737, .blk 1, Qs B78 935, .loop J6, .blk 0, Qs B78 15] ⟨18, [(2, I6 0), (3, I6 0), (6, VL A4 2 2), (7, I6 2), (8, I6 0), (9, VB true)], [(1002, ⟨89, [I6 a0, I6 a1, I6 a2, I6 a3, I7 a4]⟩), (1003, ⟨89, [I6 b0, I6 b1, I6 b2, I6 b3, I7 b4]⟩)]⟩ ?_
 have b7 : (0 : Int) ≤ 0 := by omega
 have b8 : 0 < ((2 : Nat) : Int) := by omega
 refine Ix 124 3 1 A4 2 2 .i64 0 (.tmp 6) (.tmp 8) b7 b8 (rowSome (i := 17) (q := (RR 3 1 A4 2 2 [N6 (cmpI a0 b0), N6 (cmpI a4 b4)])) rfl rfl (Nat.succ_pos _)) ?_
 have at9 : At G3 [(17, ⟨3, 1, .slice A4 2 2, 2, [.int .i64 (cmpI a0 b0), .int .i64 (cmpI a4 b4)]⟩)] A4 (0 * 1) [.int .i64 (cmpI a0 b0)] := (At.of_row (i := 17) (r := ⟨3, 1, .slice A4 2 2, 2, [.int .i64 (cmpI a0 b0), .int .i64 (cmpI a4 b4)]⟩) rfl rfl).part 0 1
 have at10 : At G3 [(17, ⟨3, 1, .slice A4 2 2, 2, [.int .i64 (cmpI a0 b0), .int .i64 (cmpI a4 b4)]⟩)] A4 (0 * 1) [.int .i64 (cmpI a0 b0)] := (At.of_row (i := 17) (r := ⟨3, 1, .slice A4 2 2, 2, [.int .i64 (cmpI a0 b0), .int .i64 (cmpI a4 b4)]⟩) rfl rfl).part 0 1
 refine Ld 3 A4 (0 * 1) (.tmp 10) (N6 (cmpI a0 b0)) [N6 (cmpI a0 b0)] at10 ?_
 refine Rn 10 (Qc B78 7475) [.blk 1, Qs B78 935, .loop J6, .blk 0, Qs B78 15] ⟨18, [(2, I6 0), (3, I6 0), (5, I6 (cmpI a0 b0)), (6, VL A4 2 2), (7, I6 2), (8, I6 0), (9, VB true), (10, .v (elt A4 (0 * 1))), (11, I6 (cmpI a0 b0)), (12, I6 (cmpI a0 b0)), (13, I6 0), (14, VB ((cmpI a0 b0) != 0))], [(1002, ⟨89, [I6 a0, I6 a1, I6 a2, I6 a3, I7 a4]⟩), (1003, ⟨89, [I6 b0, I6 b1, I6 b2, I6 b3, I7 b4]⟩)]⟩ ?_
 refine X.split 14 rfl (fun h11 => ?_) (fun h11 => ?_)
 ·
  replace h11 : (cmpI a0 b0) ≠ 0 := by simpa using h11
  refine Rn 13 (.ex .ret) [] ⟨18, [(2, I6 (cmpI a0 b0))], [(1002, ⟨89, [I6 a0, I6 a1, I6 a2, I6 a3, I7 a4]⟩), (1003, ⟨89, [I6 b0, I6 b1, I6 b2, I6 b3, I7 b4]⟩)]⟩ ?_
  refine fin5 _ _ _ _ [N6 (cmpI a0 b0)] [(2, ⟨89, [I6 a0, I6 a1, I6 a2, I6 a3, I7 a4]⟩), (3, ⟨89, [I6 b0, I6 b1, I6 b2, I6 b3, I7 b4]⟩)] (.inl rfl) (by kernel_rfl) (by kernel_rfl) ?_
  refine X.back ⟨⟨⟨fun _ h => (by cases h; rfl), rfl⟩, ⟨fun _ h => (by cases h; rfl), rfl⟩, trivial⟩, (hG2.trans hG3).le, rfl, ?_⟩
  refine Ts [14] 15 32767 0 1 QOk.ctxG ?_
  refine XD.done (by kernel_rfl) ?_
  refine Rn 2 (.ex .ret) [] ⟨19, [(4, I6 (cmpI a0 b0))], []⟩ ?_
  refine Dg (.inl rfl) [N6 (cmpI a0 b0)] [] rfl ((hG2.trans hG3)) ?_
  rw [show orI (cmpI a0 b0) (cmpI a4 b4) = cmpI a0 b0 by unfold orI; split <;> omega]
  exact ⟨rfl, rfl⟩
 ·
  replace h11 : (cmpI a0 b0) = 0 := by simpa using h11
  refine Rn 8 (.ex .normal) [.loop J6, .blk 0, Qs B78 15] ⟨18, [(2, I6 0), (3, I6 0), (5, I6 (cmpI a0 b0)), (6, VL A4 2 2), (7, I6 2), (8, I6 1), (9, VB true), (10, .v (elt A4 (0 * 1))), (11, I6 (cmpI a0 b0)), (12, I6 (cmpI a0 b0)), (13, I6 0), (14, VB false), (16, I6 1)], [(1002, ⟨89, [I6 a0, I6 a1, I6 a2, I6 a3, I7 a4]⟩), (1003, ⟨89, [I6 b0, I6 b1, I6 b2, I6 b3, I7 b4]⟩)]⟩ ?_
  refine X.again (hJ6 _ _ _ ?_)
  refine RX.succ fun J12 hJ12 => ?_
  refine Rn 13 (Qo B78 3736 0) [Qs B78 3737, .blk 1, Qs B78 935, .loop J12, .blk 0, Qs B78 15] ⟨18, [(2, I6 0), (3, I6 0), (5, I6 (cmpI a0 b0)), (6, VL A4 2 2), (7, I6 2), (8, I6 1), (9, VB true), (10, .v (elt A4 (0 * 1))), (11, I6 (cmpI a0 b0)), (12, I6 (cmpI a0 b0)), (13, I6 0), (14, VB false), (16, I6 1)], [(1002, ⟨89, [I6 a0, I6 a1, I6 a2, I6 a3, I7 a4]⟩), (1003, ⟨89, [I6 b0, I6 b1, I6 b2, I6 b3, I7 b4]⟩)]⟩ ?_
  have b13 : (0 : Int) ≤ 1 := by omega
  have b14 : 1 < ((2 : Nat) : Int) := by omega
  refine Ix 124 3 1 A4 2 2 .i64 1 (.tmp 6) (.tmp 8) b13 b14 (rowSome (i := 17) (q := (RR 3 1 A4 2 2 [N6 (cmpI a0 b0), N6 (cmpI a4 b4)])) rfl rfl (Nat.succ_pos _)) ?_
  have at15 : At G3 [(17, ⟨3, 1, .slice A4 2 2, 2, [.int .i64 (cmpI a0 b0), .int .i64 (cmpI a4 b4)]⟩)] A4 (1 * 1) [.int .i64 (cmpI a4 b4)] := (At.of_row (i := 17) (r := ⟨3, 1, .slice A4 2 2, 2, [.int .i64 (cmpI a0 b0), .int .i64 (cmpI a4 b4)]⟩) rfl rfl).part 1 1
  have at16 : At G3 [(17, ⟨3, 1, .slice A4 2 2, 2, [.int .i64 (cmpI a0 b0), .int .i64 (cmpI a4 b4)]⟩)] A4 (1 * 1) [.int .i64 (cmpI a4 b4)] := (At.of_row (i := 17) (r := ⟨3, 1, .slice A4 2 2, 2, [.int .i64 (cmpI a0 b0), .int .i64 (cmpI a4 b4)]⟩) rfl rfl).part 1 1
  refine Ld 3 A4 (1 * 1) (.tmp 10) (N6 (cmpI a4 b4)) [N6 (cmpI a4 b4)] at16 ?_
  refine Rn 10 (Qc B78 7475) [.blk 1, Qs B78 935, .loop J12, .blk 0, Qs B78 15] ⟨18, [(2, I6 0), (3, I6 0), (5, I6 (cmpI a4 b4)), (6, VL A4 2 2), (7, I6 2), (8, I6 1), (9, VB true), (10, .v (elt A4 (1 * 1))), (11, I6 (cmpI a4 b4)), (12, I6 (cmpI a4 b4)), (13, I6 0), (14, VB ((cmpI a4 b4) != 0)), (16, I6 1)], [(1002, ⟨89, [I6 a0, I6 a1, I6 a2, I6 a3, I7 a4]⟩), (1003, ⟨89, [I6 b0, I6 b1, I6 b2, I6 b3, I7 b4]⟩)]⟩ ?_
  refine X.split 14 rfl (fun h17 => ?_) (fun h17 => ?_)
  ·
   replace h17 : (cmpI a4 b4) ≠ 0 := by simpa using h17
   refine Rn 13 (.ex .ret) [] ⟨18, [(2, I6 (cmpI a4 b4))], [(1002, ⟨89, [I6 a0, I6 a1, I6 a2, I6 a3, I7 a4]⟩), (1003, ⟨89, [I6 b0, I6 b1, I6 b2, I6 b3, I7 b4]⟩)]⟩ ?_
   refine fin5 _ _ _ _ [N6 (cmpI a4 b4)] [(2, ⟨89, [I6 a0, I6 a1, I6 a2, I6 a3, I7 a4]⟩), (3, ⟨89, [I6 b0, I6 b1, I6 b2, I6 b3, I7 b4]⟩)] (.inl rfl) (by kernel_rfl) (by kernel_rfl) ?_
   refine X.back ⟨⟨⟨fun _ h => (by cases h; rfl), rfl⟩, ⟨fun _ h => (by cases h; rfl), rfl⟩, trivial⟩, (hG2.trans hG3).le, rfl, ?_⟩
   refine Ts [14] 15 32767 0 1 QOk.ctxG ?_
   refine XD.done (by kernel_rfl) ?_
   refine Rn 2 (.ex .ret) [] ⟨19, [(4, I6 (cmpI a4 b4))], []⟩ ?_
   refine Dg (.inl rfl) [N6 (cmpI a4 b4)] [] rfl ((hG2.trans hG3)) ?_
   rw [show orI (cmpI a0 b0) (cmpI a4 b4) = cmpI a4 b4 by unfold orI; split <;> omega]
   exact ⟨rfl, rfl⟩
  ·
   replace h17 : (cmpI a4 b4) = 0 := by simpa using h17
   refine Rn 8 (.ex .normal) [.loop J12, .blk 0, Qs B78 15] ⟨18, [(2, I6 0), (3, I6 0), (5, I6 (cmpI a4 b4)), (6, VL A4 2 2), (7, I6 2), (8, I6 2), (9, VB true), (10, .v (elt A4 (1 * 1))), (11, I6 (cmpI a4 b4)), (12, I6 (cmpI a4 b4)), (13, I6 0), (14, VB false), (16, I6 2)], [(1002, ⟨89, [I6 a0, I6 a1, I6 a2, I6 a3, I7 a4]⟩), (1003, ⟨89, [I6 b0, I6 b1, I6 b2, I6 b3, I7 b4]⟩)]⟩ ?_
   refine X.again (hJ12 _ _ _ ?_)
   refine RX.succ fun J18 hJ18 => ?_
   refine Rn 19 (.ex .ret) [] ⟨18, [(2, I6 0)], [(1002, ⟨89, [I6 a0, I6 a1, I6 a2, I6 a3, I7 a4]⟩), (1003, ⟨89, [I6 b0, I6 b1, I6 b2, I6 b3, I7 b4]⟩)]⟩ ?_
   refine fin5 _ _ _ _ [N6 0] [(2, ⟨89, [I6 a0, I6 a1, I6 a2, I6 a3, I7 a4]⟩), (3, ⟨89, [I6 b0, I6 b1, I6 b2, I6 b3, I7 b4]⟩)] (.inl rfl) (by kernel_rfl) (by kernel_rfl) ?_
   refine X.back ⟨⟨⟨fun _ h => (by cases h; rfl), rfl⟩, ⟨fun _ h => (by cases h; rfl), rfl⟩, trivial⟩, (hG2.trans hG3).le, rfl, ?_⟩
   refine Ts [14] 15 32767 0 1 QOk.ctxG ?_
   refine XD.done (by kernel_rfl) ?_
   refine Rn 2 (.ex .ret) [] ⟨19, [(4, I6 0)], []⟩ ?_
   refine Dg (.inl rfl) [N6 0] [] rfl ((hG2.trans hG3)) ?_
   rw [show orI (cmpI a0 b0) (cmpI a4 b4) = 0 by unfold orI; split <;> omega]
   exact ⟨rfl, rfl⟩
end Go.Proofs.YthpinlcfcgnilaaZ
