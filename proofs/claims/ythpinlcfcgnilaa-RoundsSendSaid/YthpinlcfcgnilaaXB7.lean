/- rounds.Ramp, Bound: walked. Printed by a small program of this session. Conditions: none. -/
import Derived.Test.YthpinlcfcgnilaaProg
import Derived.KernelRfl
import Derived.Test.YthpinlcfcgnilaaXB6
namespace Go.Proofs.YthpinlcfcgnilaaX
open Go.RowKit
open Go.Proofs.YthpinlcfcgnilaaW.PrintLast Go.Proofs.YthpinlcfcgnilaaW.PrintWords
set_option linter.unusedVariables false
set_option linter.unusedSimpArgs false
set_option maxRecDepth 100000
theorem ceil_up {a d : Int} (hd : 0 < d) (h : a % d ≠ 0) : (a + d - 1) / d = a / d + 1 := by
  have h1 := Int.emod_add_mul_ediv a d
  have h2 := Int.emod_nonneg a (Int.ne_of_gt hd)
  have h3 := Int.emod_lt_of_pos a hd
  have e : a + d - 1 = (a % d - 1) + d * (a / d + 1) := by rw [Int.mul_add, Int.mul_one]; omega
  rw [e, Int.add_mul_ediv_left _ _ (Int.ne_of_gt hd), Int.ediv_eq_zero_of_lt (by omega) (by omega)]
  omega
theorem ceil_at {a d : Int} (hd : 0 < d) (h : a % d = 0) : (a + d - 1) / d = a / d := by
  have h1 := Int.emod_add_mul_ediv a d
  have e : a + d - 1 = (d - 1) + d * (a / d) := by omega
  rw [e, Int.add_mul_ediv_left _ _ (Int.ne_of_gt hd), Int.ediv_eq_zero_of_lt (by omega) (by omega)]
  omega
theorem ntdiv {a d : Int} (ha : 0 ≤ a ∧ a ≤ 1073741824) (hd : 1 ≤ d ∧ d ≤ 1073741824) : IntKind.i64.wrap (Int.tdiv (0 - a) d) = 0 - a / d := by
  have h1 := Int.ediv_nonneg ha.1 (show 0 ≤ d by omega)
  have h2 : a / d ≤ a := Int.ediv_le_self _ ha.1
  rw [Int.zero_sub, Int.neg_tdiv, Int.tdiv_eq_ediv_of_nonneg ha.1, wi64 (by omega) (by omega), Int.zero_sub]
theorem ntmod {a d : Int} (ha : 0 ≤ a) : Int.tmod (0 - a) d = 0 - a % d := by
  rw [Int.zero_sub, Int.neg_tmod, Int.tmod_eq_emod_of_nonneg ha, Int.zero_sub]
theorem pos_of_mod {a d : Int} (ha : 0 ≤ a) (h : 0 - a % d ≠ 0) : 0 < a := by
  rcases Int.lt_or_le 0 a with h1 | h1
  · exact h1
  · have e : a = 0 := by omega
    subst e
    simp at h
/-- How many rounds windows take to all. -/
def ramI (p mn : Int) : Int := (p + mn - 1) / mn
theorem mn_range (ms : Int) {n : Nat} (h1 : 1 ≤ n) (h : n ≤ 256) : 1 ≤ cM ms * (n : Int) ∧ cM ms * (n : Int) ≤ 16777216 := by
  have h0 := cM_range ms
  refine ⟨?_, ?_⟩
  · have := Int.mul_le_mul h0.1 (show (1 : Int) ≤ n by omega) (by decide) (by omega)
    omega
  · have := Int.mul_le_mul h0.2 (show (n : Int) ≤ 256 by omega) (by omega) (by decide)
    omega

set_option maxHeartbeats 1000000 in
theorem DivNeg_ok (a d : Int) (ha : 0 ≤ a ∧ a ≤ 1073741824) (hd : 1 ≤ d ∧ d ≤ 1073741824) (G : Mem) : CallsG Try.prog 74 [.int .i64 (0 - a), .int .i64 d] G (fun _ v rows => v = .int .i64 (0 - ramI a d) ∧ rows = []) := by
  have h5_ := Int.ediv_nonneg ha.1 (show 0 ≤ d by omega)
  have h6_ : a / d ≤ a := Int.ediv_le_self _ ha.1
  refine CallsG.enter Try.func74 rfl rfl ?_
  intro w
  refine X.run 12 [0, 1, 4, 7] [] (.code (cA B74 [1, 0, 1])) [.seq (cA B74 [1, 1])] ⟨31, [(0, .v (.int .i64 (0 - a))), (1, .v (.int .i64 d)), (4, .v (.int .i64 0)), (7, .v (.bool (d == 0)))], []⟩ (by kernel_rfl) ?_
  refine X.isFalse 7 rfl (by simp; omega) ?_
  refine X.run 9 [0, 1, 4, 10] [] (.ops (aA B74 [1, 1, 0, 0]) (oA B74 [1, 1, 0, 0] 3 :: lA B74 [1, 1, 0, 0] 4)) [.seq (cA B74 [1, 1, 0, 1]), .seq (cA B74 [1, 1, 1])] ⟨31, [(0, .v (.int .i64 (0 - a))), (1, .v (.int .i64 d)), (4, .v (.int .i64 0)), (10, .v (.bool ((0 - a) == (-9223372036854775808))))], []⟩ (by kernel_rfl) ?_
  refine X.isFalse 10 rfl (by simp; omega) ?_
  refine X.run 12 [0, 1, 4, 14, 15] [] (.ops (aA B74 [1, 1, 1, 0]) (oA B74 [1, 1, 1, 0] 2 :: lA B74 [1, 1, 1, 0] 3)) [.seq (cA B74 [1, 1, 1, 1])] ⟨31, [(0, .v (.int .i64 (0 - a))), (1, .v (.int .i64 d)), (4, .v (.int .i64 0)), (14, .v (.int .i64 (0 - a))), (15, .v (.int .i64 d))], []⟩ (by kernel_rfl) ?_
  refine X.quo (t := 2) (t' := 2) (x := .tmp 14) (y := .tmp 15) (kd := .i64) (a := 0 - a) (b := d) (by kernel_rfl) (by kernel_rfl) (by kernel_rfl) (by kernel_rfl) (by omega) ?_
  refine X.known 16 (y := .v (.int .i64 (0 - a / d))) rfl (congrArg (fun z_ => AV.v (.int .i64 z_)) (ntdiv ha hd)) ?_
  refine X.run 8 [0, 1, 4, 5, 17, 18] [] (.ops (aA B74 [1, 1, 1, 1, 0, 0]) (oA B74 [1, 1, 1, 1, 0, 0] 2 :: lA B74 [1, 1, 1, 1, 0, 0] 3)) [.seq (cA B74 [1, 1, 1, 1, 0, 1]), .seq (cA B74 [1, 1, 1, 1, 1])] ⟨31, [(0, .v (.int .i64 (0 - a))), (1, .v (.int .i64 d)), (4, .v (.int .i64 0)), (5, .v (.int .i64 (0 - a / d))), (17, .v (.int .i64 (0 - a))), (18, .v (.int .i64 d))], []⟩ (by kernel_rfl) ?_
  refine X.rem (t := 2) (t' := 2) (x := .tmp 17) (y := .tmp 18) (kd := .i64) (a := 0 - a) (b := d) (by kernel_rfl) (by kernel_rfl) (by kernel_rfl) (by kernel_rfl) (by omega) ?_
  refine X.known 19 (y := .v (.int .i64 (0 - a % d))) rfl (congrArg (fun z_ => AV.v (.int .i64 z_)) (ntmod ha.1)) ?_
  refine X.run 2 [0, 1, 4, 5, 21] [] (.ops (aA B74 [1, 1, 1, 1, 0, 0]) (oA B74 [1, 1, 1, 1, 0, 0] 5 :: lA B74 [1, 1, 1, 1, 0, 0] 6)) [.seq (cA B74 [1, 1, 1, 1, 0, 1]), .seq (cA B74 [1, 1, 1, 1, 1])] ⟨31, [(0, .v (.int .i64 (0 - a))), (1, .v (.int .i64 d)), (4, .v (.int .i64 0)), (5, .v (.int .i64 (0 - a / d))), (21, .v (.bool ((0 - a % d) != 0)))], []⟩ (by kernel_rfl) ?_
  refine X.split 21 rfl (fun h1 => ?_) (fun h1 => ?_)
  · -- slot 21: (0 - a % d) != 0 is True
    replace h1 : (0 - a % d) ≠ 0 := by simpa using h1
    have hpos_ := pos_of_mod ha.1 h1
    refine X.run 8 [4, 5, 27] [] (.code (cA B74 [1, 1, 1, 1, 0, 1])) [.seq (cA B74 [1, 1, 1, 1, 1])] ⟨31, [(4, .v (.int .i64 0)), (5, .v (.int .i64 (0 - a / d))), (27, .v (.bool (!((decide (0 - a < 0)) == (decide (d < 0))))))], []⟩ (by kernel_rfl) ?_
    refine X.isTrue 27 rfl (by rw [decide_eq_true (by omega), decide_eq_false (by omega)]; rfl) ?_
    refine X.run 4 [4, 5, 29] [] (.ops (aA B74 [1, 1, 1, 1, 0, 1, 0]) (oA B74 [1, 1, 1, 1, 0, 1, 0] 2 :: lA B74 [1, 1, 1, 1, 0, 1, 0] 3)) [.seq (cA B74 [1, 1, 1, 1, 1])] ⟨31, [(4, .v (.int .i64 0)), (5, .v (.int .i64 (0 - a / d))), (29, .v (.int .i64 (IntKind.i64.wrap ((0 - a / d) - 1))))], []⟩ (by kernel_rfl) ?_
    refine X.known 29 (y := .v (.int .i64 ((0 - a / d) - 1))) rfl (congrArg (fun z_ => AV.v (.int .i64 z_)) (wi64 (by omega) (by omega))) ?_
    refine X.run 10 [4] [] (.ex .ret) [] ⟨31, [(4, .v (.int .i64 ((0 - a / d) - 1)))], []⟩ (by kernel_rfl) ?_
    refine doneG (.inl rfl) [.int .i64 ((0 - a / d) - 1)] [] (by kernel_rfl) rfl rfl (Ge.refl _ _) ?_
    -- end 1 (T)
    have h5_ := Int.ediv_nonneg ha.1 (show 0 ≤ d by omega)
    have h6_ : a / d ≤ a := Int.ediv_le_self _ ha.1
    exact ⟨by unfold ramI; rw [ceil_up (by omega) (by omega)]; exact congrArg (Value.int .i64) (by omega), rfl⟩
  · -- slot 21: (0 - a % d) != 0 is False
    replace h1 : (0 - a % d) = 0 := by simpa using h1
    refine X.run 18 [4] [] (.ex .ret) [] ⟨31, [(4, .v (.int .i64 (0 - a / d)))], []⟩ (by kernel_rfl) ?_
    refine doneG (.inl rfl) [.int .i64 (0 - a / d)] [] (by kernel_rfl) rfl rfl (Ge.refl _ _) ?_
    -- end 2 (F)
    have h5_ := Int.ediv_nonneg ha.1 (show 0 ≤ d by omega)
    have h6_ : a / d ≤ a := Int.ediv_le_self _ ha.1
    exact ⟨by unfold ramI; rw [ceil_at (by omega) (by omega)]; rfl, rfl⟩

/-- leat/rounds.Ramp -/
noncomputable def B45 : Code := bodyOf Try.f45
set_option maxHeartbeats 1000000 in
theorem Ramp_ok (A B : Option Addr) (ca cb : Nat) (ms p st : Int) (ws hs : List Int) (G : Mem) (hx : rowAt (D.int .i64) G A ws) (hy : rowAt (D.int .i64) G B hs) (hxc : ws.length ≤ ca) (hyc : hs.length ≤ cb) (hxm : ca ≤ maxLen) (hym : cb ≤ maxLen) : CallsG Try.prog 45 [.agg #[.int .i64 ms, .int .i64 p, .int .i64 st, .slice A ws.length ca, .slice B hs.length cb]] G (fun _ v rows => v = .int .i64 (ramI (cP ms p (cN ws)) (cM ms * (cN ws : Int))) ∧ rows = []) := by
  simp only [maxLen] at hxm hym
  have hcn_ := cN_range ws
  have hmn_ := mn_range ms hcn_.1 hcn_.2
  have hcp_ := cP_range ms p (cN_range ws).2
  have hrp_ : 0 ≤ ramI (cP ms p (cN ws)) (cM ms * (cN ws : Int)) ∧ ramI (cP ms p (cN ws)) (cM ms * (cN ws : Int)) ≤ 4294967296 := ⟨Int.ediv_nonneg (by omega) (by omega), Int.le_trans (Int.ediv_le_self _ (by omega)) (by omega)⟩
  refine CallsG.enter Try.func45 rfl rfl ?_
  intro w
  refine X.run 9 [1, 2, 3] [1] (.ops (aA B45 [1, 0]) (oA B45 [1, 0] 1 :: lA B45 [1, 0] 2)) [.seq (cA B45 [1, 1])] ⟨16, [(1, .own 1 0), (2, .v (.int .i64 0)), (3, .v (.agg #[.int .i64 ms, .int .i64 p, .int .i64 st, .slice A ws.length ca, .slice B hs.length cb]))], [(1, ⟨71, [.v (.int .i64 ms), .v (.int .i64 p), .v (.int .i64 st), .v (.slice A ws.length ca), .v (.slice B hs.length cb)]⟩)]⟩ (by kernel_rfl) ?_
  refine X.callG (f := 40) (l := [.v (.agg #[.int .i64 ms, .int .i64 p, .int .i64 st, .slice A ws.length ca, .slice B hs.length cb])]) [.agg #[.int .i64 ms, .int .i64 p, .int .i64 st, .slice A ws.length ca, .slice B hs.length cb]] 171 (by kernel_rfl) (by kernel_rfl) (by kernel_rfl) (Clean_okn A B ca cb ws.length hs.length ms p st ws hs _ hx hy rfl rfl hxc hyc hxm hym) ?_
  rintro v1 G1 rows1 hG1 ⟨A1, c1, B1, d1, rfl, rfl⟩
  replace hx := hx.mono hG1.le
  replace hy := hy.mono hG1.le
  refine X.asR (R' := [(171, ⟨2, 1, .slice A1 (cN ws) c1, cN ws, (cW ms ws (cN ws)).map (Value.int .i64)⟩), (172, ⟨2, 1, .slice B1 (cN ws) d1, cN ws, (cH hs (cN ws)).map (Value.int .i64)⟩)]) rfl ?_
  refine X.run 8 [1, 2, 7] [1] (.ops (aA B45 [1, 1, 0]) (oA B45 [1, 1, 0] 3 :: lA B45 [1, 1, 0] 4)) [.seq (cA B45 [1, 1, 1])] ⟨16, [(1, .own 1 0), (2, .v (.int .i64 0)), (7, .v (.int .i64 (IntKind.i64.wrap (0 - (cP ms p (cN ws))))))], [(1, ⟨71, [.v (.int .i64 (cM ms)), .v (.int .i64 (cP ms p (cN ws))), .v (.int .i64 (cS st)), .v (.slice A1 (cN ws) c1), .v (.slice B1 (cN ws) d1)]⟩)]⟩ (by kernel_rfl) ?_
  refine X.known 7 (y := .v (.int .i64 (0 - (cP ms p (cN ws))))) rfl (congrArg (fun z_ => AV.v (.int .i64 z_)) (wi64 (by omega) (by omega))) ?_
  refine X.run 6 [2, 7, 13] [] (.ops (aA B45 [1, 1, 0]) (oA B45 [1, 1, 0] 9 :: lA B45 [1, 1, 0] 10)) [.seq (cA B45 [1, 1, 1])] ⟨16, [(2, .v (.int .i64 0)), (7, .v (.int .i64 (0 - (cP ms p (cN ws))))), (13, .v (.int .i64 (IntKind.i64.wrap ((cM ms) * ((cN ws : Nat) : Int)))))], []⟩ (by kernel_rfl) ?_
  refine X.known 13 (y := .v (.int .i64 ((cM ms) * ((cN ws : Nat) : Int)))) rfl (congrArg (fun z_ => AV.v (.int .i64 z_)) (wi64 (by omega) (by omega))) ?_
  refine X.callG (f := 74) (l := [.v (.int .i64 (0 - (cP ms p (cN ws)))), .v (.int .i64 ((cM ms) * ((cN ws : Nat) : Int)))]) [.int .i64 (0 - (cP ms p (cN ws))), .int .i64 ((cM ms) * ((cN ws : Nat) : Int))] 0 (by kernel_rfl) (by kernel_rfl) (by kernel_rfl) (DivNeg_ok (cP ms p (cN ws)) ((cM ms) * ((cN ws : Nat) : Int)) (by omega) (by omega) _) ?_
  rintro v2 G2 rows2 hG2 ⟨rfl, rfl⟩
  replace hx := hx.mono hG2.le
  replace hy := hy.mono hG2.le
  refine X.run 1 [2, 15] [] (.ops (aA B45 [1, 1, 0]) (oA B45 [1, 1, 0] 11 :: lA B45 [1, 1, 0] 12)) [.seq (cA B45 [1, 1, 1])] ⟨16, [(2, .v (.int .i64 0)), (15, .v (.int .i64 (IntKind.i64.wrap (0 - (0 - ramI (cP ms p (cN ws)) ((cM ms) * ((cN ws : Nat) : Int)))))))], []⟩ (by kernel_rfl) ?_
  refine X.known 15 (y := .v (.int .i64 (0 - (0 - ramI (cP ms p (cN ws)) ((cM ms) * ((cN ws : Nat) : Int)))))) rfl (congrArg (fun z_ => AV.v (.int .i64 z_)) (wi64 (by omega) (by omega))) ?_
  refine X.run 4 [2] [] (.ex .ret) [] ⟨16, [(2, .v (.int .i64 (0 - (0 - ramI (cP ms p (cN ws)) ((cM ms) * ((cN ws : Nat) : Int))))))], []⟩ (by kernel_rfl) ?_
  refine doneG (.inl rfl) [.int .i64 (0 - (0 - ramI (cP ms p (cN ws)) ((cM ms) * ((cN ws : Nat) : Int))))] [] (by kernel_rfl) rfl rfl ((hG1.trans hG2)) ?_
  -- end 1 ()
  exact ⟨congrArg (Value.int .i64) (by omega), rfl⟩

/-- leat/rounds.Bound -/
noncomputable def B46 : Code := bodyOf Try.f46
set_option maxHeartbeats 1000000 in
theorem Bound_ok (A B : Option Addr) (ca cb : Nat) (ms p st : Int) (ws hs : List Int) (G : Mem) (hx : rowAt (D.int .i64) G A ws) (hy : rowAt (D.int .i64) G B hs) (hxc : ws.length ≤ ca) (hyc : hs.length ≤ cb) (hxm : ca ≤ maxLen) (hym : cb ≤ maxLen) : CallsG Try.prog 46 [.agg #[.int .i64 ms, .int .i64 p, .int .i64 st, .slice A ws.length ca, .slice B hs.length cb]] G (fun _ v rows => v = .int .i64 (cS st + cM ms * (cN ws : Int)) ∧ rows = []) := by
  simp only [maxLen] at hxm hym
  have hcn_ := cN_range ws
  have hmn_ := mn_range ms hcn_.1 hcn_.2
  have hcs_ : 0 ≤ cS st ∧ cS st ≤ 1073741824 := by unfold cS; omega
  refine CallsG.enter Try.func46 rfl rfl ?_
  intro w
  refine X.run 9 [1, 2, 3] [1] (.ops (aA B46 [1, 0]) (oA B46 [1, 0] 1 :: lA B46 [1, 0] 2)) [.seq (cA B46 [1, 1])] ⟨14, [(1, .own 1 0), (2, .v (.int .i64 0)), (3, .v (.agg #[.int .i64 ms, .int .i64 p, .int .i64 st, .slice A ws.length ca, .slice B hs.length cb]))], [(1, ⟨71, [.v (.int .i64 ms), .v (.int .i64 p), .v (.int .i64 st), .v (.slice A ws.length ca), .v (.slice B hs.length cb)]⟩)]⟩ (by kernel_rfl) ?_
  refine X.callG (f := 40) (l := [.v (.agg #[.int .i64 ms, .int .i64 p, .int .i64 st, .slice A ws.length ca, .slice B hs.length cb])]) [.agg #[.int .i64 ms, .int .i64 p, .int .i64 st, .slice A ws.length ca, .slice B hs.length cb]] 171 (by kernel_rfl) (by kernel_rfl) (by kernel_rfl) (Clean_okn A B ca cb ws.length hs.length ms p st ws hs _ hx hy rfl rfl hxc hyc hxm hym) ?_
  rintro v1 G1 rows1 hG1 ⟨A1, c1, B1, d1, rfl, rfl⟩
  replace hx := hx.mono hG1.le
  replace hy := hy.mono hG1.le
  refine X.asR (R' := [(171, ⟨2, 1, .slice A1 (cN ws) c1, cN ws, (cW ms ws (cN ws)).map (Value.int .i64)⟩), (172, ⟨2, 1, .slice B1 (cN ws) d1, cN ws, (cH hs (cN ws)).map (Value.int .i64)⟩)]) rfl ?_
  refine X.run 13 [2, 6, 12] [] (.ops (aA B46 [1, 1, 0]) (oA B46 [1, 1, 0] 8 :: lA B46 [1, 1, 0] 9)) [.seq (cA B46 [1, 1, 1])] ⟨14, [(2, .v (.int .i64 0)), (6, .v (.int .i64 (cS st))), (12, .v (.int .i64 (IntKind.i64.wrap ((cM ms) * ((cN ws : Nat) : Int)))))], []⟩ (by kernel_rfl) ?_
  refine X.known 12 (y := .v (.int .i64 ((cM ms) * ((cN ws : Nat) : Int)))) rfl (congrArg (fun z_ => AV.v (.int .i64 z_)) (wi64 (by omega) (by omega))) ?_
  refine X.run 1 [2, 13] [] (.ops (aA B46 [1, 1, 0]) (oA B46 [1, 1, 0] 9 :: lA B46 [1, 1, 0] 10)) [.seq (cA B46 [1, 1, 1])] ⟨14, [(2, .v (.int .i64 0)), (13, .v (.int .i64 (IntKind.i64.wrap ((cS st) + ((cM ms) * ((cN ws : Nat) : Int))))))], []⟩ (by kernel_rfl) ?_
  refine X.known 13 (y := .v (.int .i64 ((cS st) + ((cM ms) * ((cN ws : Nat) : Int))))) rfl (congrArg (fun z_ => AV.v (.int .i64 z_)) (wi64 (by omega) (by omega))) ?_
  refine X.run 4 [2] [] (.ex .ret) [] ⟨14, [(2, .v (.int .i64 ((cS st) + ((cM ms) * ((cN ws : Nat) : Int)))))], []⟩ (by kernel_rfl) ?_
  refine doneG (.inl rfl) [.int .i64 ((cS st) + ((cM ms) * ((cN ws : Nat) : Int)))] [] (by kernel_rfl) rfl rfl (hG1) ?_
  -- end 1 ()
  exact ⟨rfl, rfl⟩

end Go.Proofs.YthpinlcfcgnilaaX
