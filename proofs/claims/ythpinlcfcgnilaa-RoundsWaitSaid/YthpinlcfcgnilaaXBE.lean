/- leatlaw45.RoundsWait: walked. Printed by a small program of this session. Conditions: none. -/
import Derived.Test.YthpinlcfcgnilaaProg
import Derived.KernelRfl
import Derived.Test.YthpinlcfcgnilaaXBP
import Derived.Test.YthpinlcfcgnilaaXF
import Derived.Test.YthpinlcfcgnilaaXPU
namespace Go.Proofs.YthpinlcfcgnilaaX
open Go.RowKit
open Go.Proofs.YthpinlcfcgnilaaW.PrintLast Go.Proofs.YthpinlcfcgnilaaW.PrintWords
set_option linter.unusedVariables false
set_option linter.unusedSimpArgs false
set_option maxRecDepth 100000
/-- leat/leatlaw45.RoundsWait -/
noncomputable def B11 : Code := bodyOf Try.f11
set_option maxHeartbeats 1000000 in
theorem RoundsWait_ok (A B : Option Addr) (ca cb : Nat) (ms p st : Int) (ws hs : List Int) (more : Int) (G : Mem) (hx : rowAt (D.int .i64) G A ws) (hy : rowAt (D.int .i64) G B hs) (hxc : ws.length ≤ ca) (hyc : hs.length ≤ cb) (hxm : ca ≤ maxLen) (hym : cb ≤ maxLen) (hmore : 0 ≤ more ∧ more ≤ 255) : CallsG Try.prog 11 [.agg #[.int .i64 ms, .int .i64 p, .int .i64 st, .slice A ws.length ca, .slice B hs.length cb], .int .u8 more] G (fun _ v rows => v = .bool true ∧ rows = []) := by
  simp only [maxLen] at hxm hym
  refine CallsG.enter Try.func11 rfl rfl ?_
  intro w
  refine X.run 7 [1, 2, 4] [2] (.code (cA B11 [1, 0])) [.seq (cA B11 [1, 1])] ⟨63, [(1, .v (.int .u8 more)), (2, .own 2 0), (4, .v (.bool false))], [(2, ⟨71, [.v (.int .i64 ms), .v (.int .i64 p), .v (.int .i64 st), .v (.slice A ws.length ca), .v (.slice B hs.length cb)]⟩)]⟩ (by kernel_rfl) ?_
  have hx_d1 := hx
  have hy_d1 := hy
  refine XD.open (id := 1) (arr := aA B11 [1, 0]) 18 [⟨some 2, 2, 71, [.v (.int .i64 ms), .v (.int .i64 p), .v (.int .i64 st), .v (.slice A ws.length ca), .v (.slice B hs.length cb)]⟩] [] [15, 16, 17] (by kernel_rfl) (by kernel_rfl) (by kernel_rfl) (by kernel_rfl) (by kernel_rfl) ⟨⟨fun _ h => (by cases h; rfl), rfl⟩, trivial⟩ (by intro p hp hn; simp only [List.mem_cons, List.not_mem_nil, or_false] at hp; rcases hp with rfl <;> first | (cases hn; done) | exact absurd _ (Nat.le_of_ble_eq_true rfl)) rfl (fun ρ0 => ?_)
  refine XD.take (i := 0) (l' := (lb 18 1)) (oA B11 [1, 0] 0) (.own 2 3) QOk.ctxG (by kernel_rfl) (by kernel_rfl) (by kernel_rfl) (by kernel_rfl) (by kernel_rfl) ?_
  refine XD.take (i := 1) (l' := (lb 18 3)) (oA B11 [1, 0] 1) (.v (.slice A ws.length ca)) QOk.ctxG (by kernel_rfl) (by kernel_rfl) (by kernel_rfl) (by kernel_rfl) (by kernel_rfl) ?_
  refine XD.take (i := 2) (l' := (lb 18 7)) (oA B11 [1, 0] 2) (.own 2 3) QOk.ctxG (by kernel_rfl) (by kernel_rfl) (by kernel_rfl) (by kernel_rfl) (by kernel_rfl) ?_
  refine XD.take (i := 3) (l' := (lb 18 15)) (oA B11 [1, 0] 3) (.v (.slice A ws.length ca)) QOk.ctxG (by kernel_rfl) (by kernel_rfl) (by kernel_rfl) (by kernel_rfl) (by kernel_rfl) ?_
  refine XD.take (i := 4) (l' := (lb 18 31)) (oA B11 [1, 0] 4) (.v (.int .i64 ((ws.length : Nat) : Int))) QOk.ctxG (by kernel_rfl) (by kernel_rfl) (by kernel_rfl) (by kernel_rfl) (by kernel_rfl) ?_
  refine XD.take (i := 5) (l' := (lb 18 63)) (oA B11 [1, 0] 5) (.v (.int .i64 (imin ((ws.length : Nat) : Int) 300))) QOk.ctxG (by kernel_rfl) (by kernel_rfl) (by kernel_rfl) (by kernel_rfl) (by kernel_rfl) ?_
  refine XD.known 14 (y := .v (.int .i64 (min ((ws.length : Nat) : Int) 300))) rfl (congrArg (fun z_ => AV.v (.int .i64 z_)) (by simp only [imin_eq, imax_eq])) ?_
  have hlo2 : 0 ≤ (min ((ws.length : Nat) : Int) 300).toNat := by omega
  have hhi2 : (min ((ws.length : Nat) : Int) 300).toNat ≤ ws.length := by omega
  refine XD.cut (i := 6) (l' := (lb 18 127)) (o := (oA B11 [1, 0] 6)) (t := 22) (e := 2) (sz := 1) (n := ws.length) (c := ca) (A := A) (x := .tmp 10) (l0 := none) (h := (some (.tmp 14))) (lv := none) (hv := (some (.int .i64 (min ((ws.length : Nat) : Int) 300)))) 0 ((min ((ws.length : Nat) : Int) 300).toNat) QOk.ctxG (by kernel_rfl) (by kernel_rfl) (by kernel_rfl) (by kernel_rfl) (by kernel_rfl) (by kernel_rfl) (by kernel_rfl) (by kernel_rfl) (by kernel_rfl) (rfl) (⟨_, _, rfl, by omega, rfl⟩) hlo2 (Nat.le_trans hhi2 hxc) (by kernel_rfl) ?_
  obtain ⟨A2, hA2⟩ : ∃ A_, cutA A ca 0 1 = A_ := ⟨_, rfl⟩
  obtain ⟨ys2, hys2⟩ : ∃ l_, (ws.take ((min ((ws.length : Nat) : Int) 300).toNat)).drop 0 = l_ := ⟨_, rfl⟩
  have hr2 : rowAt (D.int .i64) G (cutA A ca 0 1) ((ws.take ((min ((ws.length : Nat) : Int) 300).toNat)).drop 0) := rowAt_cut hx hlo2 hhi2 hxc
  have hl2 : ((min ((ws.length : Nat) : Int) 300).toNat) - 0 = ys2.length := by rw [← hys2, List.length_drop, List.length_take]; omega
  have hc2 : ys2.length ≤ ca - 0 := by omega
  have hm2 : ca - 0 ≤ maxLen := Nat.le_trans (Nat.sub_le _ _) hxm
  rw [hys2, show cutA A ca 0 _ = A2 from hA2] at hr2
  rw [hA2, hl2]
  refine XD.take (i := 7) (l' := (lb 18 255)) (oA B11 [1, 0] 7) (.own 2 4) QOk.ctxG (by kernel_rfl) (by kernel_rfl) (by kernel_rfl) (by kernel_rfl) (by kernel_rfl) ?_
  refine XD.take (i := 8) (l' := (lb 18 511)) (oA B11 [1, 0] 8) (.v (.slice B hs.length cb)) QOk.ctxG (by kernel_rfl) (by kernel_rfl) (by kernel_rfl) (by kernel_rfl) (by kernel_rfl) ?_
  refine XD.take (i := 9) (l' := (lb 18 1023)) (oA B11 [1, 0] 9) (.own 2 4) QOk.ctxG (by kernel_rfl) (by kernel_rfl) (by kernel_rfl) (by kernel_rfl) (by kernel_rfl) ?_
  refine XD.take (i := 10) (l' := (lb 18 2047)) (oA B11 [1, 0] 10) (.v (.slice B hs.length cb)) QOk.ctxG (by kernel_rfl) (by kernel_rfl) (by kernel_rfl) (by kernel_rfl) (by kernel_rfl) ?_
  refine XD.pureOne (i := 11) (l' := (lb 18 4095)) (oA B11 [1, 0] 11) (.int .i64 ((hs.length : Nat) : Int)) QOk.ctxG (by kernel_rfl) (by kernel_rfl) (by kernel_rfl) (by kernel_rfl) (by kernel_rfl) ?_
  refine XD.pureOne (i := 12) (l' := (lb 18 8191)) (oA B11 [1, 0] 12) (.int .i64 (imin ((hs.length : Nat) : Int) 300)) QOk.ctxG (by kernel_rfl) (by kernel_rfl) (by kernel_rfl) (by kernel_rfl) (by kernel_rfl) ?_
  refine XD.known 21 (y := .v (.int .i64 (min ((hs.length : Nat) : Int) 300))) rfl (congrArg (fun z_ => AV.v (.int .i64 z_)) (by simp only [imin_eq, imax_eq])) ?_
  have hlo3 : 0 ≤ (min ((hs.length : Nat) : Int) 300).toNat := by omega
  have hhi3 : (min ((hs.length : Nat) : Int) 300).toNat ≤ hs.length := by omega
  refine XD.pureCut (i := 13) (l' := (lb 18 16383)) (o := (oA B11 [1, 0] 13)) (t := 22) (e := 2) (sz := 1) (n := hs.length) (c := cb) (A := B) (x := .tmp 17) (l0 := none) (h := (some (.tmp 21))) (lv := none) (hv := (some (.int .i64 (min ((hs.length : Nat) : Int) 300)))) 0 ((min ((hs.length : Nat) : Int) 300).toNat) QOk.ctxG (by kernel_rfl) (by kernel_rfl) (by kernel_rfl) (by kernel_rfl) (by kernel_rfl) (by kernel_rfl) (by kernel_rfl) (by kernel_rfl) (by kernel_rfl) (rfl) (⟨_, _, rfl, by omega, rfl⟩) hlo3 (Nat.le_trans hhi3 hyc) (by kernel_rfl) ?_
  obtain ⟨A3, hA3⟩ : ∃ A_, cutA B cb 0 1 = A_ := ⟨_, rfl⟩
  obtain ⟨ys3, hys3⟩ : ∃ l_, (hs.take ((min ((hs.length : Nat) : Int) 300).toNat)).drop 0 = l_ := ⟨_, rfl⟩
  have hr3 : rowAt (D.int .i64) G (cutA B cb 0 1) ((hs.take ((min ((hs.length : Nat) : Int) 300).toNat)).drop 0) := rowAt_cut hy hlo3 hhi3 hyc
  have hl3 : ((min ((hs.length : Nat) : Int) 300).toNat) - 0 = ys3.length := by rw [← hys3, List.length_drop, List.length_take]; omega
  have hc3 : ys3.length ≤ cb - 0 := by omega
  have hm3 : cb - 0 ≤ maxLen := Nat.le_trans (Nat.sub_le _ _) hym
  rw [hys3, show cutA B cb 0 _ = A3 from hA3] at hr3
  rw [hA3, hl3]
  refine XD.take (i := 14) (l' := (lb 18 32767)) (oA B11 [1, 0] 14) (.own 2 3) QOk.ctxG (by kernel_rfl) (by kernel_rfl) (by kernel_rfl) (by kernel_rfl) (by kernel_rfl) ?_
  refine XD.toE ?_
  refine XE.norm [1, 2, 4, 15, 22, 23] [2] ⟨63, [(1, .v (.int .u8 more)), (2, .own 2 0), (4, .v (.bool false)), (15, .v (.slice A2 ys2.length (ca - 0))), (22, .v (.slice A3 ys3.length (cb - 0))), (23, .own 2 3)], [(2, ⟨71, [.v (.int .i64 ms), .v (.int .i64 p), .v (.int .i64 st), .v (.slice A ws.length ca), .v (.slice B hs.length cb)]⟩)]⟩ (by kernel_rfl) ?_
  refine XE.one (i := 15) (l' := (lb 18 65535)) (oA B11 [1, 0] 15) (by kernel_rfl) (by kernel_rfl) ?_
  refine X.simple (by kernel_rfl) ?_
  refine X.back ?_
  refine XE.norm [1, 2, 4, 22] [2] ⟨63, [(1, .v (.int .u8 more)), (2, .own 2 0), (4, .v (.bool false)), (22, .v (.slice A3 ys3.length (cb - 0)))], [(2, ⟨71, [.v (.int .i64 ms), .v (.int .i64 p), .v (.int .i64 st), .v (.slice A2 ys2.length (ca - 0)), .v (.slice B hs.length cb)]⟩)]⟩ (by kernel_rfl) ?_
  refine XE.one (i := 16) (l' := (lb 18 131071)) (oA B11 [1, 0] 16) (by kernel_rfl) (by kernel_rfl) ?_
  refine X.simple (by kernel_rfl) ?_
  refine X.back ?_
  refine XE.norm [1, 2, 4, 22, 24] [2] ⟨63, [(1, .v (.int .u8 more)), (2, .own 2 0), (4, .v (.bool false)), (22, .v (.slice A3 ys3.length (cb - 0))), (24, .own 2 4)], [(2, ⟨71, [.v (.int .i64 ms), .v (.int .i64 p), .v (.int .i64 st), .v (.slice A2 ys2.length (ca - 0)), .v (.slice B hs.length cb)]⟩)]⟩ (by kernel_rfl) ?_
  refine XE.one (i := 17) (l' := (lb 18 262143)) (oA B11 [1, 0] 17) (by kernel_rfl) (by kernel_rfl) ?_
  refine X.simple (by kernel_rfl) ?_
  refine X.back ?_
  refine XE.done (by kernel_rfl) ?_
  refine X.run 6 [1, 2, 4, 26, 28] [2] (.ops (aA B11 [1, 1, 0]) (oA B11 [1, 1, 0] 3 :: lA B11 [1, 1, 0] 4)) [.seq (cA B11 [1, 1, 1])] ⟨63, [(1, .v (.int .u8 more)), (2, .own 2 0), (4, .v (.bool false)), (26, .v (.agg #[.int .i64 ms, .int .i64 p, .int .i64 st, .slice A2 ys2.length (ca - 0), .slice A3 ys3.length (cb - 0)])), (28, .v (.int .i64 (IntKind.i64.wrap more)))], [(2, ⟨71, [.v (.int .i64 ms), .v (.int .i64 p), .v (.int .i64 st), .v (.slice A2 ys2.length (ca - 0)), .v (.slice A3 ys3.length (cb - 0))]⟩)]⟩ (by kernel_rfl) ?_
  refine X.known 28 (y := .v (.int .i64 more)) rfl (congrArg (fun z_ => AV.v (.int .i64 z_)) (wi64 (by omega) (by omega))) ?_
  refine X.run 1 [1, 2, 4, 26, 29] [2] (.ops (aA B11 [1, 1, 0]) (oA B11 [1, 1, 0] 4 :: lA B11 [1, 1, 0] 5)) [.seq (cA B11 [1, 1, 1])] ⟨63, [(1, .v (.int .u8 more)), (2, .own 2 0), (4, .v (.bool false)), (26, .v (.agg #[.int .i64 ms, .int .i64 p, .int .i64 st, .slice A2 ys2.length (ca - 0), .slice A3 ys3.length (cb - 0)])), (29, .v (.int .i64 (IntKind.i64.wrap (100 + more))))], [(2, ⟨71, [.v (.int .i64 ms), .v (.int .i64 p), .v (.int .i64 st), .v (.slice A2 ys2.length (ca - 0)), .v (.slice A3 ys3.length (cb - 0))]⟩)]⟩ (by kernel_rfl) ?_
  refine X.known 29 (y := .v (.int .i64 (100 + more))) rfl (congrArg (fun z_ => AV.v (.int .i64 z_)) (wi64 (by omega) (by omega))) ?_
  refine X.callG (f := 33) (l := [.v (.agg #[.int .i64 ms, .int .i64 p, .int .i64 st, .slice A2 ys2.length (ca - 0), .slice A3 ys3.length (cb - 0)]), .v (.int .i64 (100 + more))]) [.agg #[.int .i64 ms, .int .i64 p, .int .i64 st, .slice A2 ys2.length (ca - 0), .slice A3 ys3.length (cb - 0)], .int .i64 (100 + more)] 190 (by kernel_rfl) (by kernel_rfl) (by kernel_rfl) (Run_ok A2 A3 (ca - 0) (cb - 0) ms p st ys2 ys3 (100 + more) _ hr2 hr3 hc2 hc3 hm2 hm3) ?_
  rintro v4 G4 rows4 hG4 ⟨A4, c4, B4, d4, rfl, rfl⟩
  replace hx := hx.mono hG4.le
  replace hy := hy.mono hG4.le
  replace hr2 := hr2.mono hG4.le
  replace hr3 := hr3.mono hG4.le
  refine X.asR (R' := [(190, ⟨2, 1, .slice A4 ((max 0 (min (100 + more) 2000)).toNat) c4, (max 0 (min (100 + more) 2000)).toNat, (qL (ms, p, st, ys2, ys3) (max 0 (min (100 + more) 2000)).toNat).map (Value.int .i64)⟩), (191, ⟨2, 1, .slice B4 ((max 0 (min (100 + more) 2000)).toNat) d4, (max 0 (min (100 + more) 2000)).toNat, (sL (ms, p, st, ys2, ys3) (max 0 (min (100 + more) 2000)).toNat).map (Value.int .i64)⟩)]) rfl ?_
  refine X.tellR [190, 191] (R' := [(190, ⟨2, 1, .slice A4 ((max 0 (min (100 + more) 2000)).toNat) c4, (max 0 (min (100 + more) 2000)).toNat, (qL (ms, p, st, ys2, ys3) (max 0 (min (100 + more) 2000)).toNat).map (Value.int .i64)⟩), (191, ⟨2, 1, .slice B4 ((max 0 (min (100 + more) 2000)).toNat) d4, (max 0 (min (100 + more) 2000)).toNat, (sL (ms, p, st, ys2, ys3) (max 0 (min (100 + more) 2000)).toNat).map (Value.int .i64)⟩)]) rfl ?_
  refine X.capLe (i := 190) (q := ⟨2, 1, .slice A4 ((max 0 (min (100 + more) 2000)).toNat) c4, (max 0 (min (100 + more) 2000)).toNat, (qL (ms, p, st, ys2, ys3) (max 0 (min (100 + more) 2000)).toNat).map (Value.int .i64)⟩) (n := (max 0 (min (100 + more) 2000)).toNat) (c := c4) (A := A4) rfl rfl ?_
  intro hle5 hmx5
  refine X.freezeHd (i := 190) (n := (max 0 (min (100 + more) 2000)).toNat) (c := c4) (A := A4) (kd := .i64) (qL (ms, p, st, ys2, ys3) (max 0 (min (100 + more) 2000)).toNat) rfl rfl (qL_range) (by kernel_rfl) (fun _ h => h) ?_
  intro G5 hG5 hr5
  replace hx := hx.mono hG5.le
  replace hy := hy.mono hG5.le
  replace hr2 := hr2.mono hG5.le
  replace hr3 := hr3.mono hG5.le
  have hlq_ : (qL (ms, p, st, ys2, ys3) (max 0 (min (100 + more) 2000)).toNat).length = (max 0 (min (100 + more) 2000)).toNat := qL_len _ _
  refine X.tellR [191] (R' := [(191, ⟨2, 1, .slice B4 ((max 0 (min (100 + more) 2000)).toNat) d4, (max 0 (min (100 + more) 2000)).toNat, (sL (ms, p, st, ys2, ys3) (max 0 (min (100 + more) 2000)).toNat).map (Value.int .i64)⟩)]) rfl ?_
  refine X.capLe (i := 191) (q := ⟨2, 1, .slice B4 ((max 0 (min (100 + more) 2000)).toNat) d4, (max 0 (min (100 + more) 2000)).toNat, (sL (ms, p, st, ys2, ys3) (max 0 (min (100 + more) 2000)).toNat).map (Value.int .i64)⟩) (n := (max 0 (min (100 + more) 2000)).toNat) (c := d4) (A := B4) rfl rfl ?_
  intro hle6 hmx6
  refine X.freezeHd (i := 191) (n := (max 0 (min (100 + more) 2000)).toNat) (c := d4) (A := B4) (kd := .i64) (sL (ms, p, st, ys2, ys3) (max 0 (min (100 + more) 2000)).toNat) rfl rfl (sL_range) (by kernel_rfl) (fun _ h => h) ?_
  intro G6 hG6 hr6
  replace hx := hx.mono hG6.le
  replace hy := hy.mono hG6.le
  replace hr2 := hr2.mono hG6.le
  replace hr3 := hr3.mono hG6.le
  replace hr5 := hr5.mono hG6.le
  have hls_ : (sL (ms, p, st, ys2, ys3) (max 0 (min (100 + more) 2000)).toNat).length = (max 0 (min (100 + more) 2000)).toNat := sL_len _ _
  refine X.run 15 [2, 4, 5, 33, 35, 37] [2] (.ops (aA B11 [1, 1, 1, 0, 0]) (oA B11 [1, 1, 1, 0, 0] 5 :: lA B11 [1, 1, 1, 0, 0] 6)) [.seq (cA B11 [1, 1, 1, 0, 1]), .seq (cA B11 [1, 1, 1, 1])] ⟨63, [(2, .own 2 0), (4, .v (.bool false)), (5, .v (.slice A4 ((max 0 (min (100 + more) 2000)).toNat) c4)), (33, .v (.bool false)), (35, .v (.int .i64 (((max 0 (min (100 + more) 2000)).toNat : Nat) : Int))), (37, .v (.int .i64 (IntKind.i64.wrap more)))], [(2, ⟨71, [.v (.int .i64 ms), .v (.int .i64 p), .v (.int .i64 st), .v (.slice A2 ys2.length (ca - 0)), .v (.slice A3 ys3.length (cb - 0))]⟩)]⟩ (by kernel_rfl) ?_
  refine X.known 37 (y := .v (.int .i64 more)) rfl (congrArg (fun z_ => AV.v (.int .i64 z_)) (wi64 (by omega) (by omega))) ?_
  refine X.run 1 [2, 4, 5, 33, 35, 38] [2] (.ops (aA B11 [1, 1, 1, 0, 0]) (oA B11 [1, 1, 1, 0, 0] 6 :: lA B11 [1, 1, 1, 0, 0] 7)) [.seq (cA B11 [1, 1, 1, 0, 1]), .seq (cA B11 [1, 1, 1, 1])] ⟨63, [(2, .own 2 0), (4, .v (.bool false)), (5, .v (.slice A4 ((max 0 (min (100 + more) 2000)).toNat) c4)), (33, .v (.bool false)), (35, .v (.int .i64 (((max 0 (min (100 + more) 2000)).toNat : Nat) : Int))), (38, .v (.int .i64 (IntKind.i64.wrap (100 + more))))], [(2, ⟨71, [.v (.int .i64 ms), .v (.int .i64 p), .v (.int .i64 st), .v (.slice A2 ys2.length (ca - 0)), .v (.slice A3 ys3.length (cb - 0))]⟩)]⟩ (by kernel_rfl) ?_
  refine X.known 38 (y := .v (.int .i64 (100 + more))) rfl (congrArg (fun z_ => AV.v (.int .i64 z_)) (wi64 (by omega) (by omega))) ?_
  refine X.run 4 [2, 4, 5, 40] [2] (.code (cA B11 [1, 1, 1, 0, 1])) [.seq (cA B11 [1, 1, 1, 1])] ⟨63, [(2, .own 2 0), (4, .v (.bool false)), (5, .v (.slice A4 ((max 0 (min (100 + more) 2000)).toNat) c4)), (40, .v (.bool ((((max 0 (min (100 + more) 2000)).toNat : Nat) : Int) != (100 + more))))], [(2, ⟨71, [.v (.int .i64 ms), .v (.int .i64 p), .v (.int .i64 st), .v (.slice A2 ys2.length (ca - 0)), .v (.slice A3 ys3.length (cb - 0))]⟩)]⟩ (by kernel_rfl) ?_
  refine X.isFalse 40 rfl (by simp; omega) ?_
  refine X.run 6 [4, 5, 41] [] (.ops (aA B11 [1, 1, 1, 1, 0]) (oA B11 [1, 1, 1, 1, 0] 1 :: lA B11 [1, 1, 1, 1, 0] 2)) [.seq (cA B11 [1, 1, 1, 1, 1])] ⟨63, [(4, .v (.bool false)), (5, .v (.slice A4 ((max 0 (min (100 + more) 2000)).toNat) c4)), (41, .v (.agg #[.int .i64 ms, .int .i64 p, .int .i64 st, .slice A2 ys2.length (ca - 0), .slice A3 ys3.length (cb - 0)]))], []⟩ (by kernel_rfl) ?_
  refine X.callG (f := 46) (l := [.v (.agg #[.int .i64 ms, .int .i64 p, .int .i64 st, .slice A2 ys2.length (ca - 0), .slice A3 ys3.length (cb - 0)])]) [.agg #[.int .i64 ms, .int .i64 p, .int .i64 st, .slice A2 ys2.length (ca - 0), .slice A3 ys3.length (cb - 0)]] 0 (by kernel_rfl) (by kernel_rfl) (by kernel_rfl) (Bound_ok A2 A3 (ca - 0) (cb - 0) ms p st ys2 ys3 _ hr2 hr3 hc2 hc3 hm2 hm3) ?_
  rintro v7 G7 rows7 hG7 ⟨rfl, rfl⟩
  replace hx := hx.mono hG7.le
  replace hy := hy.mono hG7.le
  replace hr2 := hr2.mono hG7.le
  replace hr3 := hr3.mono hG7.le
  replace hr5 := hr5.mono hG7.le
  replace hr6 := hr6.mono hG7.le
  refine X.run 10 [4, 5, 7, 8] [] (.code (cA B11 [1, 1, 1, 1, 1, 0, 1, 0])) [.blk 0, .seq (cA B11 [1, 1, 1, 1, 1, 1])] ⟨63, [(4, .v (.bool false)), (5, .v (.slice A4 ((max 0 (min (100 + more) 2000)).toNat) c4)), (7, .v (.int .i64 (cS st + cM ms * (cN ys2 : Int)))), (8, .v (.int .i64 100))], []⟩ (by kernel_rfl) ?_
  refine X.run 0 [5, 7, 8] [] (.code (cA B11 [1, 1, 1, 1, 1, 0, 1, 0])) [.blk 0, .seq (cA B11 [1, 1, 1, 1, 1, 1])] ⟨63, [(5, .v (.slice A4 ((max 0 (min (100 + more) 2000)).toNat) c4)), (7, .v (.int .i64 (cS st + cM ms * (cN ys2 : Int)))), (8, .v (.int .i64 100))], []⟩ (by kernel_rfl) ?_
  refine X.loopJ (fun m s R' G' => ∃ (i : Int), s = ⟨63, [(5, .v (.slice A4 ((max 0 (min (100 + more) 2000)).toNat) c4)), (7, .v (.int .i64 (cS st + cM ms * (cN ys2 : Int)))), (8, .v (.int .i64 i))], []⟩ ∧ R' = [] ∧ G7 = G' ∧ (100 ≤ i ∧ i ≤ (((max 0 (min (100 + more) 2000)).toNat : Nat) : Int)) ∧ m = ((((max 0 (min (100 + more) 2000)).toNat : Nat) : Int) - i).toNat) _ ⟨100, rfl, rfl, rfl, ⟨by omega, by omega⟩, rfl⟩ ?_
  rintro m8 s8 R8 G8 ⟨i, rfl, rfl, rfl, hF8, rfl⟩ J8 hJ8
  obtain ⟨hi0, hi1⟩ := hF8
  have hqw_ := qR_wait (ms, p, st, ys2, ys3) (k := i.toNat) (by omega)
  have hqr_ := qR_range (itR i.toNat (ms, p, st, ys2, ys3))
  dsimp only at hqw_
  refine X.run 9 [5, 7, 8, 46] [] (.code (cA B11 [1, 1, 1, 1, 1, 0, 1, 0, 0, 0, 1])) [.seq (cA B11 [1, 1, 1, 1, 1, 0, 1, 0, 0, 1]), .loop J8, .blk 0, .seq (cA B11 [1, 1, 1, 1, 1, 1])] ⟨63, [(5, .v (.slice A4 ((max 0 (min (100 + more) 2000)).toNat) c4)), (7, .v (.int .i64 (cS st + cM ms * (cN ys2 : Int)))), (8, .v (.int .i64 i)), (46, .v (.bool (decide (i < (((max 0 (min (100 + more) 2000)).toNat : Nat) : Int)))))], []⟩ (by kernel_rfl) ?_
  refine X.split 46 rfl (fun h9 => ?_) (fun h9 => ?_)
  · -- slot 46: decide (i < (((max 0 (min (100 + more) 2000)).toNat : Nat) : Int)) is True
    replace h9 : i < (((max 0 (min (100 + more) 2000)).toNat : Nat) : Int) := of_decide_eq_true h9
    refine X.run 9 [5, 7, 8, 49, 50] [] (.ops (aA B11 [1, 1, 1, 1, 1, 0, 1, 0, 0, 1, 0, 0, 0]) (oA B11 [1, 1, 1, 1, 1, 0, 1, 0, 0, 1, 0, 0, 0] 2 :: lA B11 [1, 1, 1, 1, 1, 0, 1, 0, 0, 1, 0, 0, 0] 3)) [.seq (cA B11 [1, 1, 1, 1, 1, 0, 1, 0, 0, 1, 0, 0, 1]), .blk 1, .seq (cA B11 [1, 1, 1, 1, 1, 0, 1, 0, 0, 1, 1]), .loop J8, .blk 0, .seq (cA B11 [1, 1, 1, 1, 1, 1])] ⟨63, [(5, .v (.slice A4 ((max 0 (min (100 + more) 2000)).toNat) c4)), (7, .v (.int .i64 (cS st + cM ms * (cN ys2 : Int)))), (8, .v (.int .i64 i)), (49, .v (.slice A4 ((max 0 (min (100 + more) 2000)).toNat) c4)), (50, .v (.int .i64 i))], []⟩ (by kernel_rfl) ?_
    have b10 : (0 : Int) ≤ i := by omega
    have b11 : i < (((max 0 (min (100 + more) 2000)).toNat : Nat) : Int) := by omega
    refine X.index (t := 22) (e := 2) (sz := 1) (A := A4) (n := (max 0 (min (100 + more) 2000)).toNat) (c := c4) (ki := .i64) (i := i) (x := .tmp 49) (ix := .tmp 50) (by kernel_rfl) (by kernel_rfl) (by kernel_rfl) (by kernel_rfl) (by kernel_rfl) (by kernel_rfl) b10 b11 (fun _ _ => rowAt.so hr5 (by omega)) ?_
    obtain ⟨at12, lo12, hi12⟩ := At.int [] hr5 ((i).toNat) (by omega)
    simp only [IntKind.lo, IntKind.hi] at lo12 hi12
    refine X.run 0 [5, 7, 8, 51] [] (.ops (aA B11 [1, 1, 1, 1, 1, 0, 1, 0, 0, 1, 0, 0, 0]) (oA B11 [1, 1, 1, 1, 1, 0, 1, 0, 0, 1, 0, 0, 0] 3 :: lA B11 [1, 1, 1, 1, 1, 0, 1, 0, 0, 1, 0, 0, 0] 4)) [.seq (cA B11 [1, 1, 1, 1, 1, 0, 1, 0, 0, 1, 0, 0, 1]), .blk 1, .seq (cA B11 [1, 1, 1, 1, 1, 0, 1, 0, 0, 1, 1]), .loop J8, .blk 0, .seq (cA B11 [1, 1, 1, 1, 1, 1])] ⟨63, [(5, .v (.slice A4 ((max 0 (min (100 + more) 2000)).toNat) c4)), (7, .v (.int .i64 (cS st + cM ms * (cN ys2 : Int)))), (8, .v (.int .i64 i)), (51, .v (elt A4 ((i).toNat * 1)))], []⟩ (by kernel_rfl) ?_
    refine X.load (t := 2) (A := A4) (j := (i).toNat * 1) (x := .tmp 51) (z := .int .i64 ((qL (ms, p, st, ys2, ys3) (max 0 (min (100 + more) 2000)).toNat).getD ((i).toNat) 0)) [.int .i64 ((qL (ms, p, st, ys2, ys3) (max 0 (min (100 + more) 2000)).toNat).getD ((i).toNat) 0)] (by kernel_rfl) (by kernel_rfl) at12 (by kernel_rfl) (by kernel_rfl) ?_
    refine X.run 2 [5, 7, 8, 54] [] (.ops (aA B11 [1, 1, 1, 1, 1, 0, 1, 0, 0, 1, 0, 0, 0]) (oA B11 [1, 1, 1, 1, 1, 0, 1, 0, 0, 1, 0, 0, 0] 6 :: lA B11 [1, 1, 1, 1, 1, 0, 1, 0, 0, 1, 0, 0, 0] 7)) [.seq (cA B11 [1, 1, 1, 1, 1, 0, 1, 0, 0, 1, 0, 0, 1]), .blk 1, .seq (cA B11 [1, 1, 1, 1, 1, 0, 1, 0, 0, 1, 1]), .loop J8, .blk 0, .seq (cA B11 [1, 1, 1, 1, 1, 1])] ⟨63, [(5, .v (.slice A4 ((max 0 (min (100 + more) 2000)).toNat) c4)), (7, .v (.int .i64 (cS st + cM ms * (cN ys2 : Int)))), (8, .v (.int .i64 i)), (54, .v (.bool (decide (((qL (ms, p, st, ys2, ys3) (max 0 (min (100 + more) 2000)).toNat).getD ((i).toNat) 0) < 0))))], []⟩ (by kernel_rfl) ?_
    refine X.isFalse 54 rfl (by rw [qL_at (by omega)]; exact decide_eq_false (by omega)) ?_
    refine X.run 2 [5, 7, 8, 54, 55, 56] [] (.ops (aA B11 [1, 1, 1, 1, 1, 0, 1, 0, 0, 1, 0, 0, 0]) (oA B11 [1, 1, 1, 1, 1, 0, 1, 0, 0, 1, 0, 0, 0] 8 :: lA B11 [1, 1, 1, 1, 1, 0, 1, 0, 0, 1, 0, 0, 0] 9)) [.seq (cA B11 [1, 1, 1, 1, 1, 0, 1, 0, 0, 1, 0, 0, 1]), .blk 1, .seq (cA B11 [1, 1, 1, 1, 1, 0, 1, 0, 0, 1, 1]), .loop J8, .blk 0, .seq (cA B11 [1, 1, 1, 1, 1, 1])] ⟨63, [(5, .v (.slice A4 ((max 0 (min (100 + more) 2000)).toNat) c4)), (7, .v (.int .i64 (cS st + cM ms * (cN ys2 : Int)))), (8, .v (.int .i64 i)), (54, .v (.bool false)), (55, .v (.slice A4 ((max 0 (min (100 + more) 2000)).toNat) c4)), (56, .v (.int .i64 i))], []⟩ (by kernel_rfl) ?_
    have b13 : (0 : Int) ≤ i := by omega
    have b14 : i < (((max 0 (min (100 + more) 2000)).toNat : Nat) : Int) := by omega
    refine X.index (t := 22) (e := 2) (sz := 1) (A := A4) (n := (max 0 (min (100 + more) 2000)).toNat) (c := c4) (ki := .i64) (i := i) (x := .tmp 55) (ix := .tmp 56) (by kernel_rfl) (by kernel_rfl) (by kernel_rfl) (by kernel_rfl) (by kernel_rfl) (by kernel_rfl) b13 b14 (fun _ _ => rowAt.so hr5 (by omega)) ?_
    obtain ⟨at15, lo15, hi15⟩ := At.int [] hr5 ((i).toNat) (by omega)
    simp only [IntKind.lo, IntKind.hi] at lo15 hi15
    refine X.run 0 [5, 7, 8, 54, 57] [] (.ops (aA B11 [1, 1, 1, 1, 1, 0, 1, 0, 0, 1, 0, 0, 0]) (oA B11 [1, 1, 1, 1, 1, 0, 1, 0, 0, 1, 0, 0, 0] 9 :: lA B11 [1, 1, 1, 1, 1, 0, 1, 0, 0, 1, 0, 0, 0] 10)) [.seq (cA B11 [1, 1, 1, 1, 1, 0, 1, 0, 0, 1, 0, 0, 1]), .blk 1, .seq (cA B11 [1, 1, 1, 1, 1, 0, 1, 0, 0, 1, 1]), .loop J8, .blk 0, .seq (cA B11 [1, 1, 1, 1, 1, 1])] ⟨63, [(5, .v (.slice A4 ((max 0 (min (100 + more) 2000)).toNat) c4)), (7, .v (.int .i64 (cS st + cM ms * (cN ys2 : Int)))), (8, .v (.int .i64 i)), (54, .v (.bool false)), (57, .v (elt A4 ((i).toNat * 1)))], []⟩ (by kernel_rfl) ?_
    refine X.load (t := 2) (A := A4) (j := (i).toNat * 1) (x := .tmp 57) (z := .int .i64 ((qL (ms, p, st, ys2, ys3) (max 0 (min (100 + more) 2000)).toNat).getD ((i).toNat) 0)) [.int .i64 ((qL (ms, p, st, ys2, ys3) (max 0 (min (100 + more) 2000)).toNat).getD ((i).toNat) 0)] (by kernel_rfl) (by kernel_rfl) at15 (by kernel_rfl) (by kernel_rfl) ?_
    refine X.run 5 [5, 7, 8, 61] [] (.code (cA B11 [1, 1, 1, 1, 1, 0, 1, 0, 0, 1, 0, 0, 1])) [.blk 1, .seq (cA B11 [1, 1, 1, 1, 1, 0, 1, 0, 0, 1, 1]), .loop J8, .blk 0, .seq (cA B11 [1, 1, 1, 1, 1, 1])] ⟨63, [(5, .v (.slice A4 ((max 0 (min (100 + more) 2000)).toNat) c4)), (7, .v (.int .i64 (cS st + cM ms * (cN ys2 : Int)))), (8, .v (.int .i64 i)), (61, .v (.bool (decide (((qL (ms, p, st, ys2, ys3) (max 0 (min (100 + more) 2000)).toNat).getD ((i).toNat) 0) > cS st + cM ms * (cN ys2 : Int)))))], []⟩ (by kernel_rfl) ?_
    refine X.isFalse 61 rfl (by rw [qL_at (by omega)]; exact decide_eq_false (by omega)) ?_
    refine X.run 9 [5, 7, 8] [] (.ex .normal) [.loop J8, .blk 0, .seq (cA B11 [1, 1, 1, 1, 1, 1])] ⟨63, [(5, .v (.slice A4 ((max 0 (min (100 + more) 2000)).toNat) c4)), (7, .v (.int .i64 (cS st + cM ms * (cN ys2 : Int)))), (8, .v (.int .i64 (IntKind.i64.wrap (i + 1))))], []⟩ (by kernel_rfl) ?_
    -- again (T)
    have e1 : IntKind.i64.wrap (i + 1) = i + 1 := wi64 (by omega) (by omega)
    exact X.again (hJ8 _ _ _ _ ⟨IntKind.i64.wrap (i + 1), rfl, rfl, rfl, ⟨by omega, by omega⟩, rfl⟩ (by rw [e1]; omega))
  · -- slot 46: decide (i < (((max 0 (min (100 + more) 2000)).toNat : Nat) : Int)) is False
    replace h9 : ¬ (i < (((max 0 (min (100 + more) 2000)).toNat : Nat) : Int)) := of_decide_eq_false h9
    refine X.run 8 [] [] (.ops (aA B11 [1, 1, 1, 1, 1, 1, 0]) (oA B11 [1, 1, 1, 1, 1, 1, 0] 0 :: lA B11 [1, 1, 1, 1, 1, 1, 0] 1)) [.seq (cA B11 [1, 1, 1, 1, 1, 1, 1])] ⟨63, [], []⟩ (by kernel_rfl) ?_
    refine X.callG (f := 38) (l := []) [] 0 (by kernel_rfl) (by kernel_rfl) (by kernel_rfl) (Works_ok _) ?_
    rintro v16 G16 rows16 hG16 ⟨rfl, rfl⟩
    replace hx := hx.mono hG16.le
    replace hy := hy.mono hG16.le
    replace hr2 := hr2.mono hG16.le
    replace hr3 := hr3.mono hG16.le
    replace hr5 := hr5.mono hG16.le
    replace hr6 := hr6.mono hG16.le
    refine X.run 4 [4] [] (.ex .ret) [] ⟨63, [(4, .v (.bool true))], []⟩ (by kernel_rfl) ?_
    refine doneG (.inl rfl) [.bool true] [] (by kernel_rfl) rfl rfl (((((hG4.trans hG5).trans hG6).trans hG7).trans hG16)) ?_
    -- end 1 (F)
    exact ⟨rfl, rfl⟩

end Go.Proofs.YthpinlcfcgnilaaX
