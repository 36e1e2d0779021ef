/- leatlaw45.RoundsRun: walked. Printed by a small program of this session. Conditions: none. -/
import Derived.Test.YthpinlcfcgnilaaProg
import Derived.KernelRfl
import Derived.Test.YthpinlcfcgnilaaXBB
import Derived.Test.YthpinlcfcgnilaaXF
import Derived.Test.YthpinlcfcgnilaaXPU
namespace Go.Proofs.YthpinlcfcgnilaaX
open Go.RowKit
open Go.Proofs.YthpinlcfcgnilaaW.PrintLast Go.Proofs.YthpinlcfcgnilaaW.PrintWords
set_option linter.unusedVariables false
set_option linter.unusedSimpArgs false
set_option maxRecDepth 100000
/-- leat/leatlaw45.RoundsRun -/
noncomputable def B9 : Code := bodyOf Try.f9
set_option maxHeartbeats 1000000 in
theorem RoundsRun_ok (A B : Option Addr) (ca cb : Nat) (ms p st : Int) (ws hs : List Int) (many : Int) (G : Mem) (hx : rowAt (D.int .i64) G A ws) (hy : rowAt (D.int .i64) G B hs) (hxc : ws.length ≤ ca) (hyc : hs.length ≤ cb) (hxm : ca ≤ maxLen) (hym : cb ≤ maxLen) (hmany : -9223372036854775808 ≤ many ∧ many ≤ 9223372036854775807) : CallsG Try.prog 9 [.agg #[.int .i64 ms, .int .i64 p, .int .i64 st, .slice A ws.length ca, .slice B hs.length cb], .int .i64 many] G (fun _ v rows => v = .bool true ∧ rows = []) := by
  simp only [maxLen] at hxm hym
  refine CallsG.enter Try.func9 rfl rfl ?_
  intro w
  refine X.run 7 [1, 2, 4] [2] (.code (cA B9 [1, 0])) [.seq (cA B9 [1, 1])] ⟨75, [(1, .v (.int .i64 many)), (2, .own 2 0), (4, .v (.bool false))], [(2, ⟨71, [.v (.int .i64 ms), .v (.int .i64 p), .v (.int .i64 st), .v (.slice A ws.length ca), .v (.slice B hs.length cb)]⟩)]⟩ (by kernel_rfl) ?_
  have hx_d1 := hx
  have hy_d1 := hy
  refine XD.open (id := 1) (arr := aA B9 [1, 0]) 18 [⟨some 2, 2, 71, [.v (.int .i64 ms), .v (.int .i64 p), .v (.int .i64 st), .v (.slice A ws.length ca), .v (.slice B hs.length cb)]⟩] [] [15, 16, 17] (by kernel_rfl) (by kernel_rfl) (by kernel_rfl) (by kernel_rfl) (by kernel_rfl) ⟨⟨fun _ h => (by cases h; rfl), rfl⟩, trivial⟩ (by intro p hp hn; simp only [List.mem_cons, List.not_mem_nil, or_false] at hp; rcases hp with rfl <;> first | (cases hn; done) | exact absurd _ (Nat.le_of_ble_eq_true rfl)) rfl (fun ρ0 => ?_)
  refine XD.take (i := 0) (l' := (lb 18 1)) (oA B9 [1, 0] 0) (.own 2 3) QOk.ctxG (by kernel_rfl) (by kernel_rfl) (by kernel_rfl) (by kernel_rfl) (by kernel_rfl) ?_
  refine XD.take (i := 1) (l' := (lb 18 3)) (oA B9 [1, 0] 1) (.v (.slice A ws.length ca)) QOk.ctxG (by kernel_rfl) (by kernel_rfl) (by kernel_rfl) (by kernel_rfl) (by kernel_rfl) ?_
  refine XD.take (i := 2) (l' := (lb 18 7)) (oA B9 [1, 0] 2) (.own 2 3) QOk.ctxG (by kernel_rfl) (by kernel_rfl) (by kernel_rfl) (by kernel_rfl) (by kernel_rfl) ?_
  refine XD.take (i := 3) (l' := (lb 18 15)) (oA B9 [1, 0] 3) (.v (.slice A ws.length ca)) QOk.ctxG (by kernel_rfl) (by kernel_rfl) (by kernel_rfl) (by kernel_rfl) (by kernel_rfl) ?_
  refine XD.take (i := 4) (l' := (lb 18 31)) (oA B9 [1, 0] 4) (.v (.int .i64 ((ws.length : Nat) : Int))) QOk.ctxG (by kernel_rfl) (by kernel_rfl) (by kernel_rfl) (by kernel_rfl) (by kernel_rfl) ?_
  refine XD.take (i := 5) (l' := (lb 18 63)) (oA B9 [1, 0] 5) (.v (.int .i64 (imin ((ws.length : Nat) : Int) 20))) QOk.ctxG (by kernel_rfl) (by kernel_rfl) (by kernel_rfl) (by kernel_rfl) (by kernel_rfl) ?_
  refine XD.known 14 (y := .v (.int .i64 (min ((ws.length : Nat) : Int) 20))) rfl (congrArg (fun z_ => AV.v (.int .i64 z_)) (by simp only [imin_eq, imax_eq])) ?_
  have hlo2 : 0 ≤ (min ((ws.length : Nat) : Int) 20).toNat := by omega
  have hhi2 : (min ((ws.length : Nat) : Int) 20).toNat ≤ ws.length := by omega
  refine XD.cut (i := 6) (l' := (lb 18 127)) (o := (oA B9 [1, 0] 6)) (t := 22) (e := 2) (sz := 1) (n := ws.length) (c := ca) (A := A) (x := .tmp 10) (l0 := none) (h := (some (.tmp 14))) (lv := none) (hv := (some (.int .i64 (min ((ws.length : Nat) : Int) 20)))) 0 ((min ((ws.length : Nat) : Int) 20).toNat) QOk.ctxG (by kernel_rfl) (by kernel_rfl) (by kernel_rfl) (by kernel_rfl) (by kernel_rfl) (by kernel_rfl) (by kernel_rfl) (by kernel_rfl) (by kernel_rfl) (rfl) (⟨_, _, rfl, by omega, rfl⟩) hlo2 (Nat.le_trans hhi2 hxc) (by kernel_rfl) ?_
  obtain ⟨A2, hA2⟩ : ∃ A_, cutA A ca 0 1 = A_ := ⟨_, rfl⟩
  obtain ⟨ys2, hys2⟩ : ∃ l_, (ws.take ((min ((ws.length : Nat) : Int) 20).toNat)).drop 0 = l_ := ⟨_, rfl⟩
  have hr2 : rowAt (D.int .i64) G (cutA A ca 0 1) ((ws.take ((min ((ws.length : Nat) : Int) 20).toNat)).drop 0) := rowAt_cut hx hlo2 hhi2 hxc
  have hl2 : ((min ((ws.length : Nat) : Int) 20).toNat) - 0 = ys2.length := by rw [← hys2, List.length_drop, List.length_take]; omega
  have hc2 : ys2.length ≤ ca - 0 := by omega
  have hm2 : ca - 0 ≤ maxLen := Nat.le_trans (Nat.sub_le _ _) hxm
  rw [hys2, show cutA A ca 0 _ = A2 from hA2] at hr2
  rw [hA2, hl2]
  refine XD.take (i := 7) (l' := (lb 18 255)) (oA B9 [1, 0] 7) (.own 2 4) QOk.ctxG (by kernel_rfl) (by kernel_rfl) (by kernel_rfl) (by kernel_rfl) (by kernel_rfl) ?_
  refine XD.take (i := 8) (l' := (lb 18 511)) (oA B9 [1, 0] 8) (.v (.slice B hs.length cb)) QOk.ctxG (by kernel_rfl) (by kernel_rfl) (by kernel_rfl) (by kernel_rfl) (by kernel_rfl) ?_
  refine XD.take (i := 9) (l' := (lb 18 1023)) (oA B9 [1, 0] 9) (.own 2 4) QOk.ctxG (by kernel_rfl) (by kernel_rfl) (by kernel_rfl) (by kernel_rfl) (by kernel_rfl) ?_
  refine XD.take (i := 10) (l' := (lb 18 2047)) (oA B9 [1, 0] 10) (.v (.slice B hs.length cb)) QOk.ctxG (by kernel_rfl) (by kernel_rfl) (by kernel_rfl) (by kernel_rfl) (by kernel_rfl) ?_
  refine XD.pureOne (i := 11) (l' := (lb 18 4095)) (oA B9 [1, 0] 11) (.int .i64 ((hs.length : Nat) : Int)) QOk.ctxG (by kernel_rfl) (by kernel_rfl) (by kernel_rfl) (by kernel_rfl) (by kernel_rfl) ?_
  refine XD.pureOne (i := 12) (l' := (lb 18 8191)) (oA B9 [1, 0] 12) (.int .i64 (imin ((hs.length : Nat) : Int) 20)) QOk.ctxG (by kernel_rfl) (by kernel_rfl) (by kernel_rfl) (by kernel_rfl) (by kernel_rfl) ?_
  refine XD.known 21 (y := .v (.int .i64 (min ((hs.length : Nat) : Int) 20))) rfl (congrArg (fun z_ => AV.v (.int .i64 z_)) (by simp only [imin_eq, imax_eq])) ?_
  have hlo3 : 0 ≤ (min ((hs.length : Nat) : Int) 20).toNat := by omega
  have hhi3 : (min ((hs.length : Nat) : Int) 20).toNat ≤ hs.length := by omega
  refine XD.pureCut (i := 13) (l' := (lb 18 16383)) (o := (oA B9 [1, 0] 13)) (t := 22) (e := 2) (sz := 1) (n := hs.length) (c := cb) (A := B) (x := .tmp 17) (l0 := none) (h := (some (.tmp 21))) (lv := none) (hv := (some (.int .i64 (min ((hs.length : Nat) : Int) 20)))) 0 ((min ((hs.length : Nat) : Int) 20).toNat) QOk.ctxG (by kernel_rfl) (by kernel_rfl) (by kernel_rfl) (by kernel_rfl) (by kernel_rfl) (by kernel_rfl) (by kernel_rfl) (by kernel_rfl) (by kernel_rfl) (rfl) (⟨_, _, rfl, by omega, rfl⟩) hlo3 (Nat.le_trans hhi3 hyc) (by kernel_rfl) ?_
  obtain ⟨A3, hA3⟩ : ∃ A_, cutA B cb 0 1 = A_ := ⟨_, rfl⟩
  obtain ⟨ys3, hys3⟩ : ∃ l_, (hs.take ((min ((hs.length : Nat) : Int) 20).toNat)).drop 0 = l_ := ⟨_, rfl⟩
  have hr3 : rowAt (D.int .i64) G (cutA B cb 0 1) ((hs.take ((min ((hs.length : Nat) : Int) 20).toNat)).drop 0) := rowAt_cut hy hlo3 hhi3 hyc
  have hl3 : ((min ((hs.length : Nat) : Int) 20).toNat) - 0 = ys3.length := by rw [← hys3, List.length_drop, List.length_take]; omega
  have hc3 : ys3.length ≤ cb - 0 := by omega
  have hm3 : cb - 0 ≤ maxLen := Nat.le_trans (Nat.sub_le _ _) hym
  rw [hys3, show cutA B cb 0 _ = A3 from hA3] at hr3
  rw [hA3, hl3]
  refine XD.take (i := 14) (l' := (lb 18 32767)) (oA B9 [1, 0] 14) (.own 2 3) QOk.ctxG (by kernel_rfl) (by kernel_rfl) (by kernel_rfl) (by kernel_rfl) (by kernel_rfl) ?_
  refine XD.toE ?_
  refine XE.norm [1, 2, 4, 15, 22, 23] [2] ⟨75, [(1, .v (.int .i64 many)), (2, .own 2 0), (4, .v (.bool false)), (15, .v (.slice A2 ys2.length (ca - 0))), (22, .v (.slice A3 ys3.length (cb - 0))), (23, .own 2 3)], [(2, ⟨71, [.v (.int .i64 ms), .v (.int .i64 p), .v (.int .i64 st), .v (.slice A ws.length ca), .v (.slice B hs.length cb)]⟩)]⟩ (by kernel_rfl) ?_
  refine XE.one (i := 15) (l' := (lb 18 65535)) (oA B9 [1, 0] 15) (by kernel_rfl) (by kernel_rfl) ?_
  refine X.simple (by kernel_rfl) ?_
  refine X.back ?_
  refine XE.norm [1, 2, 4, 22] [2] ⟨75, [(1, .v (.int .i64 many)), (2, .own 2 0), (4, .v (.bool false)), (22, .v (.slice A3 ys3.length (cb - 0)))], [(2, ⟨71, [.v (.int .i64 ms), .v (.int .i64 p), .v (.int .i64 st), .v (.slice A2 ys2.length (ca - 0)), .v (.slice B hs.length cb)]⟩)]⟩ (by kernel_rfl) ?_
  refine XE.one (i := 16) (l' := (lb 18 131071)) (oA B9 [1, 0] 16) (by kernel_rfl) (by kernel_rfl) ?_
  refine X.simple (by kernel_rfl) ?_
  refine X.back ?_
  refine XE.norm [1, 2, 4, 22, 24] [2] ⟨75, [(1, .v (.int .i64 many)), (2, .own 2 0), (4, .v (.bool false)), (22, .v (.slice A3 ys3.length (cb - 0))), (24, .own 2 4)], [(2, ⟨71, [.v (.int .i64 ms), .v (.int .i64 p), .v (.int .i64 st), .v (.slice A2 ys2.length (ca - 0)), .v (.slice B hs.length cb)]⟩)]⟩ (by kernel_rfl) ?_
  refine XE.one (i := 17) (l' := (lb 18 262143)) (oA B9 [1, 0] 17) (by kernel_rfl) (by kernel_rfl) ?_
  refine X.simple (by kernel_rfl) ?_
  refine X.back ?_
  refine XE.done (by kernel_rfl) ?_
  refine X.run 8 [1, 2, 4, 26] [2] (.code (cA B9 [1, 1, 0, 1])) [.seq (cA B9 [1, 1, 1])] ⟨75, [(1, .v (.int .i64 many)), (2, .own 2 0), (4, .v (.bool false)), (26, .v (.bool (decide (many > 60))))], [(2, ⟨71, [.v (.int .i64 ms), .v (.int .i64 p), .v (.int .i64 st), .v (.slice A2 ys2.length (ca - 0)), .v (.slice A3 ys3.length (cb - 0))]⟩)]⟩ (by kernel_rfl) ?_
  refine X.split 26 rfl (fun h4 => ?_) (fun h4 => ?_)
  · -- slot 26: decide (many > 60) is True
    replace h4 : many > 60 := of_decide_eq_true h4
    refine X.run 9 [1, 2, 4, 28, 29] [2] (.ops (aA B9 [1, 1, 1, 0]) (oA B9 [1, 1, 1, 0] 2 :: lA B9 [1, 1, 1, 0] 3)) [.seq (cA B9 [1, 1, 1, 1])] ⟨75, [(1, .v (.int .i64 60)), (2, .own 2 0), (4, .v (.bool false)), (28, .v (.agg #[.int .i64 ms, .int .i64 p, .int .i64 st, .slice A2 ys2.length (ca - 0), .slice A3 ys3.length (cb - 0)])), (29, .v (.int .i64 60))], [(2, ⟨71, [.v (.int .i64 ms), .v (.int .i64 p), .v (.int .i64 st), .v (.slice A2 ys2.length (ca - 0)), .v (.slice A3 ys3.length (cb - 0))]⟩)]⟩ (by kernel_rfl) ?_
    refine X.callG (f := 33) (l := [.v (.agg #[.int .i64 ms, .int .i64 p, .int .i64 st, .slice A2 ys2.length (ca - 0), .slice A3 ys3.length (cb - 0)]), .v (.int .i64 60)]) [.agg #[.int .i64 ms, .int .i64 p, .int .i64 st, .slice A2 ys2.length (ca - 0), .slice A3 ys3.length (cb - 0)], .int .i64 60] 190 (by kernel_rfl) (by kernel_rfl) (by kernel_rfl) (Run_ok A2 A3 (ca - 0) (cb - 0) ms p st ys2 ys3 60 _ hr2 hr3 hc2 hc3 hm2 hm3) ?_
    rintro v5 G5 rows5 hG5 ⟨A5, c5, B5, d5, rfl, rfl⟩
    replace hx := hx.mono hG5.le
    replace hy := hy.mono hG5.le
    replace hr2 := hr2.mono hG5.le
    replace hr3 := hr3.mono hG5.le
    refine X.asR (R' := [(190, ⟨2, 1, .slice A5 ((max 0 (min (60 : Int) 2000)).toNat) c5, (max 0 (min (60 : Int) 2000)).toNat, (qL (ms, p, st, ys2, ys3) (max 0 (min (60 : Int) 2000)).toNat).map (Value.int .i64)⟩), (191, ⟨2, 1, .slice B5 ((max 0 (min (60 : Int) 2000)).toNat) d5, (max 0 (min (60 : Int) 2000)).toNat, (sL (ms, p, st, ys2, ys3) (max 0 (min (60 : Int) 2000)).toNat).map (Value.int .i64)⟩)]) rfl ?_
    refine X.tellR [190, 191] (R' := [(190, ⟨2, 1, .slice A5 ((max 0 (min (60 : Int) 2000)).toNat) c5, (max 0 (min (60 : Int) 2000)).toNat, (qL (ms, p, st, ys2, ys3) (max 0 (min (60 : Int) 2000)).toNat).map (Value.int .i64)⟩), (191, ⟨2, 1, .slice B5 ((max 0 (min (60 : Int) 2000)).toNat) d5, (max 0 (min (60 : Int) 2000)).toNat, (sL (ms, p, st, ys2, ys3) (max 0 (min (60 : Int) 2000)).toNat).map (Value.int .i64)⟩)]) rfl ?_
    refine X.capLe (i := 190) (q := ⟨2, 1, .slice A5 ((max 0 (min (60 : Int) 2000)).toNat) c5, (max 0 (min (60 : Int) 2000)).toNat, (qL (ms, p, st, ys2, ys3) (max 0 (min (60 : Int) 2000)).toNat).map (Value.int .i64)⟩) (n := (max 0 (min (60 : Int) 2000)).toNat) (c := c5) (A := A5) rfl rfl ?_
    intro hle6 hmx6
    refine X.freezeHd (i := 190) (n := (max 0 (min (60 : Int) 2000)).toNat) (c := c5) (A := A5) (kd := .i64) (qL (ms, p, st, ys2, ys3) (max 0 (min (60 : Int) 2000)).toNat) rfl rfl (qL_range) (by kernel_rfl) (fun _ h => h) ?_
    intro G6 hG6 hr6
    replace hx := hx.mono hG6.le
    replace hy := hy.mono hG6.le
    replace hr2 := hr2.mono hG6.le
    replace hr3 := hr3.mono hG6.le
    have hlq_ : (qL (ms, p, st, ys2, ys3) (max 0 (min (60 : Int) 2000)).toNat).length = (max 0 (min (60 : Int) 2000)).toNat := qL_len _ _
    refine X.tellR [191] (R' := [(191, ⟨2, 1, .slice B5 ((max 0 (min (60 : Int) 2000)).toNat) d5, (max 0 (min (60 : Int) 2000)).toNat, (sL (ms, p, st, ys2, ys3) (max 0 (min (60 : Int) 2000)).toNat).map (Value.int .i64)⟩)]) rfl ?_
    refine X.capLe (i := 191) (q := ⟨2, 1, .slice B5 ((max 0 (min (60 : Int) 2000)).toNat) d5, (max 0 (min (60 : Int) 2000)).toNat, (sL (ms, p, st, ys2, ys3) (max 0 (min (60 : Int) 2000)).toNat).map (Value.int .i64)⟩) (n := (max 0 (min (60 : Int) 2000)).toNat) (c := d5) (A := B5) rfl rfl ?_
    intro hle7 hmx7
    refine X.freezeHd (i := 191) (n := (max 0 (min (60 : Int) 2000)).toNat) (c := d5) (A := B5) (kd := .i64) (sL (ms, p, st, ys2, ys3) (max 0 (min (60 : Int) 2000)).toNat) rfl rfl (sL_range) (by kernel_rfl) (fun _ h => h) ?_
    intro G7 hG7 hr7
    replace hx := hx.mono hG7.le
    replace hy := hy.mono hG7.le
    replace hr2 := hr2.mono hG7.le
    replace hr3 := hr3.mono hG7.le
    replace hr6 := hr6.mono hG7.le
    have hls_ : (sL (ms, p, st, ys2, ys3) (max 0 (min (60 : Int) 2000)).toNat).length = (max 0 (min (60 : Int) 2000)).toNat := sL_len _ _
    refine X.run 16 [2, 4, 5, 6, 38] [2] (.ops (aA B9 [1, 1, 1, 1, 0, 0]) (oA B9 [1, 1, 1, 1, 0, 0] 6 :: lA B9 [1, 1, 1, 1, 0, 0] 7)) [.seq (cA B9 [1, 1, 1, 1, 0, 1]), .seq (cA B9 [1, 1, 1, 1, 1])] ⟨75, [(2, .own 2 0), (4, .v (.bool false)), (5, .v (.slice A5 ((max 0 (min (60 : Int) 2000)).toNat) c5)), (6, .v (.slice B5 ((max 0 (min (60 : Int) 2000)).toNat) d5)), (38, .v (.bool ((((max 0 (min (60 : Int) 2000)).toNat : Nat) : Int) != 60)))], [(2, ⟨71, [.v (.int .i64 ms), .v (.int .i64 p), .v (.int .i64 st), .v (.slice A2 ys2.length (ca - 0)), .v (.slice A3 ys3.length (cb - 0))]⟩)]⟩ (by kernel_rfl) ?_
    refine X.isFalse 38 rfl (by simp; omega) ?_
    refine X.run 8 [2, 4, 5, 6, 44] [2] (.code (cA B9 [1, 1, 1, 1, 0, 1])) [.seq (cA B9 [1, 1, 1, 1, 1])] ⟨75, [(2, .own 2 0), (4, .v (.bool false)), (5, .v (.slice A5 ((max 0 (min (60 : Int) 2000)).toNat) c5)), (6, .v (.slice B5 ((max 0 (min (60 : Int) 2000)).toNat) d5)), (44, .v (.bool ((((max 0 (min (60 : Int) 2000)).toNat : Nat) : Int) != (((max 0 (min (60 : Int) 2000)).toNat : Nat) : Int))))], [(2, ⟨71, [.v (.int .i64 ms), .v (.int .i64 p), .v (.int .i64 st), .v (.slice A2 ys2.length (ca - 0)), .v (.slice A3 ys3.length (cb - 0))]⟩)]⟩ (by kernel_rfl) ?_
    refine X.isFalse 44 rfl (by simp) ?_
    refine X.run 6 [4, 5, 6, 45] [] (.ops (aA B9 [1, 1, 1, 1, 1, 0]) (oA B9 [1, 1, 1, 1, 1, 0] 1 :: lA B9 [1, 1, 1, 1, 1, 0] 2)) [.seq (cA B9 [1, 1, 1, 1, 1, 1])] ⟨75, [(4, .v (.bool false)), (5, .v (.slice A5 ((max 0 (min (60 : Int) 2000)).toNat) c5)), (6, .v (.slice B5 ((max 0 (min (60 : Int) 2000)).toNat) d5)), (45, .v (.agg #[.int .i64 ms, .int .i64 p, .int .i64 st, .slice A2 ys2.length (ca - 0), .slice A3 ys3.length (cb - 0)]))], []⟩ (by kernel_rfl) ?_
    have hm_ := cM_range ms
    have hcn_ := cN_range ys2
    have hp_ := cP_range ms p (cN_range ys2).2
    have hcs_ : 0 ≤ cS st ∧ cS st ≤ 1073741824 := by unfold cS; omega
    have hmn_ := mn_range ms hcn_.1 hcn_.2
    have hb_ := cW_range (ms := ms) (ws := ys2) (n := cN ys2)
    have hh_ := cH_range (hs := ys3) (n := cN ys2)
    have h256_ := (cN_range ys2).2
    refine X.callG (f := 34) (l := [.v (.agg #[.int .i64 ms, .int .i64 p, .int .i64 st, .slice A2 ys2.length (ca - 0), .slice A3 ys3.length (cb - 0)])]) [.agg #[.int .i64 ms, .int .i64 p, .int .i64 st, .slice A2 ys2.length (ca - 0), .slice A3 ys3.length (cb - 0)]] 183 (by kernel_rfl) (by kernel_rfl) (by kernel_rfl) (RClean_ok A2 A3 (ca - 0) (cb - 0) ms p st ys2 ys3 _ hr2 hr3 hc2 hc3 hm2 hm3) ?_
    rintro v8 G8 rows8 hG8 ⟨A8, c8, B8, d8, rfl, rfl⟩
    replace hx := hx.mono hG8.le
    replace hy := hy.mono hG8.le
    replace hr2 := hr2.mono hG8.le
    replace hr3 := hr3.mono hG8.le
    replace hr6 := hr6.mono hG8.le
    replace hr7 := hr7.mono hG8.le
    refine X.asR (R' := [(183, ⟨2, 1, .slice A8 (cN ys2) c8, cN ys2, (cW ms ys2 (cN ys2)).map (Value.int .i64)⟩), (184, ⟨2, 1, .slice B8 (cN ys2) d8, cN ys2, (cH ys3 (cN ys2)).map (Value.int .i64)⟩)]) rfl ?_
    refine X.tellR [183, 184] (R' := [(183, ⟨2, 1, .slice A8 (cN ys2) c8, cN ys2, (cW ms ys2 (cN ys2)).map (Value.int .i64)⟩), (184, ⟨2, 1, .slice B8 (cN ys2) d8, cN ys2, (cH ys3 (cN ys2)).map (Value.int .i64)⟩)]) rfl ?_
    refine X.capLe (i := 183) (q := ⟨2, 1, .slice A8 (cN ys2) c8, cN ys2, (cW ms ys2 (cN ys2)).map (Value.int .i64)⟩) (n := cN ys2) (c := c8) (A := A8) rfl rfl ?_
    intro hle9 hmx9
    refine X.freezeHd (i := 183) (n := cN ys2) (c := c8) (A := A8) (kd := .i64) (cW ms ys2 (cN ys2)) rfl rfl (fun x_ hx_ => by have h_ := cW_range x_ hx_; have h2_ := cM_range ms; simp only [IntKind.lo, IntKind.hi]; omega) (by kernel_rfl) (fun _ h => h) ?_
    intro G9 hG9 hr9
    replace hx := hx.mono hG9.le
    replace hy := hy.mono hG9.le
    replace hr2 := hr2.mono hG9.le
    replace hr3 := hr3.mono hG9.le
    replace hr6 := hr6.mono hG9.le
    replace hr7 := hr7.mono hG9.le
    refine X.tellR [184] (R' := [(184, ⟨2, 1, .slice B8 (cN ys2) d8, cN ys2, (cH ys3 (cN ys2)).map (Value.int .i64)⟩)]) rfl ?_
    refine X.capLe (i := 184) (q := ⟨2, 1, .slice B8 (cN ys2) d8, cN ys2, (cH ys3 (cN ys2)).map (Value.int .i64)⟩) (n := cN ys2) (c := d8) (A := B8) rfl rfl ?_
    intro hle10 hmx10
    refine X.freezeHd (i := 184) (n := cN ys2) (c := d8) (A := B8) (kd := .i64) (cH ys3 (cN ys2)) rfl rfl (fun x_ hx_ => by have h_ := cH_range x_ hx_; simp only [IntKind.lo, IntKind.hi]; omega) (by kernel_rfl) (fun _ h => h) ?_
    intro G10 hG10 hr10
    replace hx := hx.mono hG10.le
    replace hy := hy.mono hG10.le
    replace hr2 := hr2.mono hG10.le
    replace hr3 := hr3.mono hG10.le
    replace hr6 := hr6.mono hG10.le
    replace hr7 := hr7.mono hG10.le
    replace hr9 := hr9.mono hG10.le
    refine X.run 13 [4, 5, 6, 7, 48, 49] [7] (.code (cA B9 [1, 1, 1, 1, 1, 1, 0, 1, 0])) [.blk 0, .seq (cA B9 [1, 1, 1, 1, 1, 1, 1])] ⟨75, [(4, .v (.bool false)), (5, .v (.slice A5 ((max 0 (min (60 : Int) 2000)).toNat) c5)), (6, .v (.slice B5 ((max 0 (min (60 : Int) 2000)).toNat) d5)), (7, .own 7 0), (48, .v (.int .i64 (((max 0 (min (60 : Int) 2000)).toNat : Nat) : Int))), (49, .v (.int .i64 0))], [(7, ⟨71, [.v (.int .i64 (cM ms)), .v (.int .i64 (cP ms p (cN ys2))), .v (.int .i64 (cS st)), .v (.slice A8 (cN ys2) c8), .v (.slice B8 (cN ys2) d8)]⟩)]⟩ (by kernel_rfl) ?_
    refine X.run 0 [5, 6, 7, 48, 49] [7] (.code (cA B9 [1, 1, 1, 1, 1, 1, 0, 1, 0])) [.blk 0, .seq (cA B9 [1, 1, 1, 1, 1, 1, 1])] ⟨75, [(5, .v (.slice A5 ((max 0 (min (60 : Int) 2000)).toNat) c5)), (6, .v (.slice B5 ((max 0 (min (60 : Int) 2000)).toNat) d5)), (7, .own 7 0), (48, .v (.int .i64 (((max 0 (min (60 : Int) 2000)).toNat : Nat) : Int))), (49, .v (.int .i64 0))], [(7, ⟨71, [.v (.int .i64 (cM ms)), .v (.int .i64 (cP ms p (cN ys2))), .v (.int .i64 (cS st)), .v (.slice A8 (cN ys2) c8), .v (.slice B8 (cN ys2) d8)]⟩)]⟩ (by kernel_rfl) ?_
    refine X.loopJ (fun m s R' G' => ∃ (i m_ p_ t_ : Int) (A_ B_ : Option Addr) (ca_ cb_ n1_ : Nat) (W_ H_ : List Int), s = ⟨75, [(5, .v (.slice A5 ((max 0 (min (60 : Int) 2000)).toNat) c5)), (6, .v (.slice B5 ((max 0 (min (60 : Int) 2000)).toNat) d5)), (7, .own 7 0), (48, .v (.int .i64 (((max 0 (min (60 : Int) 2000)).toNat : Nat) : Int))), (49, .v (.int .i64 i))], [(7, ⟨71, [.v (.int .i64 m_), .v (.int .i64 p_), .v (.int .i64 t_), .v (.slice A_ n1_ ca_), .v (.slice B_ n1_ cb_)]⟩)]⟩ ∧ R' = [] ∧ Ge G10 w.heap.size G' ∧ (0 ≤ i ∧ i ≤ (((max 0 (min (60 : Int) 2000)).toNat : Nat) : Int) ∧ (m_, p_, t_, W_, H_) = clR (itR i.toNat (ms, p, st, ys2, ys3)) ∧ W_.length = n1_ ∧ H_.length = n1_ ∧ n1_ ≤ ca_ ∧ ca_ ≤ maxLen ∧ n1_ ≤ cb_ ∧ cb_ ≤ maxLen ∧ rowAt (D.int .i64) G' A_ W_ ∧ rowAt (D.int .i64) G' B_ H_) ∧ m = ((((max 0 (min (60 : Int) 2000)).toNat : Nat) : Int) - i).toNat) _ ⟨0, cM ms, cP ms p (cN ys2), cS st, A8, B8, c8, d8, cN ys2, cW ms ys2 (cN ys2), cH ys3 (cN ys2), rfl, rfl, Ge.refl _ _, ⟨by omega, by omega, rfl, (cW_len _ _ _), (cH_len _ _), hle9, hmx9, hle10, hmx10, hr9, hr10⟩, rfl⟩ ?_
    rintro m11 s11 R11 G11 ⟨i, m_, p_, t_, A_, B_, ca_, cb_, n1_, W_, H_, rfl, rfl, hG11, hF11, rfl⟩ J11 hJ11
    replace hx := hx.mono hG11.le
    replace hy := hy.mono hG11.le
    replace hr2 := hr2.mono hG11.le
    replace hr3 := hr3.mono hG11.le
    replace hr6 := hr6.mono hG11.le
    replace hr7 := hr7.mono hG11.le
    replace hr9 := hr9.mono hG11.le
    replace hr10 := hr10.mono hG11.le
    obtain ⟨hi0, hi1, hst, hn1, hn2, hca_, hma_, hcb_, hmb_, hxa_, hyb_⟩ := hF11
    subst hn1
    have hok_ := clR_ok (itR i.toNat (ms, p, st, ys2, ys3))
    rw [← hst] at hok_
    obtain ⟨hm_, hp_, hb_, hh_, h256_, _, _, _⟩ := hok_
    dsimp only at hm_ hp_ hb_ hh_ h256_
    simp only [maxLen] at hma_ hmb_
    refine X.run 6 [5, 6, 7, 48, 49, 50] [7] (.code (cA B9 [1, 1, 1, 1, 1, 1, 0, 1, 0, 0, 1, 0])) [.seq (cA B9 [1, 1, 1, 1, 1, 1, 0, 1, 0, 0, 1, 1]), .loop J11, .blk 0, .seq (cA B9 [1, 1, 1, 1, 1, 1, 1])] ⟨75, [(5, .v (.slice A5 ((max 0 (min (60 : Int) 2000)).toNat) c5)), (6, .v (.slice B5 ((max 0 (min (60 : Int) 2000)).toNat) d5)), (7, .own 7 0), (48, .v (.int .i64 (((max 0 (min (60 : Int) 2000)).toNat : Nat) : Int))), (49, .v (.int .i64 i)), (50, .v (.bool (decide (i < (((max 0 (min (60 : Int) 2000)).toNat : Nat) : Int)))))], [(7, ⟨71, [.v (.int .i64 m_), .v (.int .i64 p_), .v (.int .i64 t_), .v (.slice A_ W_.length ca_), .v (.slice B_ W_.length cb_)]⟩)]⟩ (by kernel_rfl) ?_
    refine X.split 50 rfl (fun h12 => ?_) (fun h12 => ?_)
    · -- slot 50: decide (i < (((max 0 (min (60 : Int) 2000)).toNat : Nat) : Int)) is True
      replace h12 : i < (((max 0 (min (60 : Int) 2000)).toNat : Nat) : Int) := of_decide_eq_true h12
      refine X.run 13 [5, 6, 7, 8, 48, 49] [7] (.code (cA B9 [1, 1, 1, 1, 1, 1, 0, 1, 0, 0, 1, 1, 0, 0, 1, 0, 0])) [.seq (cA B9 [1, 1, 1, 1, 1, 1, 0, 1, 0, 0, 1, 1, 0, 0, 1, 0, 1]), .seq (cA B9 [1, 1, 1, 1, 1, 1, 0, 1, 0, 0, 1, 1, 0, 0, 1, 1]), .blk 1, .seq (cA B9 [1, 1, 1, 1, 1, 1, 0, 1, 0, 0, 1, 1, 1]), .loop J11, .blk 0, .seq (cA B9 [1, 1, 1, 1, 1, 1, 1])] ⟨75, [(5, .v (.slice A5 ((max 0 (min (60 : Int) 2000)).toNat) c5)), (6, .v (.slice B5 ((max 0 (min (60 : Int) 2000)).toNat) d5)), (7, .own 7 0), (8, .v (.int .i64 i)), (48, .v (.int .i64 (((max 0 (min (60 : Int) 2000)).toNat : Nat) : Int))), (49, .v (.int .i64 i))], [(7, ⟨71, [.v (.int .i64 m_), .v (.int .i64 p_), .v (.int .i64 t_), .v (.slice A_ W_.length ca_), .v (.slice B_ W_.length cb_)]⟩)]⟩ (by kernel_rfl) ?_
      have hx_d13 := hx
      have hy_d13 := hy
      have hr2_d13 := hr2
      have hr3_d13 := hr3
      have hr6_d13 := hr6
      have hr7_d13 := hr7
      have hr9_d13 := hr9
      have hr10_d13 := hr10
      have hxa__d13 := hxa_
      have hyb__d13 := hyb_
      refine XD.open (id := 11) (arr := aA B9 [1, 1, 1, 1, 1, 1, 0, 1, 0, 0, 1, 1, 0, 0, 1, 0, 0]) 19 [⟨some 7, 7, 71, [.v (.int .i64 m_), .v (.int .i64 p_), .v (.int .i64 t_), .v (.slice A_ W_.length ca_), .v (.slice B_ W_.length cb_)]⟩] [] [] (by kernel_rfl) (by kernel_rfl) (by kernel_rfl) (by kernel_rfl) (by kernel_rfl) ⟨⟨fun _ h => (by cases h; rfl), rfl⟩, trivial⟩ (by intro p hp hn; simp only [List.mem_cons, List.not_mem_nil, or_false] at hp; rcases hp with rfl <;> first | (cases hn; done) | exact absurd _ (Nat.le_of_ble_eq_true rfl)) rfl (fun ρ0 => ?_)
      refine XD.take (i := 0) (l' := (lb 19 1)) (oA B9 [1, 1, 1, 1, 1, 1, 0, 1, 0, 0, 1, 1, 0, 0, 1, 0, 0] 0) (.v (.slice A5 ((max 0 (min (60 : Int) 2000)).toNat) c5)) QOk.ctxG (by kernel_rfl) (by kernel_rfl) (by kernel_rfl) (by kernel_rfl) (by kernel_rfl) ?_
      refine XD.take (i := 1) (l' := (lb 19 3)) (oA B9 [1, 1, 1, 1, 1, 1, 0, 1, 0, 0, 1, 1, 0, 0, 1, 0, 0] 1) (.v (.int .i64 i)) QOk.ctxG (by kernel_rfl) (by kernel_rfl) (by kernel_rfl) (by kernel_rfl) (by kernel_rfl) ?_
      have b14 : (0 : Int) ≤ i := by omega
      have b15 : i < (((max 0 (min (60 : Int) 2000)).toNat : Nat) : Int) := by omega
      obtain ⟨at16, lo16, hi16⟩ := At.int [] hr6_d13 ((i).toNat) (by omega)
      simp only [IntKind.lo, IntKind.hi] at lo16 hi16
      refine XD.index (i := 2) (l' := (lb 19 7)) (o := (oA B9 [1, 1, 1, 1, 1, 1, 0, 1, 0, 0, 1, 1, 0, 0, 1, 0, 0] 2)) (t := 22) (e := 2) (sz := 1) (A := A5) (n := (max 0 (min (60 : Int) 2000)).toNat) (c := c5) (ki := .i64) (j := i) (x := .tmp 52) (ix := .tmp 53) QOk.ctxG (by kernel_rfl) (by kernel_rfl) (by kernel_rfl) (by kernel_rfl) (by kernel_rfl) (by kernel_rfl) (by kernel_rfl) (by kernel_rfl) b14 b15 (fun _ _ => rowAt.so hr6_d13 (by omega)) (by kernel_rfl) ?_
      refine XD.load (i := 3) (l' := (lb 19 15)) (o := (oA B9 [1, 1, 1, 1, 1, 1, 0, 1, 0, 0, 1, 1, 0, 0, 1, 0, 0] 3)) (t := 2) (A := A5) (j := (i).toNat * 1) (x := .tmp 54) (z := .int .i64 ((qL (ms, p, st, ys2, ys3) (max 0 (min (60 : Int) 2000)).toNat).getD ((i).toNat) 0)) [.int .i64 ((qL (ms, p, st, ys2, ys3) (max 0 (min (60 : Int) 2000)).toNat).getD ((i).toNat) 0)] QOk.ctxG (by kernel_rfl) (by kernel_rfl) (by kernel_rfl) (by kernel_rfl) (by kernel_rfl) at16 (by kernel_rfl) (by kernel_rfl) ?_
      refine XD.take (i := 4) (l' := (lb 19 31)) (oA B9 [1, 1, 1, 1, 1, 1, 0, 1, 0, 0, 1, 1, 0, 0, 1, 0, 0] 4) (.v (.agg #[.int .i64 m_, .int .i64 p_, .int .i64 t_, .slice A_ W_.length ca_, .slice B_ W_.length cb_])) QOk.ctxG (by kernel_rfl) (by kernel_rfl) (by kernel_rfl) (by kernel_rfl) (by kernel_rfl) ?_
      refine XD.norm [5, 6, 7, 8, 48, 49, 55, 56] [7] ⟨75, [(5, .v (.slice A5 ((max 0 (min (60 : Int) 2000)).toNat) c5)), (6, .v (.slice B5 ((max 0 (min (60 : Int) 2000)).toNat) d5)), (7, .own 7 0), (8, .v (.int .i64 i)), (48, .v (.int .i64 (((max 0 (min (60 : Int) 2000)).toNat : Nat) : Int))), (49, .v (.int .i64 i)), (55, .v (.int .i64 ((qL (ms, p, st, ys2, ys3) (max 0 (min (60 : Int) 2000)).toNat).getD ((i).toNat) 0))), (56, .v (.agg #[.int .i64 m_, .int .i64 p_, .int .i64 t_, .slice A_ W_.length ca_, .slice B_ W_.length cb_]))], [(7, ⟨71, [.v (.int .i64 m_), .v (.int .i64 p_), .v (.int .i64 t_), .v (.slice A_ W_.length ca_), .v (.slice B_ W_.length cb_)]⟩)]⟩ (by kernel_rfl) ⟨⟨fun _ h => (by cases h; rfl), rfl⟩, trivial⟩ ?_
      refine XD.one (i := 5) (l' := (lb 19 63)) (oA B9 [1, 1, 1, 1, 1, 1, 0, 1, 0, 0, 1, 1, 0, 0, 1, 0, 0] 5) (by kernel_rfl) (by kernel_rfl) (by kernel_rfl) ?_
      refine X.callG (f := 35) (l := [.v (.agg #[.int .i64 m_, .int .i64 p_, .int .i64 t_, .slice A_ W_.length ca_, .slice B_ W_.length cb_])]) [.agg #[.int .i64 m_, .int .i64 p_, .int .i64 t_, .slice A_ W_.length ca_, .slice B_ W_.length cb_]] 0 (by kernel_rfl) (by kernel_rfl) (by kernel_rfl) (RQueue_ok A_ B_ ca_ cb_ W_.length m_ p_ t_ W_ H_ _ hxa_ hyb_ rfl hn2 hca_ hcb_ hma_ hmb_ (fun x_ hx_ => by have h_ := hb_ x_ hx_; omega) h256_ hp_) ?_
      rintro v17 G17 rows17 hG17 ⟨rfl, rfl⟩
      replace hx := hx.mono hG17.le
      replace hy := hy.mono hG17.le
      replace hr2 := hr2.mono hG17.le
      replace hr3 := hr3.mono hG17.le
      replace hr6 := hr6.mono hG17.le
      replace hr7 := hr7.mono hG17.le
      replace hr9 := hr9.mono hG17.le
      replace hr10 := hr10.mono hG17.le
      replace hxa_ := hxa_.mono hG17.le
      replace hyb_ := hyb_.mono hG17.le
      refine X.back ⟨⟨⟨fun _ h => (by cases h; rfl), rfl⟩, trivial⟩, hG17.le, rfl, ?_⟩
      refine XD.take (i := 6) (l' := (lb 19 127)) (oA B9 [1, 1, 1, 1, 1, 1, 0, 1, 0, 0, 1, 1, 0, 0, 1, 0, 0] 6) (.v (.bool (((qL (ms, p, st, ys2, ys3) (max 0 (min (60 : Int) 2000)).toNat).getD ((i).toNat) 0) != (quI p_ W_)))) QOk.ctxG (by kernel_rfl) (by kernel_rfl) (by kernel_rfl) (by kernel_rfl) (by kernel_rfl) ?_
      refine XD.take (i := 7) (l' := (lb 19 255)) (oA B9 [1, 1, 1, 1, 1, 1, 0, 1, 0, 0, 1, 1, 0, 0, 1, 0, 0] 7) (.v (.bool (((qL (ms, p, st, ys2, ys3) (max 0 (min (60 : Int) 2000)).toNat).getD ((i).toNat) 0) != (quI p_ W_)))) QOk.ctxG (by kernel_rfl) (by kernel_rfl) (by kernel_rfl) (by kernel_rfl) (by kernel_rfl) ?_
      refine XD.isFalse 59 rfl (by rw [qL_at (by omega), qR_of hst]; simp) ?_
      refine XD.take (i := 8) (l' := (lb 19 511)) (oA B9 [1, 1, 1, 1, 1, 1, 0, 1, 0, 0, 1, 1, 0, 0, 1, 0, 0] 8) (.v (.slice B5 ((max 0 (min (60 : Int) 2000)).toNat) d5)) QOk.ctxG (by kernel_rfl) (by kernel_rfl) (by kernel_rfl) (by kernel_rfl) (by kernel_rfl) ?_
      refine XD.take (i := 9) (l' := (lb 19 1023)) (oA B9 [1, 1, 1, 1, 1, 1, 0, 1, 0, 0, 1, 1, 0, 0, 1, 0, 0] 9) (.v (.int .i64 i)) QOk.ctxG (by kernel_rfl) (by kernel_rfl) (by kernel_rfl) (by kernel_rfl) (by kernel_rfl) ?_
      have b18 : (0 : Int) ≤ i := by omega
      have b19 : i < (((max 0 (min (60 : Int) 2000)).toNat : Nat) : Int) := by omega
      obtain ⟨at20, lo20, hi20⟩ := At.int [] hr7_d13 ((i).toNat) (by omega)
      simp only [IntKind.lo, IntKind.hi] at lo20 hi20
      refine XD.index (i := 10) (l' := (lb 19 2047)) (o := (oA B9 [1, 1, 1, 1, 1, 1, 0, 1, 0, 0, 1, 1, 0, 0, 1, 0, 0] 10)) (t := 22) (e := 2) (sz := 1) (A := B5) (n := (max 0 (min (60 : Int) 2000)).toNat) (c := d5) (ki := .i64) (j := i) (x := .tmp 60) (ix := .tmp 61) QOk.ctxG (by kernel_rfl) (by kernel_rfl) (by kernel_rfl) (by kernel_rfl) (by kernel_rfl) (by kernel_rfl) (by kernel_rfl) (by kernel_rfl) b18 b19 (fun _ _ => rowAt.so hr7_d13 (by omega)) (by kernel_rfl) ?_
      refine XD.load (i := 11) (l' := (lb 19 4095)) (o := (oA B9 [1, 1, 1, 1, 1, 1, 0, 1, 0, 0, 1, 1, 0, 0, 1, 0, 0] 11)) (t := 2) (A := B5) (j := (i).toNat * 1) (x := .tmp 62) (z := .int .i64 ((sL (ms, p, st, ys2, ys3) (max 0 (min (60 : Int) 2000)).toNat).getD ((i).toNat) 0)) [.int .i64 ((sL (ms, p, st, ys2, ys3) (max 0 (min (60 : Int) 2000)).toNat).getD ((i).toNat) 0)] QOk.ctxG (by kernel_rfl) (by kernel_rfl) (by kernel_rfl) (by kernel_rfl) (by kernel_rfl) at20 (by kernel_rfl) (by kernel_rfl) ?_
      refine XD.take (i := 12) (l' := (lb 19 8191)) (oA B9 [1, 1, 1, 1, 1, 1, 0, 1, 0, 0, 1, 1, 0, 0, 1, 0, 0] 12) (.v (.agg #[.int .i64 m_, .int .i64 p_, .int .i64 t_, .slice A_ W_.length ca_, .slice B_ W_.length cb_])) QOk.ctxG (by kernel_rfl) (by kernel_rfl) (by kernel_rfl) (by kernel_rfl) (by kernel_rfl) ?_
      refine XD.take (i := 14) (l' := (lb 19 24575)) (oA B9 [1, 1, 1, 1, 1, 1, 0, 1, 0, 0, 1, 1, 0, 0, 1, 0, 0] 14) (.own 7 1) QOk.ctxG (by kernel_rfl) (by kernel_rfl) (by kernel_rfl) (by kernel_rfl) (by kernel_rfl) ?_
      refine XD.take (i := 15) (l' := (lb 19 57343)) (oA B9 [1, 1, 1, 1, 1, 1, 0, 1, 0, 0, 1, 1, 0, 0, 1, 0, 0] 15) (.v (.int .i64 p_)) QOk.ctxG (by kernel_rfl) (by kernel_rfl) (by kernel_rfl) (by kernel_rfl) (by kernel_rfl) ?_
      refine XD.norm [5, 6, 7, 48, 49, 59, 63, 64, 67] [7] ⟨75, [(5, .v (.slice A5 ((max 0 (min (60 : Int) 2000)).toNat) c5)), (6, .v (.slice B5 ((max 0 (min (60 : Int) 2000)).toNat) d5)), (7, .own 7 0), (48, .v (.int .i64 (((max 0 (min (60 : Int) 2000)).toNat : Nat) : Int))), (49, .v (.int .i64 i)), (59, .v (.bool false)), (63, .v (.int .i64 ((sL (ms, p, st, ys2, ys3) (max 0 (min (60 : Int) 2000)).toNat).getD ((i).toNat) 0))), (64, .v (.agg #[.int .i64 m_, .int .i64 p_, .int .i64 t_, .slice A_ W_.length ca_, .slice B_ W_.length cb_])), (67, .v (.int .i64 p_))], [(7, ⟨71, [.v (.int .i64 m_), .v (.int .i64 p_), .v (.int .i64 t_), .v (.slice A_ W_.length ca_), .v (.slice B_ W_.length cb_)]⟩)]⟩ (by kernel_rfl) ⟨⟨fun _ h => (by cases h; rfl), rfl⟩, trivial⟩ ?_
      refine XD.one (i := 13) (l' := (lb 19 65535)) (oA B9 [1, 1, 1, 1, 1, 1, 0, 1, 0, 0, 1, 1, 0, 0, 1, 0, 0] 13) (by kernel_rfl) (by kernel_rfl) (by kernel_rfl) ?_
      refine X.callG (f := 36) (l := [.v (.agg #[.int .i64 m_, .int .i64 p_, .int .i64 t_, .slice A_ W_.length ca_, .slice B_ W_.length cb_])]) [.agg #[.int .i64 m_, .int .i64 p_, .int .i64 t_, .slice A_ W_.length ca_, .slice B_ W_.length cb_]] 0 (by kernel_rfl) (by kernel_rfl) (by kernel_rfl) (RSum_ok A_ B_ ca_ cb_ W_.length m_ p_ t_ W_ H_ _ hxa_ hyb_ rfl hn2 hca_ hcb_ hma_ hmb_ (fun x_ hx_ => by have h_ := hb_ x_ hx_; omega) h256_) ?_
      rintro v21 G21 rows21 hG21 ⟨rfl, rfl⟩
      replace hx := hx.mono hG21.le
      replace hy := hy.mono hG21.le
      replace hr2 := hr2.mono hG21.le
      replace hr3 := hr3.mono hG21.le
      replace hr6 := hr6.mono hG21.le
      replace hr7 := hr7.mono hG21.le
      replace hr9 := hr9.mono hG21.le
      replace hr10 := hr10.mono hG21.le
      replace hxa_ := hxa_.mono hG21.le
      replace hyb_ := hyb_.mono hG21.le
      refine X.back ⟨⟨⟨fun _ h => (by cases h; rfl), rfl⟩, trivial⟩, (hG17.trans hG21).le, rfl, ?_⟩
      refine XD.take (i := 16) (l' := (lb 19 131071)) (oA B9 [1, 1, 1, 1, 1, 1, 0, 1, 0, 0, 1, 1, 0, 0, 1, 0, 0] 16) (.v (.int .i64 (imin (sumI W_) p_))) QOk.ctxG (by kernel_rfl) (by kernel_rfl) (by kernel_rfl) (by kernel_rfl) (by kernel_rfl) ?_
      refine XD.known 68 (y := .v (.int .i64 (min (sumI W_) p_))) rfl (congrArg (fun z_ => AV.v (.int .i64 z_)) (by simp only [imin_eq, imax_eq])) ?_
      refine XD.take (i := 17) (l' := (lb 19 262143)) (oA B9 [1, 1, 1, 1, 1, 1, 0, 1, 0, 0, 1, 1, 0, 0, 1, 0, 0] 17) (.v (.bool (((sL (ms, p, st, ys2, ys3) (max 0 (min (60 : Int) 2000)).toNat).getD ((i).toNat) 0) != (min (sumI W_) p_)))) QOk.ctxG (by kernel_rfl) (by kernel_rfl) (by kernel_rfl) (by kernel_rfl) (by kernel_rfl) ?_
      refine XD.take (i := 18) (l' := (lb 19 524287)) (oA B9 [1, 1, 1, 1, 1, 1, 0, 1, 0, 0, 1, 1, 0, 0, 1, 0, 0] 18) (.v (.bool (((sL (ms, p, st, ys2, ys3) (max 0 (min (60 : Int) 2000)).toNat).getD ((i).toNat) 0) != (min (sumI W_) p_)))) QOk.ctxG (by kernel_rfl) (by kernel_rfl) (by kernel_rfl) (by kernel_rfl) (by kernel_rfl) ?_
      refine XD.done (by kernel_rfl) ?_
      refine X.run 1 [5, 6, 7, 48, 49, 70] [7] (.code (cA B9 [1, 1, 1, 1, 1, 1, 0, 1, 0, 0, 1, 1, 0, 0, 1, 0, 1])) [.seq (cA B9 [1, 1, 1, 1, 1, 1, 0, 1, 0, 0, 1, 1, 0, 0, 1, 1]), .blk 1, .seq (cA B9 [1, 1, 1, 1, 1, 1, 0, 1, 0, 0, 1, 1, 1]), .loop J11, .blk 0, .seq (cA B9 [1, 1, 1, 1, 1, 1, 1])] ⟨75, [(5, .v (.slice A5 ((max 0 (min (60 : Int) 2000)).toNat) c5)), (6, .v (.slice B5 ((max 0 (min (60 : Int) 2000)).toNat) d5)), (7, .own 7 0), (48, .v (.int .i64 (((max 0 (min (60 : Int) 2000)).toNat : Nat) : Int))), (49, .v (.int .i64 i)), (70, .v (.bool (((sL (ms, p, st, ys2, ys3) (max 0 (min (60 : Int) 2000)).toNat).getD ((i).toNat) 0) != (min (sumI W_) p_))))], [(7, ⟨71, [.v (.int .i64 m_), .v (.int .i64 p_), .v (.int .i64 t_), .v (.slice A_ W_.length ca_), .v (.slice B_ W_.length cb_)]⟩)]⟩ (by kernel_rfl) ?_
      refine X.isFalse 70 rfl (by rw [sL_at (by omega), sR_of hst]; simp) ?_
      refine X.run 5 [5, 6, 7, 48, 49, 71] [7] (.ops (aA B9 [1, 1, 1, 1, 1, 1, 0, 1, 0, 0, 1, 1, 0, 0, 1, 1]) (oA B9 [1, 1, 1, 1, 1, 1, 0, 1, 0, 0, 1, 1, 0, 0, 1, 1] 1 :: lA B9 [1, 1, 1, 1, 1, 1, 0, 1, 0, 0, 1, 1, 0, 0, 1, 1] 2)) [.blk 1, .seq (cA B9 [1, 1, 1, 1, 1, 1, 0, 1, 0, 0, 1, 1, 1]), .loop J11, .blk 0, .seq (cA B9 [1, 1, 1, 1, 1, 1, 1])] ⟨75, [(5, .v (.slice A5 ((max 0 (min (60 : Int) 2000)).toNat) c5)), (6, .v (.slice B5 ((max 0 (min (60 : Int) 2000)).toNat) d5)), (7, .own 7 0), (48, .v (.int .i64 (((max 0 (min (60 : Int) 2000)).toNat : Nat) : Int))), (49, .v (.int .i64 i)), (71, .v (.agg #[.int .i64 m_, .int .i64 p_, .int .i64 t_, .slice A_ W_.length ca_, .slice B_ W_.length cb_]))], [(7, ⟨71, [.v (.int .i64 m_), .v (.int .i64 p_), .v (.int .i64 t_), .v (.slice A_ W_.length ca_), .v (.slice B_ W_.length cb_)]⟩)]⟩ (by kernel_rfl) ?_
      refine X.callG (f := 37) (l := [.v (.agg #[.int .i64 m_, .int .i64 p_, .int .i64 t_, .slice A_ W_.length ca_, .slice B_ W_.length cb_])]) [.agg #[.int .i64 m_, .int .i64 p_, .int .i64 t_, .slice A_ W_.length ca_, .slice B_ W_.length cb_]] 185 (by kernel_rfl) (by kernel_rfl) (by kernel_rfl) (RNext_ok A_ B_ ca_ cb_ W_.length m_ p_ t_ W_ H_ _ hxa_ hyb_ rfl hn2 hca_ hcb_ hma_ hmb_ hb_ hh_ h256_ hm_ hp_) ?_
      rintro v22 G22 rows22 hG22 ⟨A22, c22, B22, d22, rfl, rfl⟩
      replace hx := hx.mono hG22.le
      replace hy := hy.mono hG22.le
      replace hr2 := hr2.mono hG22.le
      replace hr3 := hr3.mono hG22.le
      replace hr6 := hr6.mono hG22.le
      replace hr7 := hr7.mono hG22.le
      replace hr9 := hr9.mono hG22.le
      replace hr10 := hr10.mono hG22.le
      replace hxa_ := hxa_.mono hG22.le
      replace hyb_ := hyb_.mono hG22.le
      refine X.asR (R' := [(185, ⟨2, 1, .slice A22 W_.length c22, W_.length, (nextW (mkd p_ t_ W_) m_ W_ H_ W_.length).map (Value.int .i64)⟩), (186, ⟨2, 1, .slice B22 W_.length d22, W_.length, (nextH (mkd p_ t_ W_) H_ W_.length).map (Value.int .i64)⟩)]) rfl ?_
      refine X.tellR [185, 186] (R' := [(185, ⟨2, 1, .slice A22 W_.length c22, W_.length, (nextW (mkd p_ t_ W_) m_ W_ H_ W_.length).map (Value.int .i64)⟩), (186, ⟨2, 1, .slice B22 W_.length d22, W_.length, (nextH (mkd p_ t_ W_) H_ W_.length).map (Value.int .i64)⟩)]) rfl ?_
      refine X.capLe (i := 185) (q := ⟨2, 1, .slice A22 W_.length c22, W_.length, (nextW (mkd p_ t_ W_) m_ W_ H_ W_.length).map (Value.int .i64)⟩) (n := W_.length) (c := c22) (A := A22) rfl rfl ?_
      intro hle23 hmx23
      refine X.freezeHd (i := 185) (n := W_.length) (c := c22) (A := A22) (kd := .i64) (nextW (mkd p_ t_ W_) m_ W_ H_ W_.length) rfl rfl (fun x_ hx_ => by have h_ := nextW_range hm_ hb_ hh_ rfl hn2 x_ hx_; simp only [IntKind.lo, IntKind.hi]; omega) (by kernel_rfl) (fun _ h => h) ?_
      intro G23 hG23 hr23
      replace hx := hx.mono hG23.le
      replace hy := hy.mono hG23.le
      replace hr2 := hr2.mono hG23.le
      replace hr3 := hr3.mono hG23.le
      replace hr6 := hr6.mono hG23.le
      replace hr7 := hr7.mono hG23.le
      replace hr9 := hr9.mono hG23.le
      replace hr10 := hr10.mono hG23.le
      replace hxa_ := hxa_.mono hG23.le
      replace hyb_ := hyb_.mono hG23.le
      refine X.tellR [186] (R' := [(186, ⟨2, 1, .slice B22 W_.length d22, W_.length, (nextH (mkd p_ t_ W_) H_ W_.length).map (Value.int .i64)⟩)]) rfl ?_
      refine X.capLe (i := 186) (q := ⟨2, 1, .slice B22 W_.length d22, W_.length, (nextH (mkd p_ t_ W_) H_ W_.length).map (Value.int .i64)⟩) (n := W_.length) (c := d22) (A := B22) rfl rfl ?_
      intro hle24 hmx24
      refine X.freezeHd (i := 186) (n := W_.length) (c := d22) (A := B22) (kd := .i64) (nextH (mkd p_ t_ W_) H_ W_.length) rfl rfl (fun x_ hx_ => by have h_ := nextH_range hh_ hn2 x_ hx_; simp only [IntKind.lo, IntKind.hi]; omega) (by kernel_rfl) (fun _ h => h) ?_
      intro G24 hG24 hr24
      replace hx := hx.mono hG24.le
      replace hy := hy.mono hG24.le
      replace hr2 := hr2.mono hG24.le
      replace hr3 := hr3.mono hG24.le
      replace hr6 := hr6.mono hG24.le
      replace hr7 := hr7.mono hG24.le
      replace hr9 := hr9.mono hG24.le
      replace hr10 := hr10.mono hG24.le
      replace hxa_ := hxa_.mono hG24.le
      replace hyb_ := hyb_.mono hG24.le
      replace hr23 := hr23.mono hG24.le
      refine X.run 8 [5, 6, 7, 48, 49] [7] (.ex .normal) [.loop J11, .blk 0, .seq (cA B9 [1, 1, 1, 1, 1, 1, 1])] ⟨75, [(5, .v (.slice A5 ((max 0 (min (60 : Int) 2000)).toNat) c5)), (6, .v (.slice B5 ((max 0 (min (60 : Int) 2000)).toNat) d5)), (7, .own 7 0), (48, .v (.int .i64 (((max 0 (min (60 : Int) 2000)).toNat : Nat) : Int))), (49, .v (.int .i64 (IntKind.i64.wrap (i + 1))))], [(7, ⟨71, [.v (.int .i64 m_), .v (.int .i64 p_), .v (.int .i64 t_), .v (.slice A22 W_.length c22), .v (.slice B22 W_.length d22)]⟩)]⟩ (by kernel_rfl) ?_
      -- again (TT)
      have e1 : IntKind.i64.wrap (i + 1) = i + 1 := wi64 (by omega) (by omega)
      have e0 : (i + 1).toNat = i.toNat + 1 := by omega
      exact X.again (hJ11 _ _ _ _ ⟨IntKind.i64.wrap (i + 1), m_, p_, t_, A22, B22, c22, d22, W_.length, nextW (mkd p_ t_ W_) m_ W_ H_ W_.length, nextH (mkd p_ t_ W_) H_ W_.length, rfl, rfl, (((((hG11.trans hG17).trans hG21).trans hG22).trans hG23).trans hG24), ⟨by omega, by omega, by rw [e1, e0]; exact itR_next _ _ hst, (nextW_len _ _ _ _ _), (nextH_len _ _ _), hle23, hmx23, hle24, hmx24, hr23, hr24⟩, rfl⟩ (by rw [e1]; omega))
    · -- slot 50: decide (i < (((max 0 (min (60 : Int) 2000)).toNat : Nat) : Int)) is False
      replace h12 : ¬ (i < (((max 0 (min (60 : Int) 2000)).toNat : Nat) : Int)) := of_decide_eq_false h12
      refine X.run 8 [] [] (.ops (aA B9 [1, 1, 1, 1, 1, 1, 1, 0]) (oA B9 [1, 1, 1, 1, 1, 1, 1, 0] 0 :: lA B9 [1, 1, 1, 1, 1, 1, 1, 0] 1)) [.seq (cA B9 [1, 1, 1, 1, 1, 1, 1, 1])] ⟨75, [], []⟩ (by kernel_rfl) ?_
      refine X.callG (f := 38) (l := []) [] 0 (by kernel_rfl) (by kernel_rfl) (by kernel_rfl) (Works_ok _) ?_
      rintro v25 G25 rows25 hG25 ⟨rfl, rfl⟩
      replace hx := hx.mono hG25.le
      replace hy := hy.mono hG25.le
      replace hr2 := hr2.mono hG25.le
      replace hr3 := hr3.mono hG25.le
      replace hr6 := hr6.mono hG25.le
      replace hr7 := hr7.mono hG25.le
      replace hr9 := hr9.mono hG25.le
      replace hr10 := hr10.mono hG25.le
      replace hxa_ := hxa_.mono hG25.le
      replace hyb_ := hyb_.mono hG25.le
      refine X.run 4 [4] [] (.ex .ret) [] ⟨75, [(4, .v (.bool true))], []⟩ (by kernel_rfl) ?_
      refine doneG (.inl rfl) [.bool true] [] (by kernel_rfl) rfl rfl ((((((((hG5.trans hG6).trans hG7).trans hG8).trans hG9).trans hG10).trans hG11).trans hG25)) ?_
      -- end 1 (TF)
      exact ⟨rfl, rfl⟩
  · -- slot 26: decide (many > 60) is False
    replace h4 : ¬ (many > 60) := of_decide_eq_false h4
    refine X.run 7 [1, 2, 4, 28, 29] [2] (.ops (aA B9 [1, 1, 1, 0]) (oA B9 [1, 1, 1, 0] 2 :: lA B9 [1, 1, 1, 0] 3)) [.seq (cA B9 [1, 1, 1, 1])] ⟨75, [(1, .v (.int .i64 many)), (2, .own 2 0), (4, .v (.bool false)), (28, .v (.agg #[.int .i64 ms, .int .i64 p, .int .i64 st, .slice A2 ys2.length (ca - 0), .slice A3 ys3.length (cb - 0)])), (29, .v (.int .i64 many))], [(2, ⟨71, [.v (.int .i64 ms), .v (.int .i64 p), .v (.int .i64 st), .v (.slice A2 ys2.length (ca - 0)), .v (.slice A3 ys3.length (cb - 0))]⟩)]⟩ (by kernel_rfl) ?_
    refine X.callG (f := 33) (l := [.v (.agg #[.int .i64 ms, .int .i64 p, .int .i64 st, .slice A2 ys2.length (ca - 0), .slice A3 ys3.length (cb - 0)]), .v (.int .i64 many)]) [.agg #[.int .i64 ms, .int .i64 p, .int .i64 st, .slice A2 ys2.length (ca - 0), .slice A3 ys3.length (cb - 0)], .int .i64 many] 190 (by kernel_rfl) (by kernel_rfl) (by kernel_rfl) (Run_ok A2 A3 (ca - 0) (cb - 0) ms p st ys2 ys3 many _ hr2 hr3 hc2 hc3 hm2 hm3) ?_
    rintro v26 G26 rows26 hG26 ⟨A26, c26, B26, d26, rfl, rfl⟩
    replace hx := hx.mono hG26.le
    replace hy := hy.mono hG26.le
    replace hr2 := hr2.mono hG26.le
    replace hr3 := hr3.mono hG26.le
    refine X.asR (R' := [(190, ⟨2, 1, .slice A26 ((max 0 (min many 2000)).toNat) c26, (max 0 (min many 2000)).toNat, (qL (ms, p, st, ys2, ys3) (max 0 (min many 2000)).toNat).map (Value.int .i64)⟩), (191, ⟨2, 1, .slice B26 ((max 0 (min many 2000)).toNat) d26, (max 0 (min many 2000)).toNat, (sL (ms, p, st, ys2, ys3) (max 0 (min many 2000)).toNat).map (Value.int .i64)⟩)]) rfl ?_
    refine X.tellR [190, 191] (R' := [(190, ⟨2, 1, .slice A26 ((max 0 (min many 2000)).toNat) c26, (max 0 (min many 2000)).toNat, (qL (ms, p, st, ys2, ys3) (max 0 (min many 2000)).toNat).map (Value.int .i64)⟩), (191, ⟨2, 1, .slice B26 ((max 0 (min many 2000)).toNat) d26, (max 0 (min many 2000)).toNat, (sL (ms, p, st, ys2, ys3) (max 0 (min many 2000)).toNat).map (Value.int .i64)⟩)]) rfl ?_
    refine X.capLe (i := 190) (q := ⟨2, 1, .slice A26 ((max 0 (min many 2000)).toNat) c26, (max 0 (min many 2000)).toNat, (qL (ms, p, st, ys2, ys3) (max 0 (min many 2000)).toNat).map (Value.int .i64)⟩) (n := (max 0 (min many 2000)).toNat) (c := c26) (A := A26) rfl rfl ?_
    intro hle27 hmx27
    refine X.freezeHd (i := 190) (n := (max 0 (min many 2000)).toNat) (c := c26) (A := A26) (kd := .i64) (qL (ms, p, st, ys2, ys3) (max 0 (min many 2000)).toNat) rfl rfl (qL_range) (by kernel_rfl) (fun _ h => h) ?_
    intro G27 hG27 hr27
    replace hx := hx.mono hG27.le
    replace hy := hy.mono hG27.le
    replace hr2 := hr2.mono hG27.le
    replace hr3 := hr3.mono hG27.le
    have hlq_ : (qL (ms, p, st, ys2, ys3) (max 0 (min many 2000)).toNat).length = (max 0 (min many 2000)).toNat := qL_len _ _
    refine X.tellR [191] (R' := [(191, ⟨2, 1, .slice B26 ((max 0 (min many 2000)).toNat) d26, (max 0 (min many 2000)).toNat, (sL (ms, p, st, ys2, ys3) (max 0 (min many 2000)).toNat).map (Value.int .i64)⟩)]) rfl ?_
    refine X.capLe (i := 191) (q := ⟨2, 1, .slice B26 ((max 0 (min many 2000)).toNat) d26, (max 0 (min many 2000)).toNat, (sL (ms, p, st, ys2, ys3) (max 0 (min many 2000)).toNat).map (Value.int .i64)⟩) (n := (max 0 (min many 2000)).toNat) (c := d26) (A := B26) rfl rfl ?_
    intro hle28 hmx28
    refine X.freezeHd (i := 191) (n := (max 0 (min many 2000)).toNat) (c := d26) (A := B26) (kd := .i64) (sL (ms, p, st, ys2, ys3) (max 0 (min many 2000)).toNat) rfl rfl (sL_range) (by kernel_rfl) (fun _ h => h) ?_
    intro G28 hG28 hr28
    replace hx := hx.mono hG28.le
    replace hy := hy.mono hG28.le
    replace hr2 := hr2.mono hG28.le
    replace hr3 := hr3.mono hG28.le
    replace hr27 := hr27.mono hG28.le
    have hls_ : (sL (ms, p, st, ys2, ys3) (max 0 (min many 2000)).toNat).length = (max 0 (min many 2000)).toNat := sL_len _ _
    refine X.run 14 [2, 4, 5, 6, 34, 36] [2] (.ops (aA B9 [1, 1, 1, 1, 0, 0]) (oA B9 [1, 1, 1, 1, 0, 0] 4 :: lA B9 [1, 1, 1, 1, 0, 0] 5)) [.seq (cA B9 [1, 1, 1, 1, 0, 1]), .seq (cA B9 [1, 1, 1, 1, 1])] ⟨75, [(2, .own 2 0), (4, .v (.bool false)), (5, .v (.slice A26 ((max 0 (min many 2000)).toNat) c26)), (6, .v (.slice B26 ((max 0 (min many 2000)).toNat) d26)), (34, .v (.int .i64 (((max 0 (min many 2000)).toNat : Nat) : Int))), (36, .v (.int .i64 (imax many 0)))], [(2, ⟨71, [.v (.int .i64 ms), .v (.int .i64 p), .v (.int .i64 st), .v (.slice A2 ys2.length (ca - 0)), .v (.slice A3 ys3.length (cb - 0))]⟩)]⟩ (by kernel_rfl) ?_
    refine X.known 36 (y := .v (.int .i64 (max many 0))) rfl (congrArg (fun z_ => AV.v (.int .i64 z_)) (by simp only [imin_eq, imax_eq])) ?_
    refine X.run 2 [2, 4, 5, 6, 38] [2] (.ops (aA B9 [1, 1, 1, 1, 0, 0]) (oA B9 [1, 1, 1, 1, 0, 0] 6 :: lA B9 [1, 1, 1, 1, 0, 0] 7)) [.seq (cA B9 [1, 1, 1, 1, 0, 1]), .seq (cA B9 [1, 1, 1, 1, 1])] ⟨75, [(2, .own 2 0), (4, .v (.bool false)), (5, .v (.slice A26 ((max 0 (min many 2000)).toNat) c26)), (6, .v (.slice B26 ((max 0 (min many 2000)).toNat) d26)), (38, .v (.bool ((((max 0 (min many 2000)).toNat : Nat) : Int) != (max many 0))))], [(2, ⟨71, [.v (.int .i64 ms), .v (.int .i64 p), .v (.int .i64 st), .v (.slice A2 ys2.length (ca - 0)), .v (.slice A3 ys3.length (cb - 0))]⟩)]⟩ (by kernel_rfl) ?_
    refine X.isFalse 38 rfl (by simp; omega) ?_
    refine X.run 8 [2, 4, 5, 6, 44] [2] (.code (cA B9 [1, 1, 1, 1, 0, 1])) [.seq (cA B9 [1, 1, 1, 1, 1])] ⟨75, [(2, .own 2 0), (4, .v (.bool false)), (5, .v (.slice A26 ((max 0 (min many 2000)).toNat) c26)), (6, .v (.slice B26 ((max 0 (min many 2000)).toNat) d26)), (44, .v (.bool ((((max 0 (min many 2000)).toNat : Nat) : Int) != (((max 0 (min many 2000)).toNat : Nat) : Int))))], [(2, ⟨71, [.v (.int .i64 ms), .v (.int .i64 p), .v (.int .i64 st), .v (.slice A2 ys2.length (ca - 0)), .v (.slice A3 ys3.length (cb - 0))]⟩)]⟩ (by kernel_rfl) ?_
    refine X.isFalse 44 rfl (by simp) ?_
    refine X.run 6 [4, 5, 6, 45] [] (.ops (aA B9 [1, 1, 1, 1, 1, 0]) (oA B9 [1, 1, 1, 1, 1, 0] 1 :: lA B9 [1, 1, 1, 1, 1, 0] 2)) [.seq (cA B9 [1, 1, 1, 1, 1, 1])] ⟨75, [(4, .v (.bool false)), (5, .v (.slice A26 ((max 0 (min many 2000)).toNat) c26)), (6, .v (.slice B26 ((max 0 (min many 2000)).toNat) d26)), (45, .v (.agg #[.int .i64 ms, .int .i64 p, .int .i64 st, .slice A2 ys2.length (ca - 0), .slice A3 ys3.length (cb - 0)]))], []⟩ (by kernel_rfl) ?_
    have hm_ := cM_range ms
    have hcn_ := cN_range ys2
    have hp_ := cP_range ms p (cN_range ys2).2
    have hcs_ : 0 ≤ cS st ∧ cS st ≤ 1073741824 := by unfold cS; omega
    have hmn_ := mn_range ms hcn_.1 hcn_.2
    have hb_ := cW_range (ms := ms) (ws := ys2) (n := cN ys2)
    have hh_ := cH_range (hs := ys3) (n := cN ys2)
    have h256_ := (cN_range ys2).2
    refine X.callG (f := 34) (l := [.v (.agg #[.int .i64 ms, .int .i64 p, .int .i64 st, .slice A2 ys2.length (ca - 0), .slice A3 ys3.length (cb - 0)])]) [.agg #[.int .i64 ms, .int .i64 p, .int .i64 st, .slice A2 ys2.length (ca - 0), .slice A3 ys3.length (cb - 0)]] 183 (by kernel_rfl) (by kernel_rfl) (by kernel_rfl) (RClean_ok A2 A3 (ca - 0) (cb - 0) ms p st ys2 ys3 _ hr2 hr3 hc2 hc3 hm2 hm3) ?_
    rintro v29 G29 rows29 hG29 ⟨A29, c29, B29, d29, rfl, rfl⟩
    replace hx := hx.mono hG29.le
    replace hy := hy.mono hG29.le
    replace hr2 := hr2.mono hG29.le
    replace hr3 := hr3.mono hG29.le
    replace hr27 := hr27.mono hG29.le
    replace hr28 := hr28.mono hG29.le
    refine X.asR (R' := [(183, ⟨2, 1, .slice A29 (cN ys2) c29, cN ys2, (cW ms ys2 (cN ys2)).map (Value.int .i64)⟩), (184, ⟨2, 1, .slice B29 (cN ys2) d29, cN ys2, (cH ys3 (cN ys2)).map (Value.int .i64)⟩)]) rfl ?_
    refine X.tellR [183, 184] (R' := [(183, ⟨2, 1, .slice A29 (cN ys2) c29, cN ys2, (cW ms ys2 (cN ys2)).map (Value.int .i64)⟩), (184, ⟨2, 1, .slice B29 (cN ys2) d29, cN ys2, (cH ys3 (cN ys2)).map (Value.int .i64)⟩)]) rfl ?_
    refine X.capLe (i := 183) (q := ⟨2, 1, .slice A29 (cN ys2) c29, cN ys2, (cW ms ys2 (cN ys2)).map (Value.int .i64)⟩) (n := cN ys2) (c := c29) (A := A29) rfl rfl ?_
    intro hle30 hmx30
    refine X.freezeHd (i := 183) (n := cN ys2) (c := c29) (A := A29) (kd := .i64) (cW ms ys2 (cN ys2)) rfl rfl (fun x_ hx_ => by have h_ := cW_range x_ hx_; have h2_ := cM_range ms; simp only [IntKind.lo, IntKind.hi]; omega) (by kernel_rfl) (fun _ h => h) ?_
    intro G30 hG30 hr30
    replace hx := hx.mono hG30.le
    replace hy := hy.mono hG30.le
    replace hr2 := hr2.mono hG30.le
    replace hr3 := hr3.mono hG30.le
    replace hr27 := hr27.mono hG30.le
    replace hr28 := hr28.mono hG30.le
    refine X.tellR [184] (R' := [(184, ⟨2, 1, .slice B29 (cN ys2) d29, cN ys2, (cH ys3 (cN ys2)).map (Value.int .i64)⟩)]) rfl ?_
    refine X.capLe (i := 184) (q := ⟨2, 1, .slice B29 (cN ys2) d29, cN ys2, (cH ys3 (cN ys2)).map (Value.int .i64)⟩) (n := cN ys2) (c := d29) (A := B29) rfl rfl ?_
    intro hle31 hmx31
    refine X.freezeHd (i := 184) (n := cN ys2) (c := d29) (A := B29) (kd := .i64) (cH ys3 (cN ys2)) rfl rfl (fun x_ hx_ => by have h_ := cH_range x_ hx_; simp only [IntKind.lo, IntKind.hi]; omega) (by kernel_rfl) (fun _ h => h) ?_
    intro G31 hG31 hr31
    replace hx := hx.mono hG31.le
    replace hy := hy.mono hG31.le
    replace hr2 := hr2.mono hG31.le
    replace hr3 := hr3.mono hG31.le
    replace hr27 := hr27.mono hG31.le
    replace hr28 := hr28.mono hG31.le
    replace hr30 := hr30.mono hG31.le
    refine X.run 13 [4, 5, 6, 7, 48, 49] [7] (.code (cA B9 [1, 1, 1, 1, 1, 1, 0, 1, 0])) [.blk 0, .seq (cA B9 [1, 1, 1, 1, 1, 1, 1])] ⟨75, [(4, .v (.bool false)), (5, .v (.slice A26 ((max 0 (min many 2000)).toNat) c26)), (6, .v (.slice B26 ((max 0 (min many 2000)).toNat) d26)), (7, .own 7 0), (48, .v (.int .i64 (((max 0 (min many 2000)).toNat : Nat) : Int))), (49, .v (.int .i64 0))], [(7, ⟨71, [.v (.int .i64 (cM ms)), .v (.int .i64 (cP ms p (cN ys2))), .v (.int .i64 (cS st)), .v (.slice A29 (cN ys2) c29), .v (.slice B29 (cN ys2) d29)]⟩)]⟩ (by kernel_rfl) ?_
    refine X.run 0 [5, 6, 7, 48, 49] [7] (.code (cA B9 [1, 1, 1, 1, 1, 1, 0, 1, 0])) [.blk 0, .seq (cA B9 [1, 1, 1, 1, 1, 1, 1])] ⟨75, [(5, .v (.slice A26 ((max 0 (min many 2000)).toNat) c26)), (6, .v (.slice B26 ((max 0 (min many 2000)).toNat) d26)), (7, .own 7 0), (48, .v (.int .i64 (((max 0 (min many 2000)).toNat : Nat) : Int))), (49, .v (.int .i64 0))], [(7, ⟨71, [.v (.int .i64 (cM ms)), .v (.int .i64 (cP ms p (cN ys2))), .v (.int .i64 (cS st)), .v (.slice A29 (cN ys2) c29), .v (.slice B29 (cN ys2) d29)]⟩)]⟩ (by kernel_rfl) ?_
    refine X.loopJ (fun m s R' G' => ∃ (i m_ p_ t_ : Int) (A_ B_ : Option Addr) (ca_ cb_ n1_ : Nat) (W_ H_ : List Int), s = ⟨75, [(5, .v (.slice A26 ((max 0 (min many 2000)).toNat) c26)), (6, .v (.slice B26 ((max 0 (min many 2000)).toNat) d26)), (7, .own 7 0), (48, .v (.int .i64 (((max 0 (min many 2000)).toNat : Nat) : Int))), (49, .v (.int .i64 i))], [(7, ⟨71, [.v (.int .i64 m_), .v (.int .i64 p_), .v (.int .i64 t_), .v (.slice A_ n1_ ca_), .v (.slice B_ n1_ cb_)]⟩)]⟩ ∧ R' = [] ∧ Ge G31 w.heap.size G' ∧ (0 ≤ i ∧ i ≤ (((max 0 (min many 2000)).toNat : Nat) : Int) ∧ (m_, p_, t_, W_, H_) = clR (itR i.toNat (ms, p, st, ys2, ys3)) ∧ W_.length = n1_ ∧ H_.length = n1_ ∧ n1_ ≤ ca_ ∧ ca_ ≤ maxLen ∧ n1_ ≤ cb_ ∧ cb_ ≤ maxLen ∧ rowAt (D.int .i64) G' A_ W_ ∧ rowAt (D.int .i64) G' B_ H_) ∧ m = ((((max 0 (min many 2000)).toNat : Nat) : Int) - i).toNat) _ ⟨0, cM ms, cP ms p (cN ys2), cS st, A29, B29, c29, d29, cN ys2, cW ms ys2 (cN ys2), cH ys3 (cN ys2), rfl, rfl, Ge.refl _ _, ⟨by omega, by omega, rfl, (cW_len _ _ _), (cH_len _ _), hle30, hmx30, hle31, hmx31, hr30, hr31⟩, rfl⟩ ?_
    rintro m32 s32 R32 G32 ⟨i, m_, p_, t_, A_, B_, ca_, cb_, n1_, W_, H_, rfl, rfl, hG32, hF32, rfl⟩ J32 hJ32
    replace hx := hx.mono hG32.le
    replace hy := hy.mono hG32.le
    replace hr2 := hr2.mono hG32.le
    replace hr3 := hr3.mono hG32.le
    replace hr27 := hr27.mono hG32.le
    replace hr28 := hr28.mono hG32.le
    replace hr30 := hr30.mono hG32.le
    replace hr31 := hr31.mono hG32.le
    obtain ⟨hi0, hi1, hst, hn1, hn2, hca_, hma_, hcb_, hmb_, hxa_, hyb_⟩ := hF32
    subst hn1
    have hok_ := clR_ok (itR i.toNat (ms, p, st, ys2, ys3))
    rw [← hst] at hok_
    obtain ⟨hm_, hp_, hb_, hh_, h256_, _, _, _⟩ := hok_
    dsimp only at hm_ hp_ hb_ hh_ h256_
    simp only [maxLen] at hma_ hmb_
    refine X.run 6 [5, 6, 7, 48, 49, 50] [7] (.code (cA B9 [1, 1, 1, 1, 1, 1, 0, 1, 0, 0, 1, 0])) [.seq (cA B9 [1, 1, 1, 1, 1, 1, 0, 1, 0, 0, 1, 1]), .loop J32, .blk 0, .seq (cA B9 [1, 1, 1, 1, 1, 1, 1])] ⟨75, [(5, .v (.slice A26 ((max 0 (min many 2000)).toNat) c26)), (6, .v (.slice B26 ((max 0 (min many 2000)).toNat) d26)), (7, .own 7 0), (48, .v (.int .i64 (((max 0 (min many 2000)).toNat : Nat) : Int))), (49, .v (.int .i64 i)), (50, .v (.bool (decide (i < (((max 0 (min many 2000)).toNat : Nat) : Int)))))], [(7, ⟨71, [.v (.int .i64 m_), .v (.int .i64 p_), .v (.int .i64 t_), .v (.slice A_ W_.length ca_), .v (.slice B_ W_.length cb_)]⟩)]⟩ (by kernel_rfl) ?_
    refine X.split 50 rfl (fun h33 => ?_) (fun h33 => ?_)
    · -- slot 50: decide (i < (((max 0 (min many 2000)).toNat : Nat) : Int)) is True
      replace h33 : i < (((max 0 (min many 2000)).toNat : Nat) : Int) := of_decide_eq_true h33
      refine X.run 13 [5, 6, 7, 8, 48, 49] [7] (.code (cA B9 [1, 1, 1, 1, 1, 1, 0, 1, 0, 0, 1, 1, 0, 0, 1, 0, 0])) [.seq (cA B9 [1, 1, 1, 1, 1, 1, 0, 1, 0, 0, 1, 1, 0, 0, 1, 0, 1]), .seq (cA B9 [1, 1, 1, 1, 1, 1, 0, 1, 0, 0, 1, 1, 0, 0, 1, 1]), .blk 1, .seq (cA B9 [1, 1, 1, 1, 1, 1, 0, 1, 0, 0, 1, 1, 1]), .loop J32, .blk 0, .seq (cA B9 [1, 1, 1, 1, 1, 1, 1])] ⟨75, [(5, .v (.slice A26 ((max 0 (min many 2000)).toNat) c26)), (6, .v (.slice B26 ((max 0 (min many 2000)).toNat) d26)), (7, .own 7 0), (8, .v (.int .i64 i)), (48, .v (.int .i64 (((max 0 (min many 2000)).toNat : Nat) : Int))), (49, .v (.int .i64 i))], [(7, ⟨71, [.v (.int .i64 m_), .v (.int .i64 p_), .v (.int .i64 t_), .v (.slice A_ W_.length ca_), .v (.slice B_ W_.length cb_)]⟩)]⟩ (by kernel_rfl) ?_
      have hx_d34 := hx
      have hy_d34 := hy
      have hr2_d34 := hr2
      have hr3_d34 := hr3
      have hr27_d34 := hr27
      have hr28_d34 := hr28
      have hr30_d34 := hr30
      have hr31_d34 := hr31
      have hxa__d34 := hxa_
      have hyb__d34 := hyb_
      refine XD.open (id := 11) (arr := aA B9 [1, 1, 1, 1, 1, 1, 0, 1, 0, 0, 1, 1, 0, 0, 1, 0, 0]) 19 [⟨some 7, 7, 71, [.v (.int .i64 m_), .v (.int .i64 p_), .v (.int .i64 t_), .v (.slice A_ W_.length ca_), .v (.slice B_ W_.length cb_)]⟩] [] [] (by kernel_rfl) (by kernel_rfl) (by kernel_rfl) (by kernel_rfl) (by kernel_rfl) ⟨⟨fun _ h => (by cases h; rfl), rfl⟩, trivial⟩ (by intro p hp hn; simp only [List.mem_cons, List.not_mem_nil, or_false] at hp; rcases hp with rfl <;> first | (cases hn; done) | exact absurd _ (Nat.le_of_ble_eq_true rfl)) rfl (fun ρ0 => ?_)
      refine XD.take (i := 0) (l' := (lb 19 1)) (oA B9 [1, 1, 1, 1, 1, 1, 0, 1, 0, 0, 1, 1, 0, 0, 1, 0, 0] 0) (.v (.slice A26 ((max 0 (min many 2000)).toNat) c26)) QOk.ctxG (by kernel_rfl) (by kernel_rfl) (by kernel_rfl) (by kernel_rfl) (by kernel_rfl) ?_
      refine XD.take (i := 1) (l' := (lb 19 3)) (oA B9 [1, 1, 1, 1, 1, 1, 0, 1, 0, 0, 1, 1, 0, 0, 1, 0, 0] 1) (.v (.int .i64 i)) QOk.ctxG (by kernel_rfl) (by kernel_rfl) (by kernel_rfl) (by kernel_rfl) (by kernel_rfl) ?_
      have b35 : (0 : Int) ≤ i := by omega
      have b36 : i < (((max 0 (min many 2000)).toNat : Nat) : Int) := by omega
      obtain ⟨at37, lo37, hi37⟩ := At.int [] hr27_d34 ((i).toNat) (by omega)
      simp only [IntKind.lo, IntKind.hi] at lo37 hi37
      refine XD.index (i := 2) (l' := (lb 19 7)) (o := (oA B9 [1, 1, 1, 1, 1, 1, 0, 1, 0, 0, 1, 1, 0, 0, 1, 0, 0] 2)) (t := 22) (e := 2) (sz := 1) (A := A26) (n := (max 0 (min many 2000)).toNat) (c := c26) (ki := .i64) (j := i) (x := .tmp 52) (ix := .tmp 53) QOk.ctxG (by kernel_rfl) (by kernel_rfl) (by kernel_rfl) (by kernel_rfl) (by kernel_rfl) (by kernel_rfl) (by kernel_rfl) (by kernel_rfl) b35 b36 (fun _ _ => rowAt.so hr27_d34 (by omega)) (by kernel_rfl) ?_
      refine XD.load (i := 3) (l' := (lb 19 15)) (o := (oA B9 [1, 1, 1, 1, 1, 1, 0, 1, 0, 0, 1, 1, 0, 0, 1, 0, 0] 3)) (t := 2) (A := A26) (j := (i).toNat * 1) (x := .tmp 54) (z := .int .i64 ((qL (ms, p, st, ys2, ys3) (max 0 (min many 2000)).toNat).getD ((i).toNat) 0)) [.int .i64 ((qL (ms, p, st, ys2, ys3) (max 0 (min many 2000)).toNat).getD ((i).toNat) 0)] QOk.ctxG (by kernel_rfl) (by kernel_rfl) (by kernel_rfl) (by kernel_rfl) (by kernel_rfl) at37 (by kernel_rfl) (by kernel_rfl) ?_
      refine XD.take (i := 4) (l' := (lb 19 31)) (oA B9 [1, 1, 1, 1, 1, 1, 0, 1, 0, 0, 1, 1, 0, 0, 1, 0, 0] 4) (.v (.agg #[.int .i64 m_, .int .i64 p_, .int .i64 t_, .slice A_ W_.length ca_, .slice B_ W_.length cb_])) QOk.ctxG (by kernel_rfl) (by kernel_rfl) (by kernel_rfl) (by kernel_rfl) (by kernel_rfl) ?_
      refine XD.norm [5, 6, 7, 8, 48, 49, 55, 56] [7] ⟨75, [(5, .v (.slice A26 ((max 0 (min many 2000)).toNat) c26)), (6, .v (.slice B26 ((max 0 (min many 2000)).toNat) d26)), (7, .own 7 0), (8, .v (.int .i64 i)), (48, .v (.int .i64 (((max 0 (min many 2000)).toNat : Nat) : Int))), (49, .v (.int .i64 i)), (55, .v (.int .i64 ((qL (ms, p, st, ys2, ys3) (max 0 (min many 2000)).toNat).getD ((i).toNat) 0))), (56, .v (.agg #[.int .i64 m_, .int .i64 p_, .int .i64 t_, .slice A_ W_.length ca_, .slice B_ W_.length cb_]))], [(7, ⟨71, [.v (.int .i64 m_), .v (.int .i64 p_), .v (.int .i64 t_), .v (.slice A_ W_.length ca_), .v (.slice B_ W_.length cb_)]⟩)]⟩ (by kernel_rfl) ⟨⟨fun _ h => (by cases h; rfl), rfl⟩, trivial⟩ ?_
      refine XD.one (i := 5) (l' := (lb 19 63)) (oA B9 [1, 1, 1, 1, 1, 1, 0, 1, 0, 0, 1, 1, 0, 0, 1, 0, 0] 5) (by kernel_rfl) (by kernel_rfl) (by kernel_rfl) ?_
      refine X.callG (f := 35) (l := [.v (.agg #[.int .i64 m_, .int .i64 p_, .int .i64 t_, .slice A_ W_.length ca_, .slice B_ W_.length cb_])]) [.agg #[.int .i64 m_, .int .i64 p_, .int .i64 t_, .slice A_ W_.length ca_, .slice B_ W_.length cb_]] 0 (by kernel_rfl) (by kernel_rfl) (by kernel_rfl) (RQueue_ok A_ B_ ca_ cb_ W_.length m_ p_ t_ W_ H_ _ hxa_ hyb_ rfl hn2 hca_ hcb_ hma_ hmb_ (fun x_ hx_ => by have h_ := hb_ x_ hx_; omega) h256_ hp_) ?_
      rintro v38 G38 rows38 hG38 ⟨rfl, rfl⟩
      replace hx := hx.mono hG38.le
      replace hy := hy.mono hG38.le
      replace hr2 := hr2.mono hG38.le
      replace hr3 := hr3.mono hG38.le
      replace hr27 := hr27.mono hG38.le
      replace hr28 := hr28.mono hG38.le
      replace hr30 := hr30.mono hG38.le
      replace hr31 := hr31.mono hG38.le
      replace hxa_ := hxa_.mono hG38.le
      replace hyb_ := hyb_.mono hG38.le
      refine X.back ⟨⟨⟨fun _ h => (by cases h; rfl), rfl⟩, trivial⟩, hG38.le, rfl, ?_⟩
      refine XD.take (i := 6) (l' := (lb 19 127)) (oA B9 [1, 1, 1, 1, 1, 1, 0, 1, 0, 0, 1, 1, 0, 0, 1, 0, 0] 6) (.v (.bool (((qL (ms, p, st, ys2, ys3) (max 0 (min many 2000)).toNat).getD ((i).toNat) 0) != (quI p_ W_)))) QOk.ctxG (by kernel_rfl) (by kernel_rfl) (by kernel_rfl) (by kernel_rfl) (by kernel_rfl) ?_
      refine XD.take (i := 7) (l' := (lb 19 255)) (oA B9 [1, 1, 1, 1, 1, 1, 0, 1, 0, 0, 1, 1, 0, 0, 1, 0, 0] 7) (.v (.bool (((qL (ms, p, st, ys2, ys3) (max 0 (min many 2000)).toNat).getD ((i).toNat) 0) != (quI p_ W_)))) QOk.ctxG (by kernel_rfl) (by kernel_rfl) (by kernel_rfl) (by kernel_rfl) (by kernel_rfl) ?_
      refine XD.isFalse 59 rfl (by rw [qL_at (by omega), qR_of hst]; simp) ?_
      refine XD.take (i := 8) (l' := (lb 19 511)) (oA B9 [1, 1, 1, 1, 1, 1, 0, 1, 0, 0, 1, 1, 0, 0, 1, 0, 0] 8) (.v (.slice B26 ((max 0 (min many 2000)).toNat) d26)) QOk.ctxG (by kernel_rfl) (by kernel_rfl) (by kernel_rfl) (by kernel_rfl) (by kernel_rfl) ?_
      refine XD.take (i := 9) (l' := (lb 19 1023)) (oA B9 [1, 1, 1, 1, 1, 1, 0, 1, 0, 0, 1, 1, 0, 0, 1, 0, 0] 9) (.v (.int .i64 i)) QOk.ctxG (by kernel_rfl) (by kernel_rfl) (by kernel_rfl) (by kernel_rfl) (by kernel_rfl) ?_
      have b39 : (0 : Int) ≤ i := by omega
      have b40 : i < (((max 0 (min many 2000)).toNat : Nat) : Int) := by omega
      obtain ⟨at41, lo41, hi41⟩ := At.int [] hr28_d34 ((i).toNat) (by omega)
      simp only [IntKind.lo, IntKind.hi] at lo41 hi41
      refine XD.index (i := 10) (l' := (lb 19 2047)) (o := (oA B9 [1, 1, 1, 1, 1, 1, 0, 1, 0, 0, 1, 1, 0, 0, 1, 0, 0] 10)) (t := 22) (e := 2) (sz := 1) (A := B26) (n := (max 0 (min many 2000)).toNat) (c := d26) (ki := .i64) (j := i) (x := .tmp 60) (ix := .tmp 61) QOk.ctxG (by kernel_rfl) (by kernel_rfl) (by kernel_rfl) (by kernel_rfl) (by kernel_rfl) (by kernel_rfl) (by kernel_rfl) (by kernel_rfl) b39 b40 (fun _ _ => rowAt.so hr28_d34 (by omega)) (by kernel_rfl) ?_
      refine XD.load (i := 11) (l' := (lb 19 4095)) (o := (oA B9 [1, 1, 1, 1, 1, 1, 0, 1, 0, 0, 1, 1, 0, 0, 1, 0, 0] 11)) (t := 2) (A := B26) (j := (i).toNat * 1) (x := .tmp 62) (z := .int .i64 ((sL (ms, p, st, ys2, ys3) (max 0 (min many 2000)).toNat).getD ((i).toNat) 0)) [.int .i64 ((sL (ms, p, st, ys2, ys3) (max 0 (min many 2000)).toNat).getD ((i).toNat) 0)] QOk.ctxG (by kernel_rfl) (by kernel_rfl) (by kernel_rfl) (by kernel_rfl) (by kernel_rfl) at41 (by kernel_rfl) (by kernel_rfl) ?_
      refine XD.take (i := 12) (l' := (lb 19 8191)) (oA B9 [1, 1, 1, 1, 1, 1, 0, 1, 0, 0, 1, 1, 0, 0, 1, 0, 0] 12) (.v (.agg #[.int .i64 m_, .int .i64 p_, .int .i64 t_, .slice A_ W_.length ca_, .slice B_ W_.length cb_])) QOk.ctxG (by kernel_rfl) (by kernel_rfl) (by kernel_rfl) (by kernel_rfl) (by kernel_rfl) ?_
      refine XD.take (i := 14) (l' := (lb 19 24575)) (oA B9 [1, 1, 1, 1, 1, 1, 0, 1, 0, 0, 1, 1, 0, 0, 1, 0, 0] 14) (.own 7 1) QOk.ctxG (by kernel_rfl) (by kernel_rfl) (by kernel_rfl) (by kernel_rfl) (by kernel_rfl) ?_
      refine XD.take (i := 15) (l' := (lb 19 57343)) (oA B9 [1, 1, 1, 1, 1, 1, 0, 1, 0, 0, 1, 1, 0, 0, 1, 0, 0] 15) (.v (.int .i64 p_)) QOk.ctxG (by kernel_rfl) (by kernel_rfl) (by kernel_rfl) (by kernel_rfl) (by kernel_rfl) ?_
      refine XD.norm [5, 6, 7, 48, 49, 59, 63, 64, 67] [7] ⟨75, [(5, .v (.slice A26 ((max 0 (min many 2000)).toNat) c26)), (6, .v (.slice B26 ((max 0 (min many 2000)).toNat) d26)), (7, .own 7 0), (48, .v (.int .i64 (((max 0 (min many 2000)).toNat : Nat) : Int))), (49, .v (.int .i64 i)), (59, .v (.bool false)), (63, .v (.int .i64 ((sL (ms, p, st, ys2, ys3) (max 0 (min many 2000)).toNat).getD ((i).toNat) 0))), (64, .v (.agg #[.int .i64 m_, .int .i64 p_, .int .i64 t_, .slice A_ W_.length ca_, .slice B_ W_.length cb_])), (67, .v (.int .i64 p_))], [(7, ⟨71, [.v (.int .i64 m_), .v (.int .i64 p_), .v (.int .i64 t_), .v (.slice A_ W_.length ca_), .v (.slice B_ W_.length cb_)]⟩)]⟩ (by kernel_rfl) ⟨⟨fun _ h => (by cases h; rfl), rfl⟩, trivial⟩ ?_
      refine XD.one (i := 13) (l' := (lb 19 65535)) (oA B9 [1, 1, 1, 1, 1, 1, 0, 1, 0, 0, 1, 1, 0, 0, 1, 0, 0] 13) (by kernel_rfl) (by kernel_rfl) (by kernel_rfl) ?_
      refine X.callG (f := 36) (l := [.v (.agg #[.int .i64 m_, .int .i64 p_, .int .i64 t_, .slice A_ W_.length ca_, .slice B_ W_.length cb_])]) [.agg #[.int .i64 m_, .int .i64 p_, .int .i64 t_, .slice A_ W_.length ca_, .slice B_ W_.length cb_]] 0 (by kernel_rfl) (by kernel_rfl) (by kernel_rfl) (RSum_ok A_ B_ ca_ cb_ W_.length m_ p_ t_ W_ H_ _ hxa_ hyb_ rfl hn2 hca_ hcb_ hma_ hmb_ (fun x_ hx_ => by have h_ := hb_ x_ hx_; omega) h256_) ?_
      rintro v42 G42 rows42 hG42 ⟨rfl, rfl⟩
      replace hx := hx.mono hG42.le
      replace hy := hy.mono hG42.le
      replace hr2 := hr2.mono hG42.le
      replace hr3 := hr3.mono hG42.le
      replace hr27 := hr27.mono hG42.le
      replace hr28 := hr28.mono hG42.le
      replace hr30 := hr30.mono hG42.le
      replace hr31 := hr31.mono hG42.le
      replace hxa_ := hxa_.mono hG42.le
      replace hyb_ := hyb_.mono hG42.le
      refine X.back ⟨⟨⟨fun _ h => (by cases h; rfl), rfl⟩, trivial⟩, (hG38.trans hG42).le, rfl, ?_⟩
      refine XD.take (i := 16) (l' := (lb 19 131071)) (oA B9 [1, 1, 1, 1, 1, 1, 0, 1, 0, 0, 1, 1, 0, 0, 1, 0, 0] 16) (.v (.int .i64 (imin (sumI W_) p_))) QOk.ctxG (by kernel_rfl) (by kernel_rfl) (by kernel_rfl) (by kernel_rfl) (by kernel_rfl) ?_
      refine XD.known 68 (y := .v (.int .i64 (min (sumI W_) p_))) rfl (congrArg (fun z_ => AV.v (.int .i64 z_)) (by simp only [imin_eq, imax_eq])) ?_
      refine XD.take (i := 17) (l' := (lb 19 262143)) (oA B9 [1, 1, 1, 1, 1, 1, 0, 1, 0, 0, 1, 1, 0, 0, 1, 0, 0] 17) (.v (.bool (((sL (ms, p, st, ys2, ys3) (max 0 (min many 2000)).toNat).getD ((i).toNat) 0) != (min (sumI W_) p_)))) QOk.ctxG (by kernel_rfl) (by kernel_rfl) (by kernel_rfl) (by kernel_rfl) (by kernel_rfl) ?_
      refine XD.take (i := 18) (l' := (lb 19 524287)) (oA B9 [1, 1, 1, 1, 1, 1, 0, 1, 0, 0, 1, 1, 0, 0, 1, 0, 0] 18) (.v (.bool (((sL (ms, p, st, ys2, ys3) (max 0 (min many 2000)).toNat).getD ((i).toNat) 0) != (min (sumI W_) p_)))) QOk.ctxG (by kernel_rfl) (by kernel_rfl) (by kernel_rfl) (by kernel_rfl) (by kernel_rfl) ?_
      refine XD.done (by kernel_rfl) ?_
      refine X.run 1 [5, 6, 7, 48, 49, 70] [7] (.code (cA B9 [1, 1, 1, 1, 1, 1, 0, 1, 0, 0, 1, 1, 0, 0, 1, 0, 1])) [.seq (cA B9 [1, 1, 1, 1, 1, 1, 0, 1, 0, 0, 1, 1, 0, 0, 1, 1]), .blk 1, .seq (cA B9 [1, 1, 1, 1, 1, 1, 0, 1, 0, 0, 1, 1, 1]), .loop J32, .blk 0, .seq (cA B9 [1, 1, 1, 1, 1, 1, 1])] ⟨75, [(5, .v (.slice A26 ((max 0 (min many 2000)).toNat) c26)), (6, .v (.slice B26 ((max 0 (min many 2000)).toNat) d26)), (7, .own 7 0), (48, .v (.int .i64 (((max 0 (min many 2000)).toNat : Nat) : Int))), (49, .v (.int .i64 i)), (70, .v (.bool (((sL (ms, p, st, ys2, ys3) (max 0 (min many 2000)).toNat).getD ((i).toNat) 0) != (min (sumI W_) p_))))], [(7, ⟨71, [.v (.int .i64 m_), .v (.int .i64 p_), .v (.int .i64 t_), .v (.slice A_ W_.length ca_), .v (.slice B_ W_.length cb_)]⟩)]⟩ (by kernel_rfl) ?_
      refine X.isFalse 70 rfl (by rw [sL_at (by omega), sR_of hst]; simp) ?_
      refine X.run 5 [5, 6, 7, 48, 49, 71] [7] (.ops (aA B9 [1, 1, 1, 1, 1, 1, 0, 1, 0, 0, 1, 1, 0, 0, 1, 1]) (oA B9 [1, 1, 1, 1, 1, 1, 0, 1, 0, 0, 1, 1, 0, 0, 1, 1] 1 :: lA B9 [1, 1, 1, 1, 1, 1, 0, 1, 0, 0, 1, 1, 0, 0, 1, 1] 2)) [.blk 1, .seq (cA B9 [1, 1, 1, 1, 1, 1, 0, 1, 0, 0, 1, 1, 1]), .loop J32, .blk 0, .seq (cA B9 [1, 1, 1, 1, 1, 1, 1])] ⟨75, [(5, .v (.slice A26 ((max 0 (min many 2000)).toNat) c26)), (6, .v (.slice B26 ((max 0 (min many 2000)).toNat) d26)), (7, .own 7 0), (48, .v (.int .i64 (((max 0 (min many 2000)).toNat : Nat) : Int))), (49, .v (.int .i64 i)), (71, .v (.agg #[.int .i64 m_, .int .i64 p_, .int .i64 t_, .slice A_ W_.length ca_, .slice B_ W_.length cb_]))], [(7, ⟨71, [.v (.int .i64 m_), .v (.int .i64 p_), .v (.int .i64 t_), .v (.slice A_ W_.length ca_), .v (.slice B_ W_.length cb_)]⟩)]⟩ (by kernel_rfl) ?_
      refine X.callG (f := 37) (l := [.v (.agg #[.int .i64 m_, .int .i64 p_, .int .i64 t_, .slice A_ W_.length ca_, .slice B_ W_.length cb_])]) [.agg #[.int .i64 m_, .int .i64 p_, .int .i64 t_, .slice A_ W_.length ca_, .slice B_ W_.length cb_]] 185 (by kernel_rfl) (by kernel_rfl) (by kernel_rfl) (RNext_ok A_ B_ ca_ cb_ W_.length m_ p_ t_ W_ H_ _ hxa_ hyb_ rfl hn2 hca_ hcb_ hma_ hmb_ hb_ hh_ h256_ hm_ hp_) ?_
      rintro v43 G43 rows43 hG43 ⟨A43, c43, B43, d43, rfl, rfl⟩
      replace hx := hx.mono hG43.le
      replace hy := hy.mono hG43.le
      replace hr2 := hr2.mono hG43.le
      replace hr3 := hr3.mono hG43.le
      replace hr27 := hr27.mono hG43.le
      replace hr28 := hr28.mono hG43.le
      replace hr30 := hr30.mono hG43.le
      replace hr31 := hr31.mono hG43.le
      replace hxa_ := hxa_.mono hG43.le
      replace hyb_ := hyb_.mono hG43.le
      refine X.asR (R' := [(185, ⟨2, 1, .slice A43 W_.length c43, W_.length, (nextW (mkd p_ t_ W_) m_ W_ H_ W_.length).map (Value.int .i64)⟩), (186, ⟨2, 1, .slice B43 W_.length d43, W_.length, (nextH (mkd p_ t_ W_) H_ W_.length).map (Value.int .i64)⟩)]) rfl ?_
      refine X.tellR [185, 186] (R' := [(185, ⟨2, 1, .slice A43 W_.length c43, W_.length, (nextW (mkd p_ t_ W_) m_ W_ H_ W_.length).map (Value.int .i64)⟩), (186, ⟨2, 1, .slice B43 W_.length d43, W_.length, (nextH (mkd p_ t_ W_) H_ W_.length).map (Value.int .i64)⟩)]) rfl ?_
      refine X.capLe (i := 185) (q := ⟨2, 1, .slice A43 W_.length c43, W_.length, (nextW (mkd p_ t_ W_) m_ W_ H_ W_.length).map (Value.int .i64)⟩) (n := W_.length) (c := c43) (A := A43) rfl rfl ?_
      intro hle44 hmx44
      refine X.freezeHd (i := 185) (n := W_.length) (c := c43) (A := A43) (kd := .i64) (nextW (mkd p_ t_ W_) m_ W_ H_ W_.length) rfl rfl (fun x_ hx_ => by have h_ := nextW_range hm_ hb_ hh_ rfl hn2 x_ hx_; simp only [IntKind.lo, IntKind.hi]; omega) (by kernel_rfl) (fun _ h => h) ?_
      intro G44 hG44 hr44
      replace hx := hx.mono hG44.le
      replace hy := hy.mono hG44.le
      replace hr2 := hr2.mono hG44.le
      replace hr3 := hr3.mono hG44.le
      replace hr27 := hr27.mono hG44.le
      replace hr28 := hr28.mono hG44.le
      replace hr30 := hr30.mono hG44.le
      replace hr31 := hr31.mono hG44.le
      replace hxa_ := hxa_.mono hG44.le
      replace hyb_ := hyb_.mono hG44.le
      refine X.tellR [186] (R' := [(186, ⟨2, 1, .slice B43 W_.length d43, W_.length, (nextH (mkd p_ t_ W_) H_ W_.length).map (Value.int .i64)⟩)]) rfl ?_
      refine X.capLe (i := 186) (q := ⟨2, 1, .slice B43 W_.length d43, W_.length, (nextH (mkd p_ t_ W_) H_ W_.length).map (Value.int .i64)⟩) (n := W_.length) (c := d43) (A := B43) rfl rfl ?_
      intro hle45 hmx45
      refine X.freezeHd (i := 186) (n := W_.length) (c := d43) (A := B43) (kd := .i64) (nextH (mkd p_ t_ W_) H_ W_.length) rfl rfl (fun x_ hx_ => by have h_ := nextH_range hh_ hn2 x_ hx_; simp only [IntKind.lo, IntKind.hi]; omega) (by kernel_rfl) (fun _ h => h) ?_
      intro G45 hG45 hr45
      replace hx := hx.mono hG45.le
      replace hy := hy.mono hG45.le
      replace hr2 := hr2.mono hG45.le
      replace hr3 := hr3.mono hG45.le
      replace hr27 := hr27.mono hG45.le
      replace hr28 := hr28.mono hG45.le
      replace hr30 := hr30.mono hG45.le
      replace hr31 := hr31.mono hG45.le
      replace hxa_ := hxa_.mono hG45.le
      replace hyb_ := hyb_.mono hG45.le
      replace hr44 := hr44.mono hG45.le
      refine X.run 8 [5, 6, 7, 48, 49] [7] (.ex .normal) [.loop J32, .blk 0, .seq (cA B9 [1, 1, 1, 1, 1, 1, 1])] ⟨75, [(5, .v (.slice A26 ((max 0 (min many 2000)).toNat) c26)), (6, .v (.slice B26 ((max 0 (min many 2000)).toNat) d26)), (7, .own 7 0), (48, .v (.int .i64 (((max 0 (min many 2000)).toNat : Nat) : Int))), (49, .v (.int .i64 (IntKind.i64.wrap (i + 1))))], [(7, ⟨71, [.v (.int .i64 m_), .v (.int .i64 p_), .v (.int .i64 t_), .v (.slice A43 W_.length c43), .v (.slice B43 W_.length d43)]⟩)]⟩ (by kernel_rfl) ?_
      -- again (FT)
      have e1 : IntKind.i64.wrap (i + 1) = i + 1 := wi64 (by omega) (by omega)
      have e0 : (i + 1).toNat = i.toNat + 1 := by omega
      exact X.again (hJ32 _ _ _ _ ⟨IntKind.i64.wrap (i + 1), m_, p_, t_, A43, B43, c43, d43, W_.length, nextW (mkd p_ t_ W_) m_ W_ H_ W_.length, nextH (mkd p_ t_ W_) H_ W_.length, rfl, rfl, (((((hG32.trans hG38).trans hG42).trans hG43).trans hG44).trans hG45), ⟨by omega, by omega, by rw [e1, e0]; exact itR_next _ _ hst, (nextW_len _ _ _ _ _), (nextH_len _ _ _), hle44, hmx44, hle45, hmx45, hr44, hr45⟩, rfl⟩ (by rw [e1]; omega))
    · -- slot 50: decide (i < (((max 0 (min many 2000)).toNat : Nat) : Int)) is False
      replace h33 : ¬ (i < (((max 0 (min many 2000)).toNat : Nat) : Int)) := of_decide_eq_false h33
      refine X.run 8 [] [] (.ops (aA B9 [1, 1, 1, 1, 1, 1, 1, 0]) (oA B9 [1, 1, 1, 1, 1, 1, 1, 0] 0 :: lA B9 [1, 1, 1, 1, 1, 1, 1, 0] 1)) [.seq (cA B9 [1, 1, 1, 1, 1, 1, 1, 1])] ⟨75, [], []⟩ (by kernel_rfl) ?_
      refine X.callG (f := 38) (l := []) [] 0 (by kernel_rfl) (by kernel_rfl) (by kernel_rfl) (Works_ok _) ?_
      rintro v46 G46 rows46 hG46 ⟨rfl, rfl⟩
      replace hx := hx.mono hG46.le
      replace hy := hy.mono hG46.le
      replace hr2 := hr2.mono hG46.le
      replace hr3 := hr3.mono hG46.le
      replace hr27 := hr27.mono hG46.le
      replace hr28 := hr28.mono hG46.le
      replace hr30 := hr30.mono hG46.le
      replace hr31 := hr31.mono hG46.le
      replace hxa_ := hxa_.mono hG46.le
      replace hyb_ := hyb_.mono hG46.le
      refine X.run 4 [4] [] (.ex .ret) [] ⟨75, [(4, .v (.bool true))], []⟩ (by kernel_rfl) ?_
      refine doneG (.inl rfl) [.bool true] [] (by kernel_rfl) rfl rfl ((((((((hG26.trans hG27).trans hG28).trans hG29).trans hG30).trans hG31).trans hG32).trans hG46)) ?_
      -- end 2 (FF)
      exact ⟨rfl, rfl⟩

end Go.Proofs.YthpinlcfcgnilaaX
