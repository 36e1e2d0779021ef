/- leatlaw45.RoundsSend: walked. Printed by a small program of this session. Conditions: none. -/
import Derived.Test.YthpinlcfcgnilaaProg
import Derived.KernelRfl
import Derived.Test.YthpinlcfcgnilaaXBP
import Derived.Test.YthpinlcfcgnilaaXF
import Derived.Test.YthpinlcfcgnilaaXPU
namespace Go.Proofs.YthpinlcfcgnilaaX
open Go.RowKit
open Go.Proofs.YthpinlcfcgnilaaW.PrintLast Go.Proofs.YthpinlcfcgnilaaW.PrintWords
set_option linter.unusedVariables false
set_option linter.unusedSimpArgs false
set_option maxRecDepth 100000
theorem low_end {p a r q : Int} (hr : 0 ≤ r) (h : lowS p (a + r) (a + 2 * r) ≤ 2 * q) : 2 * r * p ≤ 4 * q := by
  unfold lowS at h
  rw [show max 0 (a + 2 * r - (a + r)) = r by omega] at h
  rw [Int.mul_assoc, Int.mul_comm r p]
  omega
theorem rp_range {r p : Int} (hr : 0 ≤ r ∧ r ≤ 400) (hp : 0 ≤ p ∧ p ≤ 1073741824) : 0 ≤ 2 * r * p ∧ 2 * r * p ≤ 858993459200 := by
  refine ⟨Int.mul_nonneg (by omega) hp.1, ?_⟩
  have := Int.mul_le_mul (show 2 * r ≤ 800 by omega) hp.2 hp.1 (by decide)
  omega

/-- leat/leatlaw45.RoundsSend -/
noncomputable def B12 : Code := bodyOf Try.f12
set_option maxHeartbeats 1000000 in
theorem RoundsSend_ok (A B : Option Addr) (ca cb : Nat) (ms p st : Int) (ws hs : List Int) (from_ : Int) (G : Mem) (hx : rowAt (D.int .i64) G A ws) (hy : rowAt (D.int .i64) G B hs) (hxc : ws.length ≤ ca) (hyc : hs.length ≤ cb) (hxm : ca ≤ maxLen) (hym : cb ≤ maxLen) (hfrom : 0 ≤ from_ ∧ from_ ≤ 255) : CallsG Try.prog 12 [.agg #[.int .i64 ms, .int .i64 p, .int .i64 st, .slice A ws.length ca, .slice B hs.length cb], .int .u8 from_] G (fun _ v rows => v = .bool true ∧ rows = []) := by
  simp only [maxLen] at hxm hym
  refine CallsG.enter Try.func12 rfl rfl ?_
  intro w
  refine X.run 7 [1, 2, 4] [2] (.code (cA B12 [1, 0])) [.seq (cA B12 [1, 1])] ⟨85, [(1, .v (.int .u8 from_)), (2, .own 2 0), (4, .v (.bool false))], [(2, ⟨71, [.v (.int .i64 ms), .v (.int .i64 p), .v (.int .i64 st), .v (.slice A ws.length ca), .v (.slice B hs.length cb)]⟩)]⟩ (by kernel_rfl) ?_
  have hx_d1 := hx
  have hy_d1 := hy
  refine XD.open (id := 1) (arr := aA B12 [1, 0]) 18 [⟨some 2, 2, 71, [.v (.int .i64 ms), .v (.int .i64 p), .v (.int .i64 st), .v (.slice A ws.length ca), .v (.slice B hs.length cb)]⟩] [] [15, 16, 17] (by kernel_rfl) (by kernel_rfl) (by kernel_rfl) (by kernel_rfl) (by kernel_rfl) ⟨⟨fun _ h => (by cases h; rfl), rfl⟩, trivial⟩ (by intro p hp hn; simp only [List.mem_cons, List.not_mem_nil, or_false] at hp; rcases hp with rfl <;> first | (cases hn; done) | exact absurd _ (Nat.le_of_ble_eq_true rfl)) rfl (fun ρ0 => ?_)
  refine XD.take (i := 0) (l' := (lb 18 1)) (oA B12 [1, 0] 0) (.own 2 3) QOk.ctxG (by kernel_rfl) (by kernel_rfl) (by kernel_rfl) (by kernel_rfl) (by kernel_rfl) ?_
  refine XD.take (i := 1) (l' := (lb 18 3)) (oA B12 [1, 0] 1) (.v (.slice A ws.length ca)) QOk.ctxG (by kernel_rfl) (by kernel_rfl) (by kernel_rfl) (by kernel_rfl) (by kernel_rfl) ?_
  refine XD.take (i := 2) (l' := (lb 18 7)) (oA B12 [1, 0] 2) (.own 2 3) QOk.ctxG (by kernel_rfl) (by kernel_rfl) (by kernel_rfl) (by kernel_rfl) (by kernel_rfl) ?_
  refine XD.take (i := 3) (l' := (lb 18 15)) (oA B12 [1, 0] 3) (.v (.slice A ws.length ca)) QOk.ctxG (by kernel_rfl) (by kernel_rfl) (by kernel_rfl) (by kernel_rfl) (by kernel_rfl) ?_
  refine XD.take (i := 4) (l' := (lb 18 31)) (oA B12 [1, 0] 4) (.v (.int .i64 ((ws.length : Nat) : Int))) QOk.ctxG (by kernel_rfl) (by kernel_rfl) (by kernel_rfl) (by kernel_rfl) (by kernel_rfl) ?_
  refine XD.take (i := 5) (l' := (lb 18 63)) (oA B12 [1, 0] 5) (.v (.int .i64 (imin ((ws.length : Nat) : Int) 300))) QOk.ctxG (by kernel_rfl) (by kernel_rfl) (by kernel_rfl) (by kernel_rfl) (by kernel_rfl) ?_
  refine XD.known 16 (y := .v (.int .i64 (min ((ws.length : Nat) : Int) 300))) rfl (congrArg (fun z_ => AV.v (.int .i64 z_)) (by simp only [imin_eq, imax_eq])) ?_
  have hlo2 : 0 ≤ (min ((ws.length : Nat) : Int) 300).toNat := by omega
  have hhi2 : (min ((ws.length : Nat) : Int) 300).toNat ≤ ws.length := by omega
  refine XD.cut (i := 6) (l' := (lb 18 127)) (o := (oA B12 [1, 0] 6)) (t := 22) (e := 2) (sz := 1) (n := ws.length) (c := ca) (A := A) (x := .tmp 12) (l0 := none) (h := (some (.tmp 16))) (lv := none) (hv := (some (.int .i64 (min ((ws.length : Nat) : Int) 300)))) 0 ((min ((ws.length : Nat) : Int) 300).toNat) QOk.ctxG (by kernel_rfl) (by kernel_rfl) (by kernel_rfl) (by kernel_rfl) (by kernel_rfl) (by kernel_rfl) (by kernel_rfl) (by kernel_rfl) (by kernel_rfl) (rfl) (⟨_, _, rfl, by omega, rfl⟩) hlo2 (Nat.le_trans hhi2 hxc) (by kernel_rfl) ?_
  obtain ⟨A2, hA2⟩ : ∃ A_, cutA A ca 0 1 = A_ := ⟨_, rfl⟩
  obtain ⟨ys2, hys2⟩ : ∃ l_, (ws.take ((min ((ws.length : Nat) : Int) 300).toNat)).drop 0 = l_ := ⟨_, rfl⟩
  have hr2 : rowAt (D.int .i64) G (cutA A ca 0 1) ((ws.take ((min ((ws.length : Nat) : Int) 300).toNat)).drop 0) := rowAt_cut hx hlo2 hhi2 hxc
  have hl2 : ((min ((ws.length : Nat) : Int) 300).toNat) - 0 = ys2.length := by rw [← hys2, List.length_drop, List.length_take]; omega
  have hc2 : ys2.length ≤ ca - 0 := by omega
  have hm2 : ca - 0 ≤ maxLen := Nat.le_trans (Nat.sub_le _ _) hxm
  rw [hys2, show cutA A ca 0 _ = A2 from hA2] at hr2
  rw [hA2, hl2]
  refine XD.take (i := 7) (l' := (lb 18 255)) (oA B12 [1, 0] 7) (.own 2 4) QOk.ctxG (by kernel_rfl) (by kernel_rfl) (by kernel_rfl) (by kernel_rfl) (by kernel_rfl) ?_
  refine XD.take (i := 8) (l' := (lb 18 511)) (oA B12 [1, 0] 8) (.v (.slice B hs.length cb)) QOk.ctxG (by kernel_rfl) (by kernel_rfl) (by kernel_rfl) (by kernel_rfl) (by kernel_rfl) ?_
  refine XD.take (i := 9) (l' := (lb 18 1023)) (oA B12 [1, 0] 9) (.own 2 4) QOk.ctxG (by kernel_rfl) (by kernel_rfl) (by kernel_rfl) (by kernel_rfl) (by kernel_rfl) ?_
  refine XD.take (i := 10) (l' := (lb 18 2047)) (oA B12 [1, 0] 10) (.v (.slice B hs.length cb)) QOk.ctxG (by kernel_rfl) (by kernel_rfl) (by kernel_rfl) (by kernel_rfl) (by kernel_rfl) ?_
  refine XD.pureOne (i := 11) (l' := (lb 18 4095)) (oA B12 [1, 0] 11) (.int .i64 ((hs.length : Nat) : Int)) QOk.ctxG (by kernel_rfl) (by kernel_rfl) (by kernel_rfl) (by kernel_rfl) (by kernel_rfl) ?_
  refine XD.pureOne (i := 12) (l' := (lb 18 8191)) (oA B12 [1, 0] 12) (.int .i64 (imin ((hs.length : Nat) : Int) 300)) QOk.ctxG (by kernel_rfl) (by kernel_rfl) (by kernel_rfl) (by kernel_rfl) (by kernel_rfl) ?_
  refine XD.known 23 (y := .v (.int .i64 (min ((hs.length : Nat) : Int) 300))) rfl (congrArg (fun z_ => AV.v (.int .i64 z_)) (by simp only [imin_eq, imax_eq])) ?_
  have hlo3 : 0 ≤ (min ((hs.length : Nat) : Int) 300).toNat := by omega
  have hhi3 : (min ((hs.length : Nat) : Int) 300).toNat ≤ hs.length := by omega
  refine XD.pureCut (i := 13) (l' := (lb 18 16383)) (o := (oA B12 [1, 0] 13)) (t := 22) (e := 2) (sz := 1) (n := hs.length) (c := cb) (A := B) (x := .tmp 19) (l0 := none) (h := (some (.tmp 23))) (lv := none) (hv := (some (.int .i64 (min ((hs.length : Nat) : Int) 300)))) 0 ((min ((hs.length : Nat) : Int) 300).toNat) QOk.ctxG (by kernel_rfl) (by kernel_rfl) (by kernel_rfl) (by kernel_rfl) (by kernel_rfl) (by kernel_rfl) (by kernel_rfl) (by kernel_rfl) (by kernel_rfl) (rfl) (⟨_, _, rfl, by omega, rfl⟩) hlo3 (Nat.le_trans hhi3 hyc) (by kernel_rfl) ?_
  obtain ⟨A3, hA3⟩ : ∃ A_, cutA B cb 0 1 = A_ := ⟨_, rfl⟩
  obtain ⟨ys3, hys3⟩ : ∃ l_, (hs.take ((min ((hs.length : Nat) : Int) 300).toNat)).drop 0 = l_ := ⟨_, rfl⟩
  have hr3 : rowAt (D.int .i64) G (cutA B cb 0 1) ((hs.take ((min ((hs.length : Nat) : Int) 300).toNat)).drop 0) := rowAt_cut hy hlo3 hhi3 hyc
  have hl3 : ((min ((hs.length : Nat) : Int) 300).toNat) - 0 = ys3.length := by rw [← hys3, List.length_drop, List.length_take]; omega
  have hc3 : ys3.length ≤ cb - 0 := by omega
  have hm3 : cb - 0 ≤ maxLen := Nat.le_trans (Nat.sub_le _ _) hym
  rw [hys3, show cutA B cb 0 _ = A3 from hA3] at hr3
  rw [hA3, hl3]
  refine XD.take (i := 14) (l' := (lb 18 32767)) (oA B12 [1, 0] 14) (.own 2 3) QOk.ctxG (by kernel_rfl) (by kernel_rfl) (by kernel_rfl) (by kernel_rfl) (by kernel_rfl) ?_
  refine XD.toE ?_
  refine XE.norm [1, 2, 4, 17, 24, 25] [2] ⟨85, [(1, .v (.int .u8 from_)), (2, .own 2 0), (4, .v (.bool false)), (17, .v (.slice A2 ys2.length (ca - 0))), (24, .v (.slice A3 ys3.length (cb - 0))), (25, .own 2 3)], [(2, ⟨71, [.v (.int .i64 ms), .v (.int .i64 p), .v (.int .i64 st), .v (.slice A ws.length ca), .v (.slice B hs.length cb)]⟩)]⟩ (by kernel_rfl) ?_
  refine XE.one (i := 15) (l' := (lb 18 65535)) (oA B12 [1, 0] 15) (by kernel_rfl) (by kernel_rfl) ?_
  refine X.simple (by kernel_rfl) ?_
  refine X.back ?_
  refine XE.norm [1, 2, 4, 24] [2] ⟨85, [(1, .v (.int .u8 from_)), (2, .own 2 0), (4, .v (.bool false)), (24, .v (.slice A3 ys3.length (cb - 0)))], [(2, ⟨71, [.v (.int .i64 ms), .v (.int .i64 p), .v (.int .i64 st), .v (.slice A2 ys2.length (ca - 0)), .v (.slice B hs.length cb)]⟩)]⟩ (by kernel_rfl) ?_
  refine XE.one (i := 16) (l' := (lb 18 131071)) (oA B12 [1, 0] 16) (by kernel_rfl) (by kernel_rfl) ?_
  refine X.simple (by kernel_rfl) ?_
  refine X.back ?_
  refine XE.norm [1, 2, 4, 24, 26] [2] ⟨85, [(1, .v (.int .u8 from_)), (2, .own 2 0), (4, .v (.bool false)), (24, .v (.slice A3 ys3.length (cb - 0))), (26, .own 2 4)], [(2, ⟨71, [.v (.int .i64 ms), .v (.int .i64 p), .v (.int .i64 st), .v (.slice A2 ys2.length (ca - 0)), .v (.slice B hs.length cb)]⟩)]⟩ (by kernel_rfl) ?_
  refine XE.one (i := 17) (l' := (lb 18 262143)) (oA B12 [1, 0] 17) (by kernel_rfl) (by kernel_rfl) ?_
  refine X.simple (by kernel_rfl) ?_
  refine X.back ?_
  refine XE.done (by kernel_rfl) ?_
  refine X.run 4 [1, 2, 4, 27] [2] (.ops (aA B12 [1, 1, 0]) (oA B12 [1, 1, 0] 1 :: lA B12 [1, 1, 0] 2)) [.seq (cA B12 [1, 1, 1])] ⟨85, [(1, .v (.int .u8 from_)), (2, .own 2 0), (4, .v (.bool false)), (27, .v (.agg #[.int .i64 ms, .int .i64 p, .int .i64 st, .slice A2 ys2.length (ca - 0), .slice A3 ys3.length (cb - 0)]))], [(2, ⟨71, [.v (.int .i64 ms), .v (.int .i64 p), .v (.int .i64 st), .v (.slice A2 ys2.length (ca - 0)), .v (.slice A3 ys3.length (cb - 0))]⟩)]⟩ (by kernel_rfl) ?_
  have hm_ := cM_range ms
  have hcn_ := cN_range ys2
  have hp_ := cP_range ms p (cN_range ys2).2
  have hcs_ : 0 ≤ cS st ∧ cS st ≤ 1073741824 := by unfold cS; omega
  have hmn_ := mn_range ms hcn_.1 hcn_.2
  have hb_ := cW_range (ms := ms) (ws := ys2) (n := cN ys2)
  have hh_ := cH_range (hs := ys3) (n := cN ys2)
  have h256_ := (cN_range ys2).2
  refine X.callG (f := 34) (l := [.v (.agg #[.int .i64 ms, .int .i64 p, .int .i64 st, .slice A2 ys2.length (ca - 0), .slice A3 ys3.length (cb - 0)])]) [.agg #[.int .i64 ms, .int .i64 p, .int .i64 st, .slice A2 ys2.length (ca - 0), .slice A3 ys3.length (cb - 0)]] 183 (by kernel_rfl) (by kernel_rfl) (by kernel_rfl) (RClean_ok A2 A3 (ca - 0) (cb - 0) ms p st ys2 ys3 _ hr2 hr3 hc2 hc3 hm2 hm3) ?_
  rintro v4 G4 rows4 hG4 ⟨A4, c4, B4, d4, rfl, rfl⟩
  replace hx := hx.mono hG4.le
  replace hy := hy.mono hG4.le
  replace hr2 := hr2.mono hG4.le
  replace hr3 := hr3.mono hG4.le
  refine X.asR (R' := [(183, ⟨2, 1, .slice A4 (cN ys2) c4, cN ys2, (cW ms ys2 (cN ys2)).map (Value.int .i64)⟩), (184, ⟨2, 1, .slice B4 (cN ys2) d4, cN ys2, (cH ys3 (cN ys2)).map (Value.int .i64)⟩)]) rfl ?_
  refine X.tellR [183, 184] (R' := [(183, ⟨2, 1, .slice A4 (cN ys2) c4, cN ys2, (cW ms ys2 (cN ys2)).map (Value.int .i64)⟩), (184, ⟨2, 1, .slice B4 (cN ys2) d4, cN ys2, (cH ys3 (cN ys2)).map (Value.int .i64)⟩)]) rfl ?_
  refine X.capLe (i := 183) (q := ⟨2, 1, .slice A4 (cN ys2) c4, cN ys2, (cW ms ys2 (cN ys2)).map (Value.int .i64)⟩) (n := cN ys2) (c := c4) (A := A4) rfl rfl ?_
  intro hle5 hmx5
  refine X.freezeHd (i := 183) (n := cN ys2) (c := c4) (A := A4) (kd := .i64) (cW ms ys2 (cN ys2)) rfl rfl (fun x_ hx_ => by have h_ := cW_range x_ hx_; have h2_ := cM_range ms; simp only [IntKind.lo, IntKind.hi]; omega) (by kernel_rfl) (fun _ h => h) ?_
  intro G5 hG5 hr5
  replace hx := hx.mono hG5.le
  replace hy := hy.mono hG5.le
  replace hr2 := hr2.mono hG5.le
  replace hr3 := hr3.mono hG5.le
  refine X.tellR [184] (R' := [(184, ⟨2, 1, .slice B4 (cN ys2) d4, cN ys2, (cH ys3 (cN ys2)).map (Value.int .i64)⟩)]) rfl ?_
  refine X.capLe (i := 184) (q := ⟨2, 1, .slice B4 (cN ys2) d4, cN ys2, (cH ys3 (cN ys2)).map (Value.int .i64)⟩) (n := cN ys2) (c := d4) (A := B4) rfl rfl ?_
  intro hle6 hmx6
  refine X.freezeHd (i := 184) (n := cN ys2) (c := d4) (A := B4) (kd := .i64) (cH ys3 (cN ys2)) rfl rfl (fun x_ hx_ => by have h_ := cH_range x_ hx_; simp only [IntKind.lo, IntKind.hi]; omega) (by kernel_rfl) (fun _ h => h) ?_
  intro G6 hG6 hr6
  replace hx := hx.mono hG6.le
  replace hy := hy.mono hG6.le
  replace hr2 := hr2.mono hG6.le
  replace hr3 := hr3.mono hG6.le
  replace hr5 := hr5.mono hG6.le
  refine X.run 7 [1, 2, 4, 5, 29] [2, 5] (.ops (aA B12 [1, 1, 1, 0]) (oA B12 [1, 1, 1, 0] 1 :: lA B12 [1, 1, 1, 0] 2)) [.seq (cA B12 [1, 1, 1, 1])] ⟨85, [(1, .v (.int .u8 from_)), (2, .own 2 0), (4, .v (.bool false)), (5, .own 5 0), (29, .v (.agg #[.int .i64 ms, .int .i64 p, .int .i64 st, .slice A2 ys2.length (ca - 0), .slice A3 ys3.length (cb - 0)]))], [(2, ⟨71, [.v (.int .i64 ms), .v (.int .i64 p), .v (.int .i64 st), .v (.slice A2 ys2.length (ca - 0)), .v (.slice A3 ys3.length (cb - 0))]⟩), (5, ⟨71, [.v (.int .i64 (cM ms)), .v (.int .i64 (cP ms p (cN ys2))), .v (.int .i64 (cS st)), .v (.slice A4 (cN ys2) c4), .v (.slice B4 (cN ys2) d4)]⟩)]⟩ (by kernel_rfl) ?_
  refine X.callG (f := 45) (l := [.v (.agg #[.int .i64 ms, .int .i64 p, .int .i64 st, .slice A2 ys2.length (ca - 0), .slice A3 ys3.length (cb - 0)])]) [.agg #[.int .i64 ms, .int .i64 p, .int .i64 st, .slice A2 ys2.length (ca - 0), .slice A3 ys3.length (cb - 0)]] 0 (by kernel_rfl) (by kernel_rfl) (by kernel_rfl) (Ramp_ok A2 A3 (ca - 0) (cb - 0) ms p st ys2 ys3 _ hr2 hr3 hc2 hc3 hm2 hm3) ?_
  rintro v7 G7 rows7 hG7 ⟨rfl, rfl⟩
  replace hx := hx.mono hG7.le
  replace hy := hy.mono hG7.le
  replace hr2 := hr2.mono hG7.le
  replace hr3 := hr3.mono hG7.le
  replace hr5 := hr5.mono hG7.le
  replace hr6 := hr6.mono hG7.le
  have hcp1_ : 1 ≤ cP ms p (cN ys2) := by have h_ := hmn_; have h2_ := cP_lo ms (cN_range ys2).2; unfold cP; have h3_ : 2 * cM ms * (cN ys2 : Int) = 2 * (cM ms * (cN ys2 : Int)) := Int.mul_assoc _ _ _; omega
  have hrg_ := ram_ge (p := cP ms p (cN ys2)) hmn_.1 hcp1_
  refine X.run 9 [1, 2, 4, 5, 6, 33] [2, 5] (.ops (aA B12 [1, 1, 1, 1, 0, 0]) (oA B12 [1, 1, 1, 1, 0, 0] 3 :: lA B12 [1, 1, 1, 1, 0, 0] 4)) [.seq (cA B12 [1, 1, 1, 1, 0, 1]), .seq (cA B12 [1, 1, 1, 1, 1])] ⟨85, [(1, .v (.int .u8 from_)), (2, .own 2 0), (4, .v (.bool false)), (5, .own 5 0), (6, .v (.int .i64 (ramI (cP ms p (cN ys2)) (cM ms * (cN ys2 : Int))))), (33, .v (.bool (decide (ramI (cP ms p (cN ys2)) (cM ms * (cN ys2 : Int)) < 1))))], [(2, ⟨71, [.v (.int .i64 ms), .v (.int .i64 p), .v (.int .i64 st), .v (.slice A2 ys2.length (ca - 0)), .v (.slice A3 ys3.length (cb - 0))]⟩), (5, ⟨71, [.v (.int .i64 (cM ms)), .v (.int .i64 (cP ms p (cN ys2))), .v (.int .i64 (cS st)), .v (.slice A4 (cN ys2) c4), .v (.slice B4 (cN ys2) d4)]⟩)]⟩ (by kernel_rfl) ?_
  refine X.isFalse 33 rfl (decide_eq_false (by omega)) ?_
  refine X.run 5 [1, 2, 4, 5, 6, 36] [2, 5] (.code (cA B12 [1, 1, 1, 1, 0, 1])) [.seq (cA B12 [1, 1, 1, 1, 1])] ⟨85, [(1, .v (.int .u8 from_)), (2, .own 2 0), (4, .v (.bool false)), (5, .own 5 0), (6, .v (.int .i64 (ramI (cP ms p (cN ys2)) (cM ms * (cN ys2 : Int))))), (36, .v (.bool (decide (ramI (cP ms p (cN ys2)) (cM ms * (cN ys2 : Int)) > 400))))], [(2, ⟨71, [.v (.int .i64 ms), .v (.int .i64 p), .v (.int .i64 st), .v (.slice A2 ys2.length (ca - 0)), .v (.slice A3 ys3.length (cb - 0))]⟩), (5, ⟨71, [.v (.int .i64 (cM ms)), .v (.int .i64 (cP ms p (cN ys2))), .v (.int .i64 (cS st)), .v (.slice A4 (cN ys2) c4), .v (.slice B4 (cN ys2) d4)]⟩)]⟩ (by kernel_rfl) ?_
  refine X.split 36 rfl (fun h8 => ?_) (fun h8 => ?_)
  · -- slot 36: decide (ramI (cP ms p (cN ys2)) (cM ms * (cN ys2 : Int)) > 400) is True
    replace h8 : ramI (cP ms p (cN ys2)) (cM ms * (cN ys2 : Int)) > 400 := of_decide_eq_true h8
    refine X.run 6 [1, 2, 4, 5, 6, 39] [2, 5] (.ops (aA B12 [1, 1, 1, 1, 0, 1, 0, 0]) (oA B12 [1, 1, 1, 1, 0, 1, 0, 0] 3 :: lA B12 [1, 1, 1, 1, 0, 1, 0, 0] 4)) [.seq (cA B12 [1, 1, 1, 1, 0, 1, 0, 1]), .seq (cA B12 [1, 1, 1, 1, 1])] ⟨85, [(1, .v (.int .u8 from_)), (2, .own 2 0), (4, .v (.bool false)), (5, .own 5 0), (6, .v (.int .i64 (ramI (cP ms p (cN ys2)) (cM ms * (cN ys2 : Int))))), (39, .v (.bool (decide (ramI (cP ms p (cN ys2)) (cM ms * (cN ys2 : Int)) > 400))))], [(2, ⟨71, [.v (.int .i64 ms), .v (.int .i64 p), .v (.int .i64 st), .v (.slice A2 ys2.length (ca - 0)), .v (.slice A3 ys3.length (cb - 0))]⟩), (5, ⟨71, [.v (.int .i64 (cM ms)), .v (.int .i64 (cP ms p (cN ys2))), .v (.int .i64 (cS st)), .v (.slice A4 (cN ys2) c4), .v (.slice B4 (cN ys2) d4)]⟩)]⟩ (by kernel_rfl) ?_
    refine X.isTrue 39 rfl (decide_eq_true (by omega)) ?_
    refine X.callG (f := 38) (l := []) [] 0 (by kernel_rfl) (by kernel_rfl) (by kernel_rfl) (Works_ok _) ?_
    rintro v9 G9 rows9 hG9 ⟨rfl, rfl⟩
    replace hx := hx.mono hG9.le
    replace hy := hy.mono hG9.le
    replace hr2 := hr2.mono hG9.le
    replace hr3 := hr3.mono hG9.le
    replace hr5 := hr5.mono hG9.le
    replace hr6 := hr6.mono hG9.le
    refine X.run 6 [4] [] (.ex .ret) [] ⟨85, [(4, .v (.bool true))], []⟩ (by kernel_rfl) ?_
    refine doneG (.inl rfl) [.bool true] [] (by kernel_rfl) rfl rfl (((((hG4.trans hG5).trans hG6).trans hG7).trans hG9)) ?_
    -- end 1 (T)
    exact ⟨rfl, rfl⟩
  · -- slot 36: decide (ramI (cP ms p (cN ys2)) (cM ms * (cN ys2 : Int)) > 400) is False
    replace h8 : ¬ (ramI (cP ms p (cN ys2)) (cM ms * (cN ys2 : Int)) > 400) := of_decide_eq_false h8
    have hrp_ := rp_range (r := ramI (cP ms p (cN ys2)) (cM ms * (cN ys2 : Int))) (p := cP ms p (cN ys2)) (by omega) hp_
    refine X.run 8 [1, 4, 5, 6, 43, 45] [5] (.ops (aA B12 [1, 1, 1, 1, 1, 0]) (oA B12 [1, 1, 1, 1, 1, 0] 3 :: lA B12 [1, 1, 1, 1, 1, 0] 4)) [.seq (cA B12 [1, 1, 1, 1, 1, 1])] ⟨85, [(1, .v (.int .u8 from_)), (4, .v (.bool false)), (5, .own 5 0), (6, .v (.int .i64 (ramI (cP ms p (cN ys2)) (cM ms * (cN ys2 : Int))))), (43, .v (.agg #[.int .i64 ms, .int .i64 p, .int .i64 st, .slice A2 ys2.length (ca - 0), .slice A3 ys3.length (cb - 0)])), (45, .v (.int .i64 (IntKind.i64.wrap from_)))], [(5, ⟨71, [.v (.int .i64 (cM ms)), .v (.int .i64 (cP ms p (cN ys2))), .v (.int .i64 (cS st)), .v (.slice A4 (cN ys2) c4), .v (.slice B4 (cN ys2) d4)]⟩)]⟩ (by kernel_rfl) ?_
    refine X.known 45 (y := .v (.int .i64 from_)) rfl (congrArg (fun z_ => AV.v (.int .i64 z_)) (wi64 (by omega) (by omega))) ?_
    refine X.run 2 [1, 4, 5, 6, 43, 45, 47] [5] (.ops (aA B12 [1, 1, 1, 1, 1, 0]) (oA B12 [1, 1, 1, 1, 1, 0] 5 :: lA B12 [1, 1, 1, 1, 1, 0] 6)) [.seq (cA B12 [1, 1, 1, 1, 1, 1])] ⟨85, [(1, .v (.int .u8 from_)), (4, .v (.bool false)), (5, .own 5 0), (6, .v (.int .i64 (ramI (cP ms p (cN ys2)) (cM ms * (cN ys2 : Int))))), (43, .v (.agg #[.int .i64 ms, .int .i64 p, .int .i64 st, .slice A2 ys2.length (ca - 0), .slice A3 ys3.length (cb - 0)])), (45, .v (.int .i64 from_)), (47, .v (.int .i64 (IntKind.i64.wrap (2 * (ramI (cP ms p (cN ys2)) (cM ms * (cN ys2 : Int)))))))], [(5, ⟨71, [.v (.int .i64 (cM ms)), .v (.int .i64 (cP ms p (cN ys2))), .v (.int .i64 (cS st)), .v (.slice A4 (cN ys2) c4), .v (.slice B4 (cN ys2) d4)]⟩)]⟩ (by kernel_rfl) ?_
    refine X.known 47 (y := .v (.int .i64 (2 * (ramI (cP ms p (cN ys2)) (cM ms * (cN ys2 : Int)))))) rfl (congrArg (fun z_ => AV.v (.int .i64 z_)) (wi64 (by omega) (by omega))) ?_
    refine X.run 1 [1, 4, 5, 6, 43, 48] [5] (.ops (aA B12 [1, 1, 1, 1, 1, 0]) (oA B12 [1, 1, 1, 1, 1, 0] 6 :: lA B12 [1, 1, 1, 1, 1, 0] 7)) [.seq (cA B12 [1, 1, 1, 1, 1, 1])] ⟨85, [(1, .v (.int .u8 from_)), (4, .v (.bool false)), (5, .own 5 0), (6, .v (.int .i64 (ramI (cP ms p (cN ys2)) (cM ms * (cN ys2 : Int))))), (43, .v (.agg #[.int .i64 ms, .int .i64 p, .int .i64 st, .slice A2 ys2.length (ca - 0), .slice A3 ys3.length (cb - 0)])), (48, .v (.int .i64 (IntKind.i64.wrap (from_ + (2 * (ramI (cP ms p (cN ys2)) (cM ms * (cN ys2 : Int))))))))], [(5, ⟨71, [.v (.int .i64 (cM ms)), .v (.int .i64 (cP ms p (cN ys2))), .v (.int .i64 (cS st)), .v (.slice A4 (cN ys2) c4), .v (.slice B4 (cN ys2) d4)]⟩)]⟩ (by kernel_rfl) ?_
    refine X.known 48 (y := .v (.int .i64 (from_ + (2 * (ramI (cP ms p (cN ys2)) (cM ms * (cN ys2 : Int))))))) rfl (congrArg (fun z_ => AV.v (.int .i64 z_)) (wi64 (by omega) (by omega))) ?_
    refine X.callG (f := 33) (l := [.v (.agg #[.int .i64 ms, .int .i64 p, .int .i64 st, .slice A2 ys2.length (ca - 0), .slice A3 ys3.length (cb - 0)]), .v (.int .i64 (from_ + (2 * (ramI (cP ms p (cN ys2)) (cM ms * (cN ys2 : Int))))))]) [.agg #[.int .i64 ms, .int .i64 p, .int .i64 st, .slice A2 ys2.length (ca - 0), .slice A3 ys3.length (cb - 0)], .int .i64 (from_ + (2 * (ramI (cP ms p (cN ys2)) (cM ms * (cN ys2 : Int)))))] 190 (by kernel_rfl) (by kernel_rfl) (by kernel_rfl) (Run_ok A2 A3 (ca - 0) (cb - 0) ms p st ys2 ys3 (from_ + (2 * (ramI (cP ms p (cN ys2)) (cM ms * (cN ys2 : Int))))) _ hr2 hr3 hc2 hc3 hm2 hm3) ?_
    rintro v10 G10 rows10 hG10 ⟨A10, c10, B10, d10, rfl, rfl⟩
    replace hx := hx.mono hG10.le
    replace hy := hy.mono hG10.le
    replace hr2 := hr2.mono hG10.le
    replace hr3 := hr3.mono hG10.le
    replace hr5 := hr5.mono hG10.le
    replace hr6 := hr6.mono hG10.le
    refine X.asR (R' := [(190, ⟨2, 1, .slice A10 ((max 0 (min (from_ + (2 * (ramI (cP ms p (cN ys2)) (cM ms * (cN ys2 : Int))))) 2000)).toNat) c10, (max 0 (min (from_ + (2 * (ramI (cP ms p (cN ys2)) (cM ms * (cN ys2 : Int))))) 2000)).toNat, (qL (ms, p, st, ys2, ys3) (max 0 (min (from_ + (2 * (ramI (cP ms p (cN ys2)) (cM ms * (cN ys2 : Int))))) 2000)).toNat).map (Value.int .i64)⟩), (191, ⟨2, 1, .slice B10 ((max 0 (min (from_ + (2 * (ramI (cP ms p (cN ys2)) (cM ms * (cN ys2 : Int))))) 2000)).toNat) d10, (max 0 (min (from_ + (2 * (ramI (cP ms p (cN ys2)) (cM ms * (cN ys2 : Int))))) 2000)).toNat, (sL (ms, p, st, ys2, ys3) (max 0 (min (from_ + (2 * (ramI (cP ms p (cN ys2)) (cM ms * (cN ys2 : Int))))) 2000)).toNat).map (Value.int .i64)⟩)]) rfl ?_
    refine X.tellR [190, 191] (R' := [(190, ⟨2, 1, .slice A10 ((max 0 (min (from_ + (2 * (ramI (cP ms p (cN ys2)) (cM ms * (cN ys2 : Int))))) 2000)).toNat) c10, (max 0 (min (from_ + (2 * (ramI (cP ms p (cN ys2)) (cM ms * (cN ys2 : Int))))) 2000)).toNat, (qL (ms, p, st, ys2, ys3) (max 0 (min (from_ + (2 * (ramI (cP ms p (cN ys2)) (cM ms * (cN ys2 : Int))))) 2000)).toNat).map (Value.int .i64)⟩), (191, ⟨2, 1, .slice B10 ((max 0 (min (from_ + (2 * (ramI (cP ms p (cN ys2)) (cM ms * (cN ys2 : Int))))) 2000)).toNat) d10, (max 0 (min (from_ + (2 * (ramI (cP ms p (cN ys2)) (cM ms * (cN ys2 : Int))))) 2000)).toNat, (sL (ms, p, st, ys2, ys3) (max 0 (min (from_ + (2 * (ramI (cP ms p (cN ys2)) (cM ms * (cN ys2 : Int))))) 2000)).toNat).map (Value.int .i64)⟩)]) rfl ?_
    refine X.capLe (i := 190) (q := ⟨2, 1, .slice A10 ((max 0 (min (from_ + (2 * (ramI (cP ms p (cN ys2)) (cM ms * (cN ys2 : Int))))) 2000)).toNat) c10, (max 0 (min (from_ + (2 * (ramI (cP ms p (cN ys2)) (cM ms * (cN ys2 : Int))))) 2000)).toNat, (qL (ms, p, st, ys2, ys3) (max 0 (min (from_ + (2 * (ramI (cP ms p (cN ys2)) (cM ms * (cN ys2 : Int))))) 2000)).toNat).map (Value.int .i64)⟩) (n := (max 0 (min (from_ + (2 * (ramI (cP ms p (cN ys2)) (cM ms * (cN ys2 : Int))))) 2000)).toNat) (c := c10) (A := A10) rfl rfl ?_
    intro hle11 hmx11
    refine X.freezeHd (i := 190) (n := (max 0 (min (from_ + (2 * (ramI (cP ms p (cN ys2)) (cM ms * (cN ys2 : Int))))) 2000)).toNat) (c := c10) (A := A10) (kd := .i64) (qL (ms, p, st, ys2, ys3) (max 0 (min (from_ + (2 * (ramI (cP ms p (cN ys2)) (cM ms * (cN ys2 : Int))))) 2000)).toNat) rfl rfl (qL_range) (by kernel_rfl) (fun _ h => h) ?_
    intro G11 hG11 hr11
    replace hx := hx.mono hG11.le
    replace hy := hy.mono hG11.le
    replace hr2 := hr2.mono hG11.le
    replace hr3 := hr3.mono hG11.le
    replace hr5 := hr5.mono hG11.le
    replace hr6 := hr6.mono hG11.le
    have hlq_ : (qL (ms, p, st, ys2, ys3) (max 0 (min (from_ + (2 * (ramI (cP ms p (cN ys2)) (cM ms * (cN ys2 : Int))))) 2000)).toNat).length = (max 0 (min (from_ + (2 * (ramI (cP ms p (cN ys2)) (cM ms * (cN ys2 : Int))))) 2000)).toNat := qL_len _ _
    refine X.tellR [191] (R' := [(191, ⟨2, 1, .slice B10 ((max 0 (min (from_ + (2 * (ramI (cP ms p (cN ys2)) (cM ms * (cN ys2 : Int))))) 2000)).toNat) d10, (max 0 (min (from_ + (2 * (ramI (cP ms p (cN ys2)) (cM ms * (cN ys2 : Int))))) 2000)).toNat, (sL (ms, p, st, ys2, ys3) (max 0 (min (from_ + (2 * (ramI (cP ms p (cN ys2)) (cM ms * (cN ys2 : Int))))) 2000)).toNat).map (Value.int .i64)⟩)]) rfl ?_
    refine X.capLe (i := 191) (q := ⟨2, 1, .slice B10 ((max 0 (min (from_ + (2 * (ramI (cP ms p (cN ys2)) (cM ms * (cN ys2 : Int))))) 2000)).toNat) d10, (max 0 (min (from_ + (2 * (ramI (cP ms p (cN ys2)) (cM ms * (cN ys2 : Int))))) 2000)).toNat, (sL (ms, p, st, ys2, ys3) (max 0 (min (from_ + (2 * (ramI (cP ms p (cN ys2)) (cM ms * (cN ys2 : Int))))) 2000)).toNat).map (Value.int .i64)⟩) (n := (max 0 (min (from_ + (2 * (ramI (cP ms p (cN ys2)) (cM ms * (cN ys2 : Int))))) 2000)).toNat) (c := d10) (A := B10) rfl rfl ?_
    intro hle12 hmx12
    refine X.freezeHd (i := 191) (n := (max 0 (min (from_ + (2 * (ramI (cP ms p (cN ys2)) (cM ms * (cN ys2 : Int))))) 2000)).toNat) (c := d10) (A := B10) (kd := .i64) (sL (ms, p, st, ys2, ys3) (max 0 (min (from_ + (2 * (ramI (cP ms p (cN ys2)) (cM ms * (cN ys2 : Int))))) 2000)).toNat) rfl rfl (sL_range) (by kernel_rfl) (fun _ h => h) ?_
    intro G12 hG12 hr12
    replace hx := hx.mono hG12.le
    replace hy := hy.mono hG12.le
    replace hr2 := hr2.mono hG12.le
    replace hr3 := hr3.mono hG12.le
    replace hr5 := hr5.mono hG12.le
    replace hr6 := hr6.mono hG12.le
    replace hr11 := hr11.mono hG12.le
    have hls_ : (sL (ms, p, st, ys2, ys3) (max 0 (min (from_ + (2 * (ramI (cP ms p (cN ys2)) (cM ms * (cN ys2 : Int))))) 2000)).toNat).length = (max 0 (min (from_ + (2 * (ramI (cP ms p (cN ys2)) (cM ms * (cN ys2 : Int))))) 2000)).toNat := sL_len _ _
    refine X.run 14 [1, 4, 5, 6, 8, 53, 55] [5] (.ops (aA B12 [1, 1, 1, 1, 1, 1, 0, 0]) (oA B12 [1, 1, 1, 1, 1, 1, 0, 0] 4 :: lA B12 [1, 1, 1, 1, 1, 1, 0, 0] 5)) [.seq (cA B12 [1, 1, 1, 1, 1, 1, 0, 1]), .seq (cA B12 [1, 1, 1, 1, 1, 1, 1])] ⟨85, [(1, .v (.int .u8 from_)), (4, .v (.bool false)), (5, .own 5 0), (6, .v (.int .i64 (ramI (cP ms p (cN ys2)) (cM ms * (cN ys2 : Int))))), (8, .v (.slice B10 ((max 0 (min (from_ + (2 * (ramI (cP ms p (cN ys2)) (cM ms * (cN ys2 : Int))))) 2000)).toNat) d10)), (53, .v (.int .i64 (((max 0 (min (from_ + (2 * (ramI (cP ms p (cN ys2)) (cM ms * (cN ys2 : Int))))) 2000)).toNat : Nat) : Int))), (55, .v (.int .i64 (IntKind.i64.wrap from_)))], [(5, ⟨71, [.v (.int .i64 (cM ms)), .v (.int .i64 (cP ms p (cN ys2))), .v (.int .i64 (cS st)), .v (.slice A4 (cN ys2) c4), .v (.slice B4 (cN ys2) d4)]⟩)]⟩ (by kernel_rfl) ?_
    refine X.known 55 (y := .v (.int .i64 from_)) rfl (congrArg (fun z_ => AV.v (.int .i64 z_)) (wi64 (by omega) (by omega))) ?_
    refine X.run 2 [1, 4, 5, 6, 8, 53, 55, 57] [5] (.ops (aA B12 [1, 1, 1, 1, 1, 1, 0, 0]) (oA B12 [1, 1, 1, 1, 1, 1, 0, 0] 6 :: lA B12 [1, 1, 1, 1, 1, 1, 0, 0] 7)) [.seq (cA B12 [1, 1, 1, 1, 1, 1, 0, 1]), .seq (cA B12 [1, 1, 1, 1, 1, 1, 1])] ⟨85, [(1, .v (.int .u8 from_)), (4, .v (.bool false)), (5, .own 5 0), (6, .v (.int .i64 (ramI (cP ms p (cN ys2)) (cM ms * (cN ys2 : Int))))), (8, .v (.slice B10 ((max 0 (min (from_ + (2 * (ramI (cP ms p (cN ys2)) (cM ms * (cN ys2 : Int))))) 2000)).toNat) d10)), (53, .v (.int .i64 (((max 0 (min (from_ + (2 * (ramI (cP ms p (cN ys2)) (cM ms * (cN ys2 : Int))))) 2000)).toNat : Nat) : Int))), (55, .v (.int .i64 from_)), (57, .v (.int .i64 (IntKind.i64.wrap (2 * (ramI (cP ms p (cN ys2)) (cM ms * (cN ys2 : Int)))))))], [(5, ⟨71, [.v (.int .i64 (cM ms)), .v (.int .i64 (cP ms p (cN ys2))), .v (.int .i64 (cS st)), .v (.slice A4 (cN ys2) c4), .v (.slice B4 (cN ys2) d4)]⟩)]⟩ (by kernel_rfl) ?_
    refine X.known 57 (y := .v (.int .i64 (2 * (ramI (cP ms p (cN ys2)) (cM ms * (cN ys2 : Int)))))) rfl (congrArg (fun z_ => AV.v (.int .i64 z_)) (wi64 (by omega) (by omega))) ?_
    refine X.run 1 [1, 4, 5, 6, 8, 53, 58] [5] (.ops (aA B12 [1, 1, 1, 1, 1, 1, 0, 0]) (oA B12 [1, 1, 1, 1, 1, 1, 0, 0] 7 :: lA B12 [1, 1, 1, 1, 1, 1, 0, 0] 8)) [.seq (cA B12 [1, 1, 1, 1, 1, 1, 0, 1]), .seq (cA B12 [1, 1, 1, 1, 1, 1, 1])] ⟨85, [(1, .v (.int .u8 from_)), (4, .v (.bool false)), (5, .own 5 0), (6, .v (.int .i64 (ramI (cP ms p (cN ys2)) (cM ms * (cN ys2 : Int))))), (8, .v (.slice B10 ((max 0 (min (from_ + (2 * (ramI (cP ms p (cN ys2)) (cM ms * (cN ys2 : Int))))) 2000)).toNat) d10)), (53, .v (.int .i64 (((max 0 (min (from_ + (2 * (ramI (cP ms p (cN ys2)) (cM ms * (cN ys2 : Int))))) 2000)).toNat : Nat) : Int))), (58, .v (.int .i64 (IntKind.i64.wrap (from_ + (2 * (ramI (cP ms p (cN ys2)) (cM ms * (cN ys2 : Int))))))))], [(5, ⟨71, [.v (.int .i64 (cM ms)), .v (.int .i64 (cP ms p (cN ys2))), .v (.int .i64 (cS st)), .v (.slice A4 (cN ys2) c4), .v (.slice B4 (cN ys2) d4)]⟩)]⟩ (by kernel_rfl) ?_
    refine X.known 58 (y := .v (.int .i64 (from_ + (2 * (ramI (cP ms p (cN ys2)) (cM ms * (cN ys2 : Int))))))) rfl (congrArg (fun z_ => AV.v (.int .i64 z_)) (wi64 (by omega) (by omega))) ?_
    refine X.run 3 [1, 4, 5, 6, 8, 59] [5] (.code (cA B12 [1, 1, 1, 1, 1, 1, 0, 1])) [.seq (cA B12 [1, 1, 1, 1, 1, 1, 1])] ⟨85, [(1, .v (.int .u8 from_)), (4, .v (.bool false)), (5, .own 5 0), (6, .v (.int .i64 (ramI (cP ms p (cN ys2)) (cM ms * (cN ys2 : Int))))), (8, .v (.slice B10 ((max 0 (min (from_ + (2 * (ramI (cP ms p (cN ys2)) (cM ms * (cN ys2 : Int))))) 2000)).toNat) d10)), (59, .v (.bool ((((max 0 (min (from_ + (2 * (ramI (cP ms p (cN ys2)) (cM ms * (cN ys2 : Int))))) 2000)).toNat : Nat) : Int) != (from_ + (2 * (ramI (cP ms p (cN ys2)) (cM ms * (cN ys2 : Int))))))))], [(5, ⟨71, [.v (.int .i64 (cM ms)), .v (.int .i64 (cP ms p (cN ys2))), .v (.int .i64 (cS st)), .v (.slice A4 (cN ys2) c4), .v (.slice B4 (cN ys2) d4)]⟩)]⟩ (by kernel_rfl) ?_
    refine X.isFalse 59 rfl (by simp; omega) ?_
    refine X.run 13 [4, 5, 6, 8, 9, 61] [5] (.ops (aA B12 [1, 1, 1, 1, 1, 1, 1, 1, 0, 0]) (oA B12 [1, 1, 1, 1, 1, 1, 1, 1, 0, 0] 2 :: lA B12 [1, 1, 1, 1, 1, 1, 1, 1, 0, 0] 3)) [.seq (cA B12 [1, 1, 1, 1, 1, 1, 1, 1, 0, 1]), .seq (cA B12 [1, 1, 1, 1, 1, 1, 1, 1, 1])] ⟨85, [(4, .v (.bool false)), (5, .own 5 0), (6, .v (.int .i64 (ramI (cP ms p (cN ys2)) (cM ms * (cN ys2 : Int))))), (8, .v (.slice B10 ((max 0 (min (from_ + (2 * (ramI (cP ms p (cN ys2)) (cM ms * (cN ys2 : Int))))) 2000)).toNat) d10)), (9, .v (.int .i64 0)), (61, .v (.int .i64 (IntKind.i64.wrap from_)))], [(5, ⟨71, [.v (.int .i64 (cM ms)), .v (.int .i64 (cP ms p (cN ys2))), .v (.int .i64 (cS st)), .v (.slice A4 (cN ys2) c4), .v (.slice B4 (cN ys2) d4)]⟩)]⟩ (by kernel_rfl) ?_
    refine X.known 61 (y := .v (.int .i64 from_)) rfl (congrArg (fun z_ => AV.v (.int .i64 z_)) (wi64 (by omega) (by omega))) ?_
    refine X.run 4 [4, 5, 6, 8, 9, 10] [5] (.code (cA B12 [1, 1, 1, 1, 1, 1, 1, 1, 0, 1, 0])) [.blk 0, .seq (cA B12 [1, 1, 1, 1, 1, 1, 1, 1, 1])] ⟨85, [(4, .v (.bool false)), (5, .own 5 0), (6, .v (.int .i64 (ramI (cP ms p (cN ys2)) (cM ms * (cN ys2 : Int))))), (8, .v (.slice B10 ((max 0 (min (from_ + (2 * (ramI (cP ms p (cN ys2)) (cM ms * (cN ys2 : Int))))) 2000)).toNat) d10)), (9, .v (.int .i64 0)), (10, .v (.int .i64 from_))], [(5, ⟨71, [.v (.int .i64 (cM ms)), .v (.int .i64 (cP ms p (cN ys2))), .v (.int .i64 (cS st)), .v (.slice A4 (cN ys2) c4), .v (.slice B4 (cN ys2) d4)]⟩)]⟩ (by kernel_rfl) ?_
    have hnN_ : (((max 0 (min (from_ + (2 * (ramI (cP ms p (cN ys2)) (cM ms * (cN ys2 : Int))))) 2000)).toNat : Nat) : Int) = from_ + 2 * ramI (cP ms p (cN ys2)) (cM ms * (cN ys2 : Int)) := by omega
    refine X.loopJ (fun m s R' G' => ∃ (q i : Int), s = ⟨85, [(4, .v (.bool false)), (5, .own 5 0), (6, .v (.int .i64 (ramI (cP ms p (cN ys2)) (cM ms * (cN ys2 : Int))))), (8, .v (.slice B10 ((max 0 (min (from_ + (2 * (ramI (cP ms p (cN ys2)) (cM ms * (cN ys2 : Int))))) 2000)).toNat) d10)), (9, .v (.int .i64 q)), (10, .v (.int .i64 i))], [(5, ⟨71, [.v (.int .i64 (cM ms)), .v (.int .i64 (cP ms p (cN ys2))), .v (.int .i64 (cS st)), .v (.slice A4 (cN ys2) c4), .v (.slice B4 (cN ys2) d4)]⟩)]⟩ ∧ R' = [] ∧ G12 = G' ∧ (from_ ≤ i ∧ i ≤ from_ + 2 * ramI (cP ms p (cN ys2)) (cM ms * (cN ys2 : Int)) ∧ 0 ≤ q ∧ q ≤ i * 1073741824 ∧ lowS (cP ms p (cN ys2)) (from_ + ramI (cP ms p (cN ys2)) (cM ms * (cN ys2 : Int))) i ≤ 2 * q) ∧ m = ((((max 0 (min (from_ + (2 * (ramI (cP ms p (cN ys2)) (cM ms * (cN ys2 : Int))))) 2000)).toNat : Nat) : Int) - i).toNat) _ ⟨0, from_, rfl, rfl, rfl, ⟨by omega, by omega, by omega, by omega, by unfold lowS; rw [show max 0 (from_ - (from_ + ramI (cP ms p (cN ys2)) (cM ms * (cN ys2 : Int)))) = 0 by omega]; omega⟩, rfl⟩ ?_
    rintro m13 s13 R13 G13 ⟨q, i, rfl, rfl, rfl, hF13, rfl⟩ J13 hJ13
    obtain ⟨hi0, hi1, hq0_, hq1_, hlo_⟩ := hF13
    have hsr_ := sR_range (itR i.toNat (ms, p, st, ys2, ys3))
    refine X.run 9 [4, 5, 6, 8, 9, 10, 65] [5] (.code (cA B12 [1, 1, 1, 1, 1, 1, 1, 1, 0, 1, 0, 0, 0, 1])) [.seq (cA B12 [1, 1, 1, 1, 1, 1, 1, 1, 0, 1, 0, 0, 1]), .loop J13, .blk 0, .seq (cA B12 [1, 1, 1, 1, 1, 1, 1, 1, 1])] ⟨85, [(4, .v (.bool false)), (5, .own 5 0), (6, .v (.int .i64 (ramI (cP ms p (cN ys2)) (cM ms * (cN ys2 : Int))))), (8, .v (.slice B10 ((max 0 (min (from_ + (2 * (ramI (cP ms p (cN ys2)) (cM ms * (cN ys2 : Int))))) 2000)).toNat) d10)), (9, .v (.int .i64 q)), (10, .v (.int .i64 i)), (65, .v (.bool (decide (i < (((max 0 (min (from_ + (2 * (ramI (cP ms p (cN ys2)) (cM ms * (cN ys2 : Int))))) 2000)).toNat : Nat) : Int)))))], [(5, ⟨71, [.v (.int .i64 (cM ms)), .v (.int .i64 (cP ms p (cN ys2))), .v (.int .i64 (cS st)), .v (.slice A4 (cN ys2) c4), .v (.slice B4 (cN ys2) d4)]⟩)]⟩ (by kernel_rfl) ?_
    refine X.split 65 rfl (fun h14 => ?_) (fun h14 => ?_)
    · -- slot 65: decide (i < (((max 0 (min (from_ + (2 * (ramI (cP ms p (cN ys2)) (cM ms * (cN ys2 : Int))))) 2000)).toNat : Nat) : Int)) is True
      replace h14 : i < (((max 0 (min (from_ + (2 * (ramI (cP ms p (cN ys2)) (cM ms * (cN ys2 : Int))))) 2000)).toNat : Nat) : Int) := of_decide_eq_true h14
      have hsb_ := hsr_
      rw [← sL_at (x := (ms, p, st, ys2, ys3)) (n := (max 0 (min (from_ + (2 * (ramI (cP ms p (cN ys2)) (cM ms * (cN ys2 : Int))))) 2000)).toNat) (j := i.toNat) (by omega)] at hsb_
      refine X.run 9 [4, 5, 6, 8, 9, 10, 68, 69, 70] [5] (.ops (aA B12 [1, 1, 1, 1, 1, 1, 1, 1, 0, 1, 0, 0, 1, 0, 0]) (oA B12 [1, 1, 1, 1, 1, 1, 1, 1, 0, 1, 0, 0, 1, 0, 0] 3 :: lA B12 [1, 1, 1, 1, 1, 1, 1, 1, 0, 1, 0, 0, 1, 0, 0] 4)) [.blk 1, .seq (cA B12 [1, 1, 1, 1, 1, 1, 1, 1, 0, 1, 0, 0, 1, 1]), .loop J13, .blk 0, .seq (cA B12 [1, 1, 1, 1, 1, 1, 1, 1, 1])] ⟨85, [(4, .v (.bool false)), (5, .own 5 0), (6, .v (.int .i64 (ramI (cP ms p (cN ys2)) (cM ms * (cN ys2 : Int))))), (8, .v (.slice B10 ((max 0 (min (from_ + (2 * (ramI (cP ms p (cN ys2)) (cM ms * (cN ys2 : Int))))) 2000)).toNat) d10)), (9, .v (.int .i64 q)), (10, .v (.int .i64 i)), (68, .v (.int .i64 q)), (69, .v (.slice B10 ((max 0 (min (from_ + (2 * (ramI (cP ms p (cN ys2)) (cM ms * (cN ys2 : Int))))) 2000)).toNat) d10)), (70, .v (.int .i64 i))], [(5, ⟨71, [.v (.int .i64 (cM ms)), .v (.int .i64 (cP ms p (cN ys2))), .v (.int .i64 (cS st)), .v (.slice A4 (cN ys2) c4), .v (.slice B4 (cN ys2) d4)]⟩)]⟩ (by kernel_rfl) ?_
      have b15 : (0 : Int) ≤ i := by omega
      have b16 : i < (((max 0 (min (from_ + (2 * (ramI (cP ms p (cN ys2)) (cM ms * (cN ys2 : Int))))) 2000)).toNat : Nat) : Int) := by omega
      refine X.index (t := 22) (e := 2) (sz := 1) (A := B10) (n := (max 0 (min (from_ + (2 * (ramI (cP ms p (cN ys2)) (cM ms * (cN ys2 : Int))))) 2000)).toNat) (c := d10) (ki := .i64) (i := i) (x := .tmp 69) (ix := .tmp 70) (by kernel_rfl) (by kernel_rfl) (by kernel_rfl) (by kernel_rfl) (by kernel_rfl) (by kernel_rfl) b15 b16 (fun _ _ => rowAt.so hr12 (by omega)) ?_
      obtain ⟨at17, lo17, hi17⟩ := At.int [] hr12 ((i).toNat) (by omega)
      simp only [IntKind.lo, IntKind.hi] at lo17 hi17
      refine X.run 0 [4, 5, 6, 8, 9, 10, 68, 71] [5] (.ops (aA B12 [1, 1, 1, 1, 1, 1, 1, 1, 0, 1, 0, 0, 1, 0, 0]) (oA B12 [1, 1, 1, 1, 1, 1, 1, 1, 0, 1, 0, 0, 1, 0, 0] 4 :: lA B12 [1, 1, 1, 1, 1, 1, 1, 1, 0, 1, 0, 0, 1, 0, 0] 5)) [.blk 1, .seq (cA B12 [1, 1, 1, 1, 1, 1, 1, 1, 0, 1, 0, 0, 1, 1]), .loop J13, .blk 0, .seq (cA B12 [1, 1, 1, 1, 1, 1, 1, 1, 1])] ⟨85, [(4, .v (.bool false)), (5, .own 5 0), (6, .v (.int .i64 (ramI (cP ms p (cN ys2)) (cM ms * (cN ys2 : Int))))), (8, .v (.slice B10 ((max 0 (min (from_ + (2 * (ramI (cP ms p (cN ys2)) (cM ms * (cN ys2 : Int))))) 2000)).toNat) d10)), (9, .v (.int .i64 q)), (10, .v (.int .i64 i)), (68, .v (.int .i64 q)), (71, .v (elt B10 ((i).toNat * 1)))], [(5, ⟨71, [.v (.int .i64 (cM ms)), .v (.int .i64 (cP ms p (cN ys2))), .v (.int .i64 (cS st)), .v (.slice A4 (cN ys2) c4), .v (.slice B4 (cN ys2) d4)]⟩)]⟩ (by kernel_rfl) ?_
      refine X.load (t := 2) (A := B10) (j := (i).toNat * 1) (x := .tmp 71) (z := .int .i64 ((sL (ms, p, st, ys2, ys3) (max 0 (min (from_ + (2 * (ramI (cP ms p (cN ys2)) (cM ms * (cN ys2 : Int))))) 2000)).toNat).getD ((i).toNat) 0)) [.int .i64 ((sL (ms, p, st, ys2, ys3) (max 0 (min (from_ + (2 * (ramI (cP ms p (cN ys2)) (cM ms * (cN ys2 : Int))))) 2000)).toNat).getD ((i).toNat) 0)] (by kernel_rfl) (by kernel_rfl) at17 (by kernel_rfl) (by kernel_rfl) ?_
      refine X.run 1 [4, 5, 6, 8, 9, 10, 73] [5] (.ops (aA B12 [1, 1, 1, 1, 1, 1, 1, 1, 0, 1, 0, 0, 1, 0, 0]) (oA B12 [1, 1, 1, 1, 1, 1, 1, 1, 0, 1, 0, 0, 1, 0, 0] 6 :: lA B12 [1, 1, 1, 1, 1, 1, 1, 1, 0, 1, 0, 0, 1, 0, 0] 7)) [.blk 1, .seq (cA B12 [1, 1, 1, 1, 1, 1, 1, 1, 0, 1, 0, 0, 1, 1]), .loop J13, .blk 0, .seq (cA B12 [1, 1, 1, 1, 1, 1, 1, 1, 1])] ⟨85, [(4, .v (.bool false)), (5, .own 5 0), (6, .v (.int .i64 (ramI (cP ms p (cN ys2)) (cM ms * (cN ys2 : Int))))), (8, .v (.slice B10 ((max 0 (min (from_ + (2 * (ramI (cP ms p (cN ys2)) (cM ms * (cN ys2 : Int))))) 2000)).toNat) d10)), (9, .v (.int .i64 q)), (10, .v (.int .i64 i)), (73, .v (.int .i64 (IntKind.i64.wrap (q + ((sL (ms, p, st, ys2, ys3) (max 0 (min (from_ + (2 * (ramI (cP ms p (cN ys2)) (cM ms * (cN ys2 : Int))))) 2000)).toNat).getD ((i).toNat) 0)))))], [(5, ⟨71, [.v (.int .i64 (cM ms)), .v (.int .i64 (cP ms p (cN ys2))), .v (.int .i64 (cS st)), .v (.slice A4 (cN ys2) c4), .v (.slice B4 (cN ys2) d4)]⟩)]⟩ (by kernel_rfl) ?_
      refine X.known 73 (y := .v (.int .i64 (q + ((sL (ms, p, st, ys2, ys3) (max 0 (min (from_ + (2 * (ramI (cP ms p (cN ys2)) (cM ms * (cN ys2 : Int))))) 2000)).toNat).getD ((i).toNat) 0)))) rfl (congrArg (fun z_ => AV.v (.int .i64 z_)) (wi64 (by omega) (by omega))) ?_
      refine X.run 9 [4, 5, 6, 8, 9, 10] [5] (.ex .normal) [.loop J13, .blk 0, .seq (cA B12 [1, 1, 1, 1, 1, 1, 1, 1, 1])] ⟨85, [(4, .v (.bool false)), (5, .own 5 0), (6, .v (.int .i64 (ramI (cP ms p (cN ys2)) (cM ms * (cN ys2 : Int))))), (8, .v (.slice B10 ((max 0 (min (from_ + (2 * (ramI (cP ms p (cN ys2)) (cM ms * (cN ys2 : Int))))) 2000)).toNat) d10)), (9, .v (.int .i64 (q + ((sL (ms, p, st, ys2, ys3) (max 0 (min (from_ + (2 * (ramI (cP ms p (cN ys2)) (cM ms * (cN ys2 : Int))))) 2000)).toNat).getD ((i).toNat) 0)))), (10, .v (.int .i64 (IntKind.i64.wrap (i + 1))))], [(5, ⟨71, [.v (.int .i64 (cM ms)), .v (.int .i64 (cP ms p (cN ys2))), .v (.int .i64 (cS st)), .v (.slice A4 (cN ys2) c4), .v (.slice B4 (cN ys2) d4)]⟩)]⟩ (by kernel_rfl) ?_
      -- again (FT)
      have e1 : IntKind.i64.wrap (i + 1) = i + 1 := wi64 (by omega) (by omega)
      have hsa_ := sL_at (x := (ms, p, st, ys2, ys3)) (n := (max 0 (min (from_ + (2 * (ramI (cP ms p (cN ys2)) (cM ms * (cN ys2 : Int))))) 2000)).toNat) (j := i.toNat) (by omega)
      rw [← hsa_] at hsr_
      have hst_ := lowS_step (s := (sL (ms, p, st, ys2, ys3) (max 0 (min (from_ + (2 * (ramI (cP ms p (cN ys2)) (cM ms * (cN ys2 : Int))))) 2000)).toNat).getD i.toNat 0) (by omega) hlo_ hsr_.1 (fun ha_ => by rw [hsa_]; exact sR_half (ms, p, st, ys2, ys3) (a := from_.toNat) (r := (ramI (cP ms p (cN ys2)) (cM ms * (cN ys2 : Int))).toNat) (Int.toNat_of_nonneg (by omega)) (by omega))
      exact X.again (hJ13 _ _ _ _ ⟨q + ((sL (ms, p, st, ys2, ys3) (max 0 (min (from_ + (2 * (ramI (cP ms p (cN ys2)) (cM ms * (cN ys2 : Int))))) 2000)).toNat).getD ((i).toNat) 0), IntKind.i64.wrap (i + 1), rfl, rfl, rfl, ⟨by omega, by omega, by omega, by omega, by rw [e1]; exact hst_⟩, rfl⟩ (by rw [e1]; omega))
    · -- slot 65: decide (i < (((max 0 (min (from_ + (2 * (ramI (cP ms p (cN ys2)) (cM ms * (cN ys2 : Int))))) 2000)).toNat : Nat) : Int)) is False
      replace h14 : ¬ (i < (((max 0 (min (from_ + (2 * (ramI (cP ms p (cN ys2)) (cM ms * (cN ys2 : Int))))) 2000)).toNat : Nat) : Int)) := of_decide_eq_false h14
      refine X.run 10 [4, 5, 6, 75] [5] (.ops (aA B12 [1, 1, 1, 1, 1, 1, 1, 1, 1, 0]) (oA B12 [1, 1, 1, 1, 1, 1, 1, 1, 1, 0] 2 :: lA B12 [1, 1, 1, 1, 1, 1, 1, 1, 1, 0] 3)) [.seq (cA B12 [1, 1, 1, 1, 1, 1, 1, 1, 1, 1])] ⟨85, [(4, .v (.bool false)), (5, .own 5 0), (6, .v (.int .i64 (ramI (cP ms p (cN ys2)) (cM ms * (cN ys2 : Int))))), (75, .v (.int .i64 (IntKind.i64.wrap (4 * q))))], [(5, ⟨71, [.v (.int .i64 (cM ms)), .v (.int .i64 (cP ms p (cN ys2))), .v (.int .i64 (cS st)), .v (.slice A4 (cN ys2) c4), .v (.slice B4 (cN ys2) d4)]⟩)]⟩ (by kernel_rfl) ?_
      refine X.known 75 (y := .v (.int .i64 (4 * q))) rfl (congrArg (fun z_ => AV.v (.int .i64 z_)) (wi64 (by omega) (by omega))) ?_
      refine X.run 2 [4, 5, 75, 77] [5] (.ops (aA B12 [1, 1, 1, 1, 1, 1, 1, 1, 1, 0]) (oA B12 [1, 1, 1, 1, 1, 1, 1, 1, 1, 0] 4 :: lA B12 [1, 1, 1, 1, 1, 1, 1, 1, 1, 0] 5)) [.seq (cA B12 [1, 1, 1, 1, 1, 1, 1, 1, 1, 1])] ⟨85, [(4, .v (.bool false)), (5, .own 5 0), (75, .v (.int .i64 (4 * q))), (77, .v (.int .i64 (IntKind.i64.wrap (2 * (ramI (cP ms p (cN ys2)) (cM ms * (cN ys2 : Int)))))))], [(5, ⟨71, [.v (.int .i64 (cM ms)), .v (.int .i64 (cP ms p (cN ys2))), .v (.int .i64 (cS st)), .v (.slice A4 (cN ys2) c4), .v (.slice B4 (cN ys2) d4)]⟩)]⟩ (by kernel_rfl) ?_
      refine X.known 77 (y := .v (.int .i64 (2 * (ramI (cP ms p (cN ys2)) (cM ms * (cN ys2 : Int)))))) rfl (congrArg (fun z_ => AV.v (.int .i64 z_)) (wi64 (by omega) (by omega))) ?_
      refine X.run 3 [4, 75, 80] [] (.ops (aA B12 [1, 1, 1, 1, 1, 1, 1, 1, 1, 0]) (oA B12 [1, 1, 1, 1, 1, 1, 1, 1, 1, 0] 7 :: lA B12 [1, 1, 1, 1, 1, 1, 1, 1, 1, 0] 8)) [.seq (cA B12 [1, 1, 1, 1, 1, 1, 1, 1, 1, 1])] ⟨85, [(4, .v (.bool false)), (75, .v (.int .i64 (4 * q))), (80, .v (.int .i64 (IntKind.i64.wrap ((2 * (ramI (cP ms p (cN ys2)) (cM ms * (cN ys2 : Int)))) * (cP ms p (cN ys2))))))], []⟩ (by kernel_rfl) ?_
      refine X.known 80 (y := .v (.int .i64 ((2 * (ramI (cP ms p (cN ys2)) (cM ms * (cN ys2 : Int)))) * (cP ms p (cN ys2))))) rfl (congrArg (fun z_ => AV.v (.int .i64 z_)) (wi64 (by omega) (by omega))) ?_
      refine X.run 2 [4, 82] [] (.ops (aA B12 [1, 1, 1, 1, 1, 1, 1, 1, 1, 0]) (oA B12 [1, 1, 1, 1, 1, 1, 1, 1, 1, 0] 9 :: lA B12 [1, 1, 1, 1, 1, 1, 1, 1, 1, 0] 10)) [.seq (cA B12 [1, 1, 1, 1, 1, 1, 1, 1, 1, 1])] ⟨85, [(4, .v (.bool false)), (82, .v (.bool (decide (4 * q ≥ (2 * (ramI (cP ms p (cN ys2)) (cM ms * (cN ys2 : Int)))) * (cP ms p (cN ys2))))))], []⟩ (by kernel_rfl) ?_
      refine X.isTrue 82 rfl (decide_eq_true (by rw [show i = from_ + 2 * ramI (cP ms p (cN ys2)) (cM ms * (cN ys2 : Int)) by omega] at hlo_; have hf_ := low_end (p := cP ms p (cN ys2)) (a := from_) (r := ramI (cP ms p (cN ys2)) (cM ms * (cN ys2 : Int))) (q := q) (by omega) hlo_; omega)) ?_
      refine X.callG (f := 38) (l := []) [] 0 (by kernel_rfl) (by kernel_rfl) (by kernel_rfl) (Works_ok _) ?_
      rintro v18 G18 rows18 hG18 ⟨rfl, rfl⟩
      replace hx := hx.mono hG18.le
      replace hy := hy.mono hG18.le
      replace hr2 := hr2.mono hG18.le
      replace hr3 := hr3.mono hG18.le
      replace hr5 := hr5.mono hG18.le
      replace hr6 := hr6.mono hG18.le
      replace hr11 := hr11.mono hG18.le
      replace hr12 := hr12.mono hG18.le
      refine X.run 5 [4] [] (.ex .ret) [] ⟨85, [(4, .v (.bool true))], []⟩ (by kernel_rfl) ?_
      refine doneG (.inl rfl) [.bool true] [] (by kernel_rfl) rfl rfl ((((((((hG4.trans hG5).trans hG6).trans hG7).trans hG10).trans hG11).trans hG12).trans hG18)) ?_
      -- end 2 (FF)
      exact ⟨rfl, rfl⟩

end Go.Proofs.YthpinlcfcgnilaaX
