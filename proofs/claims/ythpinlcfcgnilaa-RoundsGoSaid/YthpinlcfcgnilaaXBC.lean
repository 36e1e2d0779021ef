/- leatlaw45.RoundsGo: walked. Printed by a small program of this session. Conditions: none. -/
import Derived.Test.YthpinlcfcgnilaaProg
import Derived.KernelRfl
import Derived.Test.YthpinlcfcgnilaaXBB
import Derived.Test.YthpinlcfcgnilaaXF
import Derived.Test.YthpinlcfcgnilaaXPU
namespace Go.Proofs.YthpinlcfcgnilaaX
open Go.RowKit
open Go.Proofs.YthpinlcfcgnilaaW.PrintLast Go.Proofs.YthpinlcfcgnilaaW.PrintWords
set_option linter.unusedVariables false
set_option linter.unusedSimpArgs false
set_option maxRecDepth 100000
theorem nextW_range {mk : Bool} {m : Int} {ws hs : List Int} {n : Nat} (hm : 1 ≤ m ∧ m ≤ 65536) (hb : ∀ x ∈ ws, 2 * m ≤ x ∧ x ≤ 1073741824) (hh : ∀ x ∈ hs, 0 ≤ x ∧ x ≤ 1048576) (h1 : ws.length = n) (h2 : hs.length = n) : ∀ x ∈ nextW mk m ws hs n, 2 * m ≤ x ∧ x ≤ 1073741824 := by
  intro x hx
  obtain ⟨j, hj, rfl⟩ := mem_getD hx
  rw [nextW_len] at hj
  rw [nextW_at hj]
  exact nW_range hm (hb _ (getD_memI (by omega))) (nH_range (hh _ (getD_memI (by omega))))
theorem nextH_range {mk : Bool} {hs : List Int} {n : Nat} (hh : ∀ x ∈ hs, 0 ≤ x ∧ x ≤ 1048576) (h2 : hs.length = n) : ∀ x ∈ nextH mk hs n, 0 ≤ x ∧ x ≤ 1048576 := by
  intro x hx
  obtain ⟨j, hj, rfl⟩ := mem_getD hx
  rw [nextH_len] at hj
  rw [nextH_at hj]
  exact nH_range (hh _ (getD_memI (by omega)))

/-- leat/leatlaw45.RoundsGo -/
noncomputable def B10 : Code := bodyOf Try.f10
set_option maxHeartbeats 1000000 in
theorem RoundsGo_ok (A B : Option Addr) (ca cb : Nat) (ms p st : Int) (ws hs : List Int) (G : Mem) (hx : rowAt (D.int .i64) G A ws) (hy : rowAt (D.int .i64) G B hs) (hxc : ws.length ≤ ca) (hyc : hs.length ≤ cb) (hxm : ca ≤ maxLen) (hym : cb ≤ maxLen) : CallsG Try.prog 10 [.agg #[.int .i64 ms, .int .i64 p, .int .i64 st, .slice A ws.length ca, .slice B hs.length cb]] G (fun _ v rows => v = .bool true ∧ rows = []) := by
  simp only [maxLen] at hxm hym
  refine CallsG.enter Try.func10 rfl rfl ?_
  intro w
  refine X.run 7 [1, 2] [1] (.code (cA B10 [1, 0])) [.seq (cA B10 [1, 1])] ⟨88, [(1, .own 1 0), (2, .v (.bool false))], [(1, ⟨71, [.v (.int .i64 ms), .v (.int .i64 p), .v (.int .i64 st), .v (.slice A ws.length ca), .v (.slice B hs.length cb)]⟩)]⟩ (by kernel_rfl) ?_
  have hx_d1 := hx
  have hy_d1 := hy
  refine XD.open (id := 1) (arr := aA B10 [1, 0]) 18 [⟨some 1, 1, 71, [.v (.int .i64 ms), .v (.int .i64 p), .v (.int .i64 st), .v (.slice A ws.length ca), .v (.slice B hs.length cb)]⟩] [] [15, 16, 17] (by kernel_rfl) (by kernel_rfl) (by kernel_rfl) (by kernel_rfl) (by kernel_rfl) ⟨⟨fun _ h => (by cases h; rfl), rfl⟩, trivial⟩ (by intro p hp hn; simp only [List.mem_cons, List.not_mem_nil, or_false] at hp; rcases hp with rfl <;> first | (cases hn; done) | exact absurd _ (Nat.le_of_ble_eq_true rfl)) rfl (fun ρ0 => ?_)
  refine XD.take (i := 0) (l' := (lb 18 1)) (oA B10 [1, 0] 0) (.own 1 3) QOk.ctxG (by kernel_rfl) (by kernel_rfl) (by kernel_rfl) (by kernel_rfl) (by kernel_rfl) ?_
  refine XD.take (i := 1) (l' := (lb 18 3)) (oA B10 [1, 0] 1) (.v (.slice A ws.length ca)) QOk.ctxG (by kernel_rfl) (by kernel_rfl) (by kernel_rfl) (by kernel_rfl) (by kernel_rfl) ?_
  refine XD.take (i := 2) (l' := (lb 18 7)) (oA B10 [1, 0] 2) (.own 1 3) QOk.ctxG (by kernel_rfl) (by kernel_rfl) (by kernel_rfl) (by kernel_rfl) (by kernel_rfl) ?_
  refine XD.take (i := 3) (l' := (lb 18 15)) (oA B10 [1, 0] 3) (.v (.slice A ws.length ca)) QOk.ctxG (by kernel_rfl) (by kernel_rfl) (by kernel_rfl) (by kernel_rfl) (by kernel_rfl) ?_
  refine XD.take (i := 4) (l' := (lb 18 31)) (oA B10 [1, 0] 4) (.v (.int .i64 ((ws.length : Nat) : Int))) QOk.ctxG (by kernel_rfl) (by kernel_rfl) (by kernel_rfl) (by kernel_rfl) (by kernel_rfl) ?_
  refine XD.take (i := 5) (l' := (lb 18 63)) (oA B10 [1, 0] 5) (.v (.int .i64 (imin ((ws.length : Nat) : Int) 300))) QOk.ctxG (by kernel_rfl) (by kernel_rfl) (by kernel_rfl) (by kernel_rfl) (by kernel_rfl) ?_
  refine XD.known 10 (y := .v (.int .i64 (min ((ws.length : Nat) : Int) 300))) rfl (congrArg (fun z_ => AV.v (.int .i64 z_)) (by simp only [imin_eq, imax_eq])) ?_
  have hlo2 : 0 ≤ (min ((ws.length : Nat) : Int) 300).toNat := by omega
  have hhi2 : (min ((ws.length : Nat) : Int) 300).toNat ≤ ws.length := by omega
  refine XD.cut (i := 6) (l' := (lb 18 127)) (o := (oA B10 [1, 0] 6)) (t := 22) (e := 2) (sz := 1) (n := ws.length) (c := ca) (A := A) (x := .tmp 6) (l0 := none) (h := (some (.tmp 10))) (lv := none) (hv := (some (.int .i64 (min ((ws.length : Nat) : Int) 300)))) 0 ((min ((ws.length : Nat) : Int) 300).toNat) QOk.ctxG (by kernel_rfl) (by kernel_rfl) (by kernel_rfl) (by kernel_rfl) (by kernel_rfl) (by kernel_rfl) (by kernel_rfl) (by kernel_rfl) (by kernel_rfl) (rfl) (⟨_, _, rfl, by omega, rfl⟩) hlo2 (Nat.le_trans hhi2 hxc) (by kernel_rfl) ?_
  obtain ⟨A2, hA2⟩ : ∃ A_, cutA A ca 0 1 = A_ := ⟨_, rfl⟩
  obtain ⟨ys2, hys2⟩ : ∃ l_, (ws.take ((min ((ws.length : Nat) : Int) 300).toNat)).drop 0 = l_ := ⟨_, rfl⟩
  have hr2 : rowAt (D.int .i64) G (cutA A ca 0 1) ((ws.take ((min ((ws.length : Nat) : Int) 300).toNat)).drop 0) := rowAt_cut hx hlo2 hhi2 hxc
  have hl2 : ((min ((ws.length : Nat) : Int) 300).toNat) - 0 = ys2.length := by rw [← hys2, List.length_drop, List.length_take]; omega
  have hc2 : ys2.length ≤ ca - 0 := by omega
  have hm2 : ca - 0 ≤ maxLen := Nat.le_trans (Nat.sub_le _ _) hxm
  rw [hys2, show cutA A ca 0 _ = A2 from hA2] at hr2
  rw [hA2, hl2]
  refine XD.take (i := 7) (l' := (lb 18 255)) (oA B10 [1, 0] 7) (.own 1 4) QOk.ctxG (by kernel_rfl) (by kernel_rfl) (by kernel_rfl) (by kernel_rfl) (by kernel_rfl) ?_
  refine XD.take (i := 8) (l' := (lb 18 511)) (oA B10 [1, 0] 8) (.v (.slice B hs.length cb)) QOk.ctxG (by kernel_rfl) (by kernel_rfl) (by kernel_rfl) (by kernel_rfl) (by kernel_rfl) ?_
  refine XD.take (i := 9) (l' := (lb 18 1023)) (oA B10 [1, 0] 9) (.own 1 4) QOk.ctxG (by kernel_rfl) (by kernel_rfl) (by kernel_rfl) (by kernel_rfl) (by kernel_rfl) ?_
  refine XD.take (i := 10) (l' := (lb 18 2047)) (oA B10 [1, 0] 10) (.v (.slice B hs.length cb)) QOk.ctxG (by kernel_rfl) (by kernel_rfl) (by kernel_rfl) (by kernel_rfl) (by kernel_rfl) ?_
  refine XD.pureOne (i := 11) (l' := (lb 18 4095)) (oA B10 [1, 0] 11) (.int .i64 ((hs.length : Nat) : Int)) QOk.ctxG (by kernel_rfl) (by kernel_rfl) (by kernel_rfl) (by kernel_rfl) (by kernel_rfl) ?_
  refine XD.pureOne (i := 12) (l' := (lb 18 8191)) (oA B10 [1, 0] 12) (.int .i64 (imin ((hs.length : Nat) : Int) 300)) QOk.ctxG (by kernel_rfl) (by kernel_rfl) (by kernel_rfl) (by kernel_rfl) (by kernel_rfl) ?_
  refine XD.known 17 (y := .v (.int .i64 (min ((hs.length : Nat) : Int) 300))) rfl (congrArg (fun z_ => AV.v (.int .i64 z_)) (by simp only [imin_eq, imax_eq])) ?_
  have hlo3 : 0 ≤ (min ((hs.length : Nat) : Int) 300).toNat := by omega
  have hhi3 : (min ((hs.length : Nat) : Int) 300).toNat ≤ hs.length := by omega
  refine XD.pureCut (i := 13) (l' := (lb 18 16383)) (o := (oA B10 [1, 0] 13)) (t := 22) (e := 2) (sz := 1) (n := hs.length) (c := cb) (A := B) (x := .tmp 13) (l0 := none) (h := (some (.tmp 17))) (lv := none) (hv := (some (.int .i64 (min ((hs.length : Nat) : Int) 300)))) 0 ((min ((hs.length : Nat) : Int) 300).toNat) QOk.ctxG (by kernel_rfl) (by kernel_rfl) (by kernel_rfl) (by kernel_rfl) (by kernel_rfl) (by kernel_rfl) (by kernel_rfl) (by kernel_rfl) (by kernel_rfl) (rfl) (⟨_, _, rfl, by omega, rfl⟩) hlo3 (Nat.le_trans hhi3 hyc) (by kernel_rfl) ?_
  obtain ⟨A3, hA3⟩ : ∃ A_, cutA B cb 0 1 = A_ := ⟨_, rfl⟩
  obtain ⟨ys3, hys3⟩ : ∃ l_, (hs.take ((min ((hs.length : Nat) : Int) 300).toNat)).drop 0 = l_ := ⟨_, rfl⟩
  have hr3 : rowAt (D.int .i64) G (cutA B cb 0 1) ((hs.take ((min ((hs.length : Nat) : Int) 300).toNat)).drop 0) := rowAt_cut hy hlo3 hhi3 hyc
  have hl3 : ((min ((hs.length : Nat) : Int) 300).toNat) - 0 = ys3.length := by rw [← hys3, List.length_drop, List.length_take]; omega
  have hc3 : ys3.length ≤ cb - 0 := by omega
  have hm3 : cb - 0 ≤ maxLen := Nat.le_trans (Nat.sub_le _ _) hym
  rw [hys3, show cutA B cb 0 _ = A3 from hA3] at hr3
  rw [hA3, hl3]
  refine XD.take (i := 14) (l' := (lb 18 32767)) (oA B10 [1, 0] 14) (.own 1 3) QOk.ctxG (by kernel_rfl) (by kernel_rfl) (by kernel_rfl) (by kernel_rfl) (by kernel_rfl) ?_
  refine XD.toE ?_
  refine XE.norm [1, 2, 11, 18, 19] [1] ⟨88, [(1, .own 1 0), (2, .v (.bool false)), (11, .v (.slice A2 ys2.length (ca - 0))), (18, .v (.slice A3 ys3.length (cb - 0))), (19, .own 1 3)], [(1, ⟨71, [.v (.int .i64 ms), .v (.int .i64 p), .v (.int .i64 st), .v (.slice A ws.length ca), .v (.slice B hs.length cb)]⟩)]⟩ (by kernel_rfl) ?_
  refine XE.one (i := 15) (l' := (lb 18 65535)) (oA B10 [1, 0] 15) (by kernel_rfl) (by kernel_rfl) ?_
  refine X.simple (by kernel_rfl) ?_
  refine X.back ?_
  refine XE.norm [1, 2, 18] [1] ⟨88, [(1, .own 1 0), (2, .v (.bool false)), (18, .v (.slice A3 ys3.length (cb - 0)))], [(1, ⟨71, [.v (.int .i64 ms), .v (.int .i64 p), .v (.int .i64 st), .v (.slice A2 ys2.length (ca - 0)), .v (.slice B hs.length cb)]⟩)]⟩ (by kernel_rfl) ?_
  refine XE.one (i := 16) (l' := (lb 18 131071)) (oA B10 [1, 0] 16) (by kernel_rfl) (by kernel_rfl) ?_
  refine X.simple (by kernel_rfl) ?_
  refine X.back ?_
  refine XE.norm [1, 2, 18, 20] [1] ⟨88, [(1, .own 1 0), (2, .v (.bool false)), (18, .v (.slice A3 ys3.length (cb - 0))), (20, .own 1 4)], [(1, ⟨71, [.v (.int .i64 ms), .v (.int .i64 p), .v (.int .i64 st), .v (.slice A2 ys2.length (ca - 0)), .v (.slice B hs.length cb)]⟩)]⟩ (by kernel_rfl) ?_
  refine XE.one (i := 17) (l' := (lb 18 262143)) (oA B10 [1, 0] 17) (by kernel_rfl) (by kernel_rfl) ?_
  refine X.simple (by kernel_rfl) ?_
  refine X.back ?_
  refine XE.done (by kernel_rfl) ?_
  refine X.run 4 [1, 2, 21] [1] (.ops (aA B10 [1, 1, 0]) (oA B10 [1, 1, 0] 1 :: lA B10 [1, 1, 0] 2)) [.seq (cA B10 [1, 1, 1])] ⟨88, [(1, .own 1 0), (2, .v (.bool false)), (21, .v (.agg #[.int .i64 ms, .int .i64 p, .int .i64 st, .slice A2 ys2.length (ca - 0), .slice A3 ys3.length (cb - 0)]))], [(1, ⟨71, [.v (.int .i64 ms), .v (.int .i64 p), .v (.int .i64 st), .v (.slice A2 ys2.length (ca - 0)), .v (.slice A3 ys3.length (cb - 0))]⟩)]⟩ (by kernel_rfl) ?_
  have hm_ := cM_range ms
  have hcn_ := cN_range ys2
  have hp_ := cP_range ms p (cN_range ys2).2
  have hcs_ : 0 ≤ cS st ∧ cS st ≤ 1073741824 := by unfold cS; omega
  have hmn_ := mn_range ms hcn_.1 hcn_.2
  have hb_ := cW_range (ms := ms) (ws := ys2) (n := cN ys2)
  have hh_ := cH_range (hs := ys3) (n := cN ys2)
  have h256_ := (cN_range ys2).2
  refine X.callG (f := 34) (l := [.v (.agg #[.int .i64 ms, .int .i64 p, .int .i64 st, .slice A2 ys2.length (ca - 0), .slice A3 ys3.length (cb - 0)])]) [.agg #[.int .i64 ms, .int .i64 p, .int .i64 st, .slice A2 ys2.length (ca - 0), .slice A3 ys3.length (cb - 0)]] 183 (by kernel_rfl) (by kernel_rfl) (by kernel_rfl) (RClean_ok A2 A3 (ca - 0) (cb - 0) ms p st ys2 ys3 _ hr2 hr3 hc2 hc3 hm2 hm3) ?_
  rintro v4 G4 rows4 hG4 ⟨A4, c4, B4, d4, rfl, rfl⟩
  replace hx := hx.mono hG4.le
  replace hy := hy.mono hG4.le
  replace hr2 := hr2.mono hG4.le
  replace hr3 := hr3.mono hG4.le
  refine X.asR (R' := [(183, ⟨2, 1, .slice A4 (cN ys2) c4, cN ys2, (cW ms ys2 (cN ys2)).map (Value.int .i64)⟩), (184, ⟨2, 1, .slice B4 (cN ys2) d4, cN ys2, (cH ys3 (cN ys2)).map (Value.int .i64)⟩)]) rfl ?_
  refine X.tellR [183, 184] (R' := [(183, ⟨2, 1, .slice A4 (cN ys2) c4, cN ys2, (cW ms ys2 (cN ys2)).map (Value.int .i64)⟩), (184, ⟨2, 1, .slice B4 (cN ys2) d4, cN ys2, (cH ys3 (cN ys2)).map (Value.int .i64)⟩)]) rfl ?_
  refine X.capLe (i := 183) (q := ⟨2, 1, .slice A4 (cN ys2) c4, cN ys2, (cW ms ys2 (cN ys2)).map (Value.int .i64)⟩) (n := cN ys2) (c := c4) (A := A4) rfl rfl ?_
  intro hle5 hmx5
  refine X.freezeHd (i := 183) (n := cN ys2) (c := c4) (A := A4) (kd := .i64) (cW ms ys2 (cN ys2)) rfl rfl (fun x_ hx_ => by have h_ := cW_range x_ hx_; have h2_ := cM_range ms; simp only [IntKind.lo, IntKind.hi]; omega) (by kernel_rfl) (fun _ h => h) ?_
  intro G5 hG5 hr5
  replace hx := hx.mono hG5.le
  replace hy := hy.mono hG5.le
  replace hr2 := hr2.mono hG5.le
  replace hr3 := hr3.mono hG5.le
  refine X.tellR [184] (R' := [(184, ⟨2, 1, .slice B4 (cN ys2) d4, cN ys2, (cH ys3 (cN ys2)).map (Value.int .i64)⟩)]) rfl ?_
  refine X.capLe (i := 184) (q := ⟨2, 1, .slice B4 (cN ys2) d4, cN ys2, (cH ys3 (cN ys2)).map (Value.int .i64)⟩) (n := cN ys2) (c := d4) (A := B4) rfl rfl ?_
  intro hle6 hmx6
  refine X.freezeHd (i := 184) (n := cN ys2) (c := d4) (A := B4) (kd := .i64) (cH ys3 (cN ys2)) rfl rfl (fun x_ hx_ => by have h_ := cH_range x_ hx_; simp only [IntKind.lo, IntKind.hi]; omega) (by kernel_rfl) (fun _ h => h) ?_
  intro G6 hG6 hr6
  replace hx := hx.mono hG6.le
  replace hy := hy.mono hG6.le
  replace hr2 := hr2.mono hG6.le
  replace hr3 := hr3.mono hG6.le
  replace hr5 := hr5.mono hG6.le
  refine X.run 12 [1, 2, 3, 28] [1, 3] (.ops (aA B10 [1, 1, 1, 0]) (oA B10 [1, 1, 1, 0] 6 :: lA B10 [1, 1, 1, 0] 7)) [.seq (cA B10 [1, 1, 1, 1])] ⟨88, [(1, .own 1 0), (2, .v (.bool false)), (3, .own 3 0), (28, .v (.int .i64 (IntKind.i64.wrap ((cM ms) * ((cN ys2 : Nat) : Int)))))], [(1, ⟨71, [.v (.int .i64 ms), .v (.int .i64 p), .v (.int .i64 st), .v (.slice A2 ys2.length (ca - 0)), .v (.slice A3 ys3.length (cb - 0))]⟩), (3, ⟨71, [.v (.int .i64 (cM ms)), .v (.int .i64 (cP ms p (cN ys2))), .v (.int .i64 (cS st)), .v (.slice A4 (cN ys2) c4), .v (.slice B4 (cN ys2) d4)]⟩)]⟩ (by kernel_rfl) ?_
  refine X.known 28 (y := .v (.int .i64 ((cM ms) * ((cN ys2 : Nat) : Int)))) rfl (congrArg (fun z_ => AV.v (.int .i64 z_)) (wi64 (by omega) (by omega))) ?_
  refine X.run 4 [1, 2, 3, 4] [1, 3] (.code (cA B10 [1, 1, 1, 1, 0])) [.seq (cA B10 [1, 1, 1, 1, 1])] ⟨88, [(1, .own 1 0), (2, .v (.bool false)), (3, .own 3 0), (4, .v (.int .i64 ((cM ms) * ((cN ys2 : Nat) : Int))))], [(1, ⟨71, [.v (.int .i64 ms), .v (.int .i64 p), .v (.int .i64 st), .v (.slice A2 ys2.length (ca - 0)), .v (.slice A3 ys3.length (cb - 0))]⟩), (3, ⟨71, [.v (.int .i64 (cM ms)), .v (.int .i64 (cP ms p (cN ys2))), .v (.int .i64 (cS st)), .v (.slice A4 (cN ys2) c4), .v (.slice B4 (cN ys2) d4)]⟩)]⟩ (by kernel_rfl) ?_
  have hx_d7 := hx
  have hy_d7 := hy
  have hr2_d7 := hr2
  have hr3_d7 := hr3
  have hr5_d7 := hr5
  have hr6_d7 := hr6
  refine XD.open (id := 4) (arr := aA B10 [1, 1, 1, 1, 0]) 60 [⟨some 1, 1, 71, [.v (.int .i64 ms), .v (.int .i64 p), .v (.int .i64 st), .v (.slice A2 ys2.length (ca - 0)), .v (.slice A3 ys3.length (cb - 0))]⟩, ⟨some 3, 3, 71, [.v (.int .i64 (cM ms)), .v (.int .i64 (cP ms p (cN ys2))), .v (.int .i64 (cS st)), .v (.slice A4 (cN ys2) c4), .v (.slice B4 (cN ys2) d4)]⟩] [] [] (by kernel_rfl) (by kernel_rfl) (by kernel_rfl) (by kernel_rfl) (by kernel_rfl) ⟨⟨fun _ h => (by cases h; rfl), rfl⟩, ⟨fun _ h => (by cases h; rfl), rfl⟩, trivial⟩ (by intro p hp hn; simp only [List.mem_cons, List.not_mem_nil, or_false] at hp; rcases hp with rfl | rfl <;> first | (cases hn; done) | exact absurd _ (Nat.le_of_ble_eq_true rfl)) rfl (fun ρ0 => ?_)
  refine XD.take (i := 0) (l' := (lb 60 1)) (oA B10 [1, 1, 1, 1, 0] 0) (.v (.agg #[.int .i64 ms, .int .i64 p, .int .i64 st, .slice A2 ys2.length (ca - 0), .slice A3 ys3.length (cb - 0)])) QOk.ctxG (by kernel_rfl) (by kernel_rfl) (by kernel_rfl) (by kernel_rfl) (by kernel_rfl) ?_
  refine XD.take (i := 2) (l' := (lb 60 5)) (oA B10 [1, 1, 1, 1, 0] 2) (.v (.agg #[.int .i64 (cM ms), .int .i64 (cP ms p (cN ys2)), .int .i64 (cS st), .slice A4 (cN ys2) c4, .slice B4 (cN ys2) d4])) QOk.ctxG (by kernel_rfl) (by kernel_rfl) (by kernel_rfl) (by kernel_rfl) (by kernel_rfl) ?_
  refine XD.norm [1, 2, 3, 4, 29, 31] [1, 3] ⟨88, [(1, .own 1 0), (2, .v (.bool false)), (3, .own 3 0), (4, .v (.int .i64 ((cM ms) * ((cN ys2 : Nat) : Int)))), (29, .v (.agg #[.int .i64 ms, .int .i64 p, .int .i64 st, .slice A2 ys2.length (ca - 0), .slice A3 ys3.length (cb - 0)])), (31, .v (.agg #[.int .i64 (cM ms), .int .i64 (cP ms p (cN ys2)), .int .i64 (cS st), .slice A4 (cN ys2) c4, .slice B4 (cN ys2) d4]))], [(1, ⟨71, [.v (.int .i64 ms), .v (.int .i64 p), .v (.int .i64 st), .v (.slice A2 ys2.length (ca - 0)), .v (.slice A3 ys3.length (cb - 0))]⟩), (3, ⟨71, [.v (.int .i64 (cM ms)), .v (.int .i64 (cP ms p (cN ys2))), .v (.int .i64 (cS st)), .v (.slice A4 (cN ys2) c4), .v (.slice B4 (cN ys2) d4)]⟩)]⟩ (by kernel_rfl) ⟨⟨fun _ h => (by cases h; rfl), rfl⟩, ⟨fun _ h => (by cases h; rfl), rfl⟩, trivial⟩ ?_
  refine XD.one (i := 1) (l' := (lb 60 7)) (oA B10 [1, 1, 1, 1, 0] 1) (by kernel_rfl) (by kernel_rfl) (by kernel_rfl) ?_
  refine X.callG (f := 40) (l := [.v (.agg #[.int .i64 ms, .int .i64 p, .int .i64 st, .slice A2 ys2.length (ca - 0), .slice A3 ys3.length (cb - 0)])]) [.agg #[.int .i64 ms, .int .i64 p, .int .i64 st, .slice A2 ys2.length (ca - 0), .slice A3 ys3.length (cb - 0)]] 181 (by kernel_rfl) (by kernel_rfl) (by kernel_rfl) (Clean_ok A2 A3 (ca - 0) (cb - 0) ms p st ys2 ys3 _ hr2 hr3 hc2 hc3 hm2 hm3) ?_
  rintro v8 G8 rows8 hG8 ⟨A8, c8, B8, d8, rfl, rfl⟩
  replace hx := hx.mono hG8.le
  replace hy := hy.mono hG8.le
  replace hr2 := hr2.mono hG8.le
  replace hr3 := hr3.mono hG8.le
  replace hr5 := hr5.mono hG8.le
  replace hr6 := hr6.mono hG8.le
  refine X.asR (R' := [(181, ⟨2, 1, .slice A8 (cN ys2) c8, cN ys2, (cW ms ys2 (cN ys2)).map (Value.int .i64)⟩), (182, ⟨2, 1, .slice B8 (cN ys2) d8, cN ys2, (cH ys3 (cN ys2)).map (Value.int .i64)⟩)]) rfl ?_
  refine X.tellR [181, 182] (R' := [(181, ⟨2, 1, .slice A8 (cN ys2) c8, cN ys2, (cW ms ys2 (cN ys2)).map (Value.int .i64)⟩), (182, ⟨2, 1, .slice B8 (cN ys2) d8, cN ys2, (cH ys3 (cN ys2)).map (Value.int .i64)⟩)]) rfl ?_
  refine X.capLe (i := 181) (q := ⟨2, 1, .slice A8 (cN ys2) c8, cN ys2, (cW ms ys2 (cN ys2)).map (Value.int .i64)⟩) (n := cN ys2) (c := c8) (A := A8) rfl rfl ?_
  intro hle9 hmx9
  refine X.freezeHd (i := 181) (n := cN ys2) (c := c8) (A := A8) (kd := .i64) (cW ms ys2 (cN ys2)) rfl rfl (fun x_ hx_ => by have h_ := cW_range x_ hx_; have h2_ := cM_range ms; simp only [IntKind.lo, IntKind.hi]; omega) (by kernel_rfl) (fun _ h => h) ?_
  intro G9 hG9 hr9
  replace hx := hx.mono hG9.le
  replace hy := hy.mono hG9.le
  replace hr2 := hr2.mono hG9.le
  replace hr3 := hr3.mono hG9.le
  replace hr5 := hr5.mono hG9.le
  replace hr6 := hr6.mono hG9.le
  refine X.tellR [182] (R' := [(182, ⟨2, 1, .slice B8 (cN ys2) d8, cN ys2, (cH ys3 (cN ys2)).map (Value.int .i64)⟩)]) rfl ?_
  refine X.capLe (i := 182) (q := ⟨2, 1, .slice B8 (cN ys2) d8, cN ys2, (cH ys3 (cN ys2)).map (Value.int .i64)⟩) (n := cN ys2) (c := d8) (A := B8) rfl rfl ?_
  intro hle10 hmx10
  refine X.freezeHd (i := 182) (n := cN ys2) (c := d8) (A := B8) (kd := .i64) (cH ys3 (cN ys2)) rfl rfl (fun x_ hx_ => by have h_ := cH_range x_ hx_; simp only [IntKind.lo, IntKind.hi]; omega) (by kernel_rfl) (fun _ h => h) ?_
  intro G10 hG10 hr10
  replace hx := hx.mono hG10.le
  replace hy := hy.mono hG10.le
  replace hr2 := hr2.mono hG10.le
  replace hr3 := hr3.mono hG10.le
  replace hr5 := hr5.mono hG10.le
  replace hr6 := hr6.mono hG10.le
  replace hr9 := hr9.mono hG10.le
  refine X.back ⟨⟨⟨fun _ h => (by cases h; rfl), rfl⟩, ⟨fun _ h => (by cases h; rfl), rfl⟩, trivial⟩, ((hG8.trans hG9).trans hG10).le, rfl, ?_⟩
  refine XD.norm [1, 2, 3, 4, 30, 31] [1, 3] ⟨88, [(1, .own 1 0), (2, .v (.bool false)), (3, .own 3 0), (4, .v (.int .i64 ((cM ms) * ((cN ys2 : Nat) : Int)))), (30, .v (.agg #[.int .i64 (cM ms), .int .i64 (cP ms p (cN ys2)), .int .i64 (cS st), .slice A8 (cN ys2) c8, .slice B8 (cN ys2) d8])), (31, .v (.agg #[.int .i64 (cM ms), .int .i64 (cP ms p (cN ys2)), .int .i64 (cS st), .slice A4 (cN ys2) c4, .slice B4 (cN ys2) d4]))], [(1, ⟨71, [.v (.int .i64 ms), .v (.int .i64 p), .v (.int .i64 st), .v (.slice A2 ys2.length (ca - 0)), .v (.slice A3 ys3.length (cb - 0))]⟩), (3, ⟨71, [.v (.int .i64 (cM ms)), .v (.int .i64 (cP ms p (cN ys2))), .v (.int .i64 (cS st)), .v (.slice A4 (cN ys2) c4), .v (.slice B4 (cN ys2) d4)]⟩)]⟩ (by kernel_rfl) ⟨⟨fun _ h => (by cases h; rfl), rfl⟩, ⟨fun _ h => (by cases h; rfl), rfl⟩, trivial⟩ ?_
  refine XD.one (i := 3) (l' := (lb 60 15)) (oA B10 [1, 1, 1, 1, 0] 3) (by kernel_rfl) (by kernel_rfl) (by kernel_rfl) ?_
  refine X.callG (f := 39) (l := [.v (.agg #[.int .i64 (cM ms), .int .i64 (cP ms p (cN ys2)), .int .i64 (cS st), .slice A8 (cN ys2) c8, .slice B8 (cN ys2) d8]), .v (.agg #[.int .i64 (cM ms), .int .i64 (cP ms p (cN ys2)), .int .i64 (cS st), .slice A4 (cN ys2) c4, .slice B4 (cN ys2) d4])]) [.agg #[.int .i64 (cM ms), .int .i64 (cP ms p (cN ys2)), .int .i64 (cS st), .slice A8 (cN ys2) c8, .slice B8 (cN ys2) d8], .agg #[.int .i64 (cM ms), .int .i64 (cP ms p (cN ys2)), .int .i64 (cS st), .slice A4 (cN ys2) c4, .slice B4 (cN ys2) d4]] 0 (by kernel_rfl) (by kernel_rfl) (by kernel_rfl) (RSame_ok A8 B8 A4 B4 c8 d8 c4 d4 (cN ys2) (cM ms) (cP ms p (cN ys2)) (cS st) (cW ms ys2 (cN ys2)) (cH ys3 (cN ys2)) _ hr9 hr10 hr5 hr6 (cW_len _ _ _) (cH_len _ _) hle9 hle10 hle5 hle6 hmx9) ?_
  rintro v11 G11 rows11 hG11 ⟨rfl, rfl⟩
  replace hx := hx.mono hG11.le
  replace hy := hy.mono hG11.le
  replace hr2 := hr2.mono hG11.le
  replace hr3 := hr3.mono hG11.le
  replace hr5 := hr5.mono hG11.le
  replace hr6 := hr6.mono hG11.le
  replace hr9 := hr9.mono hG11.le
  replace hr10 := hr10.mono hG11.le
  refine X.back ⟨⟨⟨fun _ h => (by cases h; rfl), rfl⟩, ⟨fun _ h => (by cases h; rfl), rfl⟩, trivial⟩, (((hG8.trans hG9).trans hG10).trans hG11).le, rfl, ?_⟩
  refine XD.take (i := 4) (l' := (lb 60 31)) (oA B10 [1, 1, 1, 1, 0] 4) (.v (.bool true)) QOk.ctxG (by kernel_rfl) (by kernel_rfl) (by kernel_rfl) (by kernel_rfl) (by kernel_rfl) ?_
  refine XD.take (i := 5) (l' := (lb 60 63)) (oA B10 [1, 1, 1, 1, 0] 5) (.v (.agg #[.int .i64 ms, .int .i64 p, .int .i64 st, .slice A2 ys2.length (ca - 0), .slice A3 ys3.length (cb - 0)])) QOk.ctxG (by kernel_rfl) (by kernel_rfl) (by kernel_rfl) (by kernel_rfl) (by kernel_rfl) ?_
  refine XD.take (i := 7) (l' := (lb 60 191)) (oA B10 [1, 1, 1, 1, 0] 7) (.v (.agg #[.int .i64 (cM ms), .int .i64 (cP ms p (cN ys2)), .int .i64 (cS st), .slice A4 (cN ys2) c4, .slice B4 (cN ys2) d4])) QOk.ctxG (by kernel_rfl) (by kernel_rfl) (by kernel_rfl) (by kernel_rfl) (by kernel_rfl) ?_
  refine XD.norm [1, 2, 3, 4, 33, 34, 36] [1, 3] ⟨88, [(1, .own 1 0), (2, .v (.bool false)), (3, .own 3 0), (4, .v (.int .i64 ((cM ms) * ((cN ys2 : Nat) : Int)))), (33, .v (.bool true)), (34, .v (.agg #[.int .i64 ms, .int .i64 p, .int .i64 st, .slice A2 ys2.length (ca - 0), .slice A3 ys3.length (cb - 0)])), (36, .v (.agg #[.int .i64 (cM ms), .int .i64 (cP ms p (cN ys2)), .int .i64 (cS st), .slice A4 (cN ys2) c4, .slice B4 (cN ys2) d4]))], [(1, ⟨71, [.v (.int .i64 ms), .v (.int .i64 p), .v (.int .i64 st), .v (.slice A2 ys2.length (ca - 0)), .v (.slice A3 ys3.length (cb - 0))]⟩), (3, ⟨71, [.v (.int .i64 (cM ms)), .v (.int .i64 (cP ms p (cN ys2))), .v (.int .i64 (cS st)), .v (.slice A4 (cN ys2) c4), .v (.slice B4 (cN ys2) d4)]⟩)]⟩ (by kernel_rfl) ⟨⟨fun _ h => (by cases h; rfl), rfl⟩, ⟨fun _ h => (by cases h; rfl), rfl⟩, trivial⟩ ?_
  refine XD.one (i := 6) (l' := (lb 60 255)) (oA B10 [1, 1, 1, 1, 0] 6) (by kernel_rfl) (by kernel_rfl) (by kernel_rfl) ?_
  refine X.callG (f := 41) (l := [.v (.agg #[.int .i64 ms, .int .i64 p, .int .i64 st, .slice A2 ys2.length (ca - 0), .slice A3 ys3.length (cb - 0)])]) [.agg #[.int .i64 ms, .int .i64 p, .int .i64 st, .slice A2 ys2.length (ca - 0), .slice A3 ys3.length (cb - 0)]] 0 (by kernel_rfl) (by kernel_rfl) (by kernel_rfl) (Sum_ok A2 A3 (ca - 0) (cb - 0) ms p st ys2 ys3 _ hr2 hr3 hc2 hc3 hm2 hm3) ?_
  rintro v12 G12 rows12 hG12 ⟨rfl, rfl⟩
  replace hx := hx.mono hG12.le
  replace hy := hy.mono hG12.le
  replace hr2 := hr2.mono hG12.le
  replace hr3 := hr3.mono hG12.le
  replace hr5 := hr5.mono hG12.le
  replace hr6 := hr6.mono hG12.le
  replace hr9 := hr9.mono hG12.le
  replace hr10 := hr10.mono hG12.le
  refine X.back ⟨⟨⟨fun _ h => (by cases h; rfl), rfl⟩, ⟨fun _ h => (by cases h; rfl), rfl⟩, trivial⟩, ((((hG8.trans hG9).trans hG10).trans hG11).trans hG12).le, rfl, ?_⟩
  refine XD.norm [1, 2, 3, 4, 33, 35, 36] [1, 3] ⟨88, [(1, .own 1 0), (2, .v (.bool false)), (3, .own 3 0), (4, .v (.int .i64 ((cM ms) * ((cN ys2 : Nat) : Int)))), (33, .v (.bool true)), (35, .v (.int .i64 (sumI (cW ms ys2 (cN ys2))))), (36, .v (.agg #[.int .i64 (cM ms), .int .i64 (cP ms p (cN ys2)), .int .i64 (cS st), .slice A4 (cN ys2) c4, .slice B4 (cN ys2) d4]))], [(1, ⟨71, [.v (.int .i64 ms), .v (.int .i64 p), .v (.int .i64 st), .v (.slice A2 ys2.length (ca - 0)), .v (.slice A3 ys3.length (cb - 0))]⟩), (3, ⟨71, [.v (.int .i64 (cM ms)), .v (.int .i64 (cP ms p (cN ys2))), .v (.int .i64 (cS st)), .v (.slice A4 (cN ys2) c4), .v (.slice B4 (cN ys2) d4)]⟩)]⟩ (by kernel_rfl) ⟨⟨fun _ h => (by cases h; rfl), rfl⟩, ⟨fun _ h => (by cases h; rfl), rfl⟩, trivial⟩ ?_
  refine XD.one (i := 8) (l' := (lb 60 511)) (oA B10 [1, 1, 1, 1, 0] 8) (by kernel_rfl) (by kernel_rfl) (by kernel_rfl) ?_
  refine X.callG (f := 36) (l := [.v (.agg #[.int .i64 (cM ms), .int .i64 (cP ms p (cN ys2)), .int .i64 (cS st), .slice A4 (cN ys2) c4, .slice B4 (cN ys2) d4])]) [.agg #[.int .i64 (cM ms), .int .i64 (cP ms p (cN ys2)), .int .i64 (cS st), .slice A4 (cN ys2) c4, .slice B4 (cN ys2) d4]] 0 (by kernel_rfl) (by kernel_rfl) (by kernel_rfl) (RSum_ok A4 B4 c4 d4 (cN ys2) (cM ms) (cP ms p (cN ys2)) (cS st) (cW ms ys2 (cN ys2)) (cH ys3 (cN ys2)) _ hr5 hr6 (cW_len _ _ _) (cH_len _ _) hle5 hle6 hmx5 hmx6 (fun x_ hx_ => by have h_ := hb_ x_ hx_; omega) h256_) ?_
  rintro v13 G13 rows13 hG13 ⟨rfl, rfl⟩
  replace hx := hx.mono hG13.le
  replace hy := hy.mono hG13.le
  replace hr2 := hr2.mono hG13.le
  replace hr3 := hr3.mono hG13.le
  replace hr5 := hr5.mono hG13.le
  replace hr6 := hr6.mono hG13.le
  replace hr9 := hr9.mono hG13.le
  replace hr10 := hr10.mono hG13.le
  refine X.back ⟨⟨⟨fun _ h => (by cases h; rfl), rfl⟩, ⟨fun _ h => (by cases h; rfl), rfl⟩, trivial⟩, (((((hG8.trans hG9).trans hG10).trans hG11).trans hG12).trans hG13).le, rfl, ?_⟩
  refine XD.take (i := 9) (l' := (lb 60 1023)) (oA B10 [1, 1, 1, 1, 0] 9) (.v (.bool ((sumI (cW ms ys2 (cN ys2))) == (sumI (cW ms ys2 (cN ys2)))))) QOk.ctxG (by kernel_rfl) (by kernel_rfl) (by kernel_rfl) (by kernel_rfl) (by kernel_rfl) ?_
  refine XD.take (i := 10) (l' := (lb 60 2047)) (oA B10 [1, 1, 1, 1, 0] 10) (.v (.bool ((sumI (cW ms ys2 (cN ys2))) == (sumI (cW ms ys2 (cN ys2)))))) QOk.ctxG (by kernel_rfl) (by kernel_rfl) (by kernel_rfl) (by kernel_rfl) (by kernel_rfl) ?_
  refine XD.take (i := 11) (l' := (lb 60 4095)) (oA B10 [1, 1, 1, 1, 0] 11) (.v (.bool ((sumI (cW ms ys2 (cN ys2))) == (sumI (cW ms ys2 (cN ys2)))))) QOk.ctxG (by kernel_rfl) (by kernel_rfl) (by kernel_rfl) (by kernel_rfl) (by kernel_rfl) ?_
  refine XD.isTrue 40 rfl (by simp) ?_
  refine XD.take (i := 12) (l' := (lb 60 8191)) (oA B10 [1, 1, 1, 1, 0] 12) (.v (.agg #[.int .i64 ms, .int .i64 p, .int .i64 st, .slice A2 ys2.length (ca - 0), .slice A3 ys3.length (cb - 0)])) QOk.ctxG (by kernel_rfl) (by kernel_rfl) (by kernel_rfl) (by kernel_rfl) (by kernel_rfl) ?_
  refine XD.take (i := 14) (l' := (lb 60 24575)) (oA B10 [1, 1, 1, 1, 0] 14) (.v (.agg #[.int .i64 (cM ms), .int .i64 (cP ms p (cN ys2)), .int .i64 (cS st), .slice A4 (cN ys2) c4, .slice B4 (cN ys2) d4])) QOk.ctxG (by kernel_rfl) (by kernel_rfl) (by kernel_rfl) (by kernel_rfl) (by kernel_rfl) ?_
  refine XD.norm [1, 2, 3, 4, 40, 41, 43] [1, 3] ⟨88, [(1, .own 1 0), (2, .v (.bool false)), (3, .own 3 0), (4, .v (.int .i64 ((cM ms) * ((cN ys2 : Nat) : Int)))), (40, .v (.bool true)), (41, .v (.agg #[.int .i64 ms, .int .i64 p, .int .i64 st, .slice A2 ys2.length (ca - 0), .slice A3 ys3.length (cb - 0)])), (43, .v (.agg #[.int .i64 (cM ms), .int .i64 (cP ms p (cN ys2)), .int .i64 (cS st), .slice A4 (cN ys2) c4, .slice B4 (cN ys2) d4]))], [(1, ⟨71, [.v (.int .i64 ms), .v (.int .i64 p), .v (.int .i64 st), .v (.slice A2 ys2.length (ca - 0)), .v (.slice A3 ys3.length (cb - 0))]⟩), (3, ⟨71, [.v (.int .i64 (cM ms)), .v (.int .i64 (cP ms p (cN ys2))), .v (.int .i64 (cS st)), .v (.slice A4 (cN ys2) c4), .v (.slice B4 (cN ys2) d4)]⟩)]⟩ (by kernel_rfl) ⟨⟨fun _ h => (by cases h; rfl), rfl⟩, ⟨fun _ h => (by cases h; rfl), rfl⟩, trivial⟩ ?_
  refine XD.one (i := 13) (l' := (lb 60 32767)) (oA B10 [1, 1, 1, 1, 0] 13) (by kernel_rfl) (by kernel_rfl) (by kernel_rfl) ?_
  refine X.callG (f := 42) (l := [.v (.agg #[.int .i64 ms, .int .i64 p, .int .i64 st, .slice A2 ys2.length (ca - 0), .slice A3 ys3.length (cb - 0)])]) [.agg #[.int .i64 ms, .int .i64 p, .int .i64 st, .slice A2 ys2.length (ca - 0), .slice A3 ys3.length (cb - 0)]] 0 (by kernel_rfl) (by kernel_rfl) (by kernel_rfl) (Queue_ok A2 A3 (ca - 0) (cb - 0) ms p st ys2 ys3 _ hr2 hr3 hc2 hc3 hm2 hm3) ?_
  rintro v14 G14 rows14 hG14 ⟨rfl, rfl⟩
  replace hx := hx.mono hG14.le
  replace hy := hy.mono hG14.le
  replace hr2 := hr2.mono hG14.le
  replace hr3 := hr3.mono hG14.le
  replace hr5 := hr5.mono hG14.le
  replace hr6 := hr6.mono hG14.le
  replace hr9 := hr9.mono hG14.le
  replace hr10 := hr10.mono hG14.le
  refine X.back ⟨⟨⟨fun _ h => (by cases h; rfl), rfl⟩, ⟨fun _ h => (by cases h; rfl), rfl⟩, trivial⟩, ((((((hG8.trans hG9).trans hG10).trans hG11).trans hG12).trans hG13).trans hG14).le, rfl, ?_⟩
  refine XD.norm [1, 2, 3, 4, 40, 42, 43] [1, 3] ⟨88, [(1, .own 1 0), (2, .v (.bool false)), (3, .own 3 0), (4, .v (.int .i64 ((cM ms) * ((cN ys2 : Nat) : Int)))), (40, .v (.bool true)), (42, .v (.int .i64 (quI (cP ms p (cN ys2)) (cW ms ys2 (cN ys2))))), (43, .v (.agg #[.int .i64 (cM ms), .int .i64 (cP ms p (cN ys2)), .int .i64 (cS st), .slice A4 (cN ys2) c4, .slice B4 (cN ys2) d4]))], [(1, ⟨71, [.v (.int .i64 ms), .v (.int .i64 p), .v (.int .i64 st), .v (.slice A2 ys2.length (ca - 0)), .v (.slice A3 ys3.length (cb - 0))]⟩), (3, ⟨71, [.v (.int .i64 (cM ms)), .v (.int .i64 (cP ms p (cN ys2))), .v (.int .i64 (cS st)), .v (.slice A4 (cN ys2) c4), .v (.slice B4 (cN ys2) d4)]⟩)]⟩ (by kernel_rfl) ⟨⟨fun _ h => (by cases h; rfl), rfl⟩, ⟨fun _ h => (by cases h; rfl), rfl⟩, trivial⟩ ?_
  refine XD.one (i := 15) (l' := (lb 60 65535)) (oA B10 [1, 1, 1, 1, 0] 15) (by kernel_rfl) (by kernel_rfl) (by kernel_rfl) ?_
  refine X.callG (f := 35) (l := [.v (.agg #[.int .i64 (cM ms), .int .i64 (cP ms p (cN ys2)), .int .i64 (cS st), .slice A4 (cN ys2) c4, .slice B4 (cN ys2) d4])]) [.agg #[.int .i64 (cM ms), .int .i64 (cP ms p (cN ys2)), .int .i64 (cS st), .slice A4 (cN ys2) c4, .slice B4 (cN ys2) d4]] 0 (by kernel_rfl) (by kernel_rfl) (by kernel_rfl) (RQueue_ok A4 B4 c4 d4 (cN ys2) (cM ms) (cP ms p (cN ys2)) (cS st) (cW ms ys2 (cN ys2)) (cH ys3 (cN ys2)) _ hr5 hr6 (cW_len _ _ _) (cH_len _ _) hle5 hle6 hmx5 hmx6 (fun x_ hx_ => by have h_ := hb_ x_ hx_; omega) h256_ hp_) ?_
  rintro v15 G15 rows15 hG15 ⟨rfl, rfl⟩
  replace hx := hx.mono hG15.le
  replace hy := hy.mono hG15.le
  replace hr2 := hr2.mono hG15.le
  replace hr3 := hr3.mono hG15.le
  replace hr5 := hr5.mono hG15.le
  replace hr6 := hr6.mono hG15.le
  replace hr9 := hr9.mono hG15.le
  replace hr10 := hr10.mono hG15.le
  refine X.back ⟨⟨⟨fun _ h => (by cases h; rfl), rfl⟩, ⟨fun _ h => (by cases h; rfl), rfl⟩, trivial⟩, (((((((hG8.trans hG9).trans hG10).trans hG11).trans hG12).trans hG13).trans hG14).trans hG15).le, rfl, ?_⟩
  refine XD.take (i := 16) (l' := (lb 60 131071)) (oA B10 [1, 1, 1, 1, 0] 16) (.v (.bool ((quI (cP ms p (cN ys2)) (cW ms ys2 (cN ys2))) == (quI (cP ms p (cN ys2)) (cW ms ys2 (cN ys2)))))) QOk.ctxG (by kernel_rfl) (by kernel_rfl) (by kernel_rfl) (by kernel_rfl) (by kernel_rfl) ?_
  refine XD.take (i := 17) (l' := (lb 60 262143)) (oA B10 [1, 1, 1, 1, 0] 17) (.v (.bool ((quI (cP ms p (cN ys2)) (cW ms ys2 (cN ys2))) == (quI (cP ms p (cN ys2)) (cW ms ys2 (cN ys2)))))) QOk.ctxG (by kernel_rfl) (by kernel_rfl) (by kernel_rfl) (by kernel_rfl) (by kernel_rfl) ?_
  refine XD.take (i := 18) (l' := (lb 60 524287)) (oA B10 [1, 1, 1, 1, 0] 18) (.v (.bool ((quI (cP ms p (cN ys2)) (cW ms ys2 (cN ys2))) == (quI (cP ms p (cN ys2)) (cW ms ys2 (cN ys2)))))) QOk.ctxG (by kernel_rfl) (by kernel_rfl) (by kernel_rfl) (by kernel_rfl) (by kernel_rfl) ?_
  refine XD.isTrue 47 rfl (by simp) ?_
  refine XD.take (i := 19) (l' := (lb 60 1048575)) (oA B10 [1, 1, 1, 1, 0] 19) (.v (.agg #[.int .i64 ms, .int .i64 p, .int .i64 st, .slice A2 ys2.length (ca - 0), .slice A3 ys3.length (cb - 0)])) QOk.ctxG (by kernel_rfl) (by kernel_rfl) (by kernel_rfl) (by kernel_rfl) (by kernel_rfl) ?_
  refine XD.take (i := 21) (l' := (lb 60 3145727)) (oA B10 [1, 1, 1, 1, 0] 21) (.v (.agg #[.int .i64 (cM ms), .int .i64 (cP ms p (cN ys2)), .int .i64 (cS st), .slice A4 (cN ys2) c4, .slice B4 (cN ys2) d4])) QOk.ctxG (by kernel_rfl) (by kernel_rfl) (by kernel_rfl) (by kernel_rfl) (by kernel_rfl) ?_
  refine XD.take (i := 23) (l' := (lb 60 11534335)) (oA B10 [1, 1, 1, 1, 0] 23) (.own 3 1) QOk.ctxG (by kernel_rfl) (by kernel_rfl) (by kernel_rfl) (by kernel_rfl) (by kernel_rfl) ?_
  refine XD.take (i := 24) (l' := (lb 60 28311551)) (oA B10 [1, 1, 1, 1, 0] 24) (.v (.int .i64 (cP ms p (cN ys2)))) QOk.ctxG (by kernel_rfl) (by kernel_rfl) (by kernel_rfl) (by kernel_rfl) (by kernel_rfl) ?_
  refine XD.norm [1, 2, 3, 4, 47, 48, 50, 53] [1, 3] ⟨88, [(1, .own 1 0), (2, .v (.bool false)), (3, .own 3 0), (4, .v (.int .i64 ((cM ms) * ((cN ys2 : Nat) : Int)))), (47, .v (.bool true)), (48, .v (.agg #[.int .i64 ms, .int .i64 p, .int .i64 st, .slice A2 ys2.length (ca - 0), .slice A3 ys3.length (cb - 0)])), (50, .v (.agg #[.int .i64 (cM ms), .int .i64 (cP ms p (cN ys2)), .int .i64 (cS st), .slice A4 (cN ys2) c4, .slice B4 (cN ys2) d4])), (53, .v (.int .i64 (cP ms p (cN ys2))))], [(1, ⟨71, [.v (.int .i64 ms), .v (.int .i64 p), .v (.int .i64 st), .v (.slice A2 ys2.length (ca - 0)), .v (.slice A3 ys3.length (cb - 0))]⟩), (3, ⟨71, [.v (.int .i64 (cM ms)), .v (.int .i64 (cP ms p (cN ys2))), .v (.int .i64 (cS st)), .v (.slice A4 (cN ys2) c4), .v (.slice B4 (cN ys2) d4)]⟩)]⟩ (by kernel_rfl) ⟨⟨fun _ h => (by cases h; rfl), rfl⟩, ⟨fun _ h => (by cases h; rfl), rfl⟩, trivial⟩ ?_
  refine XD.one (i := 20) (l' := (lb 60 29360127)) (oA B10 [1, 1, 1, 1, 0] 20) (by kernel_rfl) (by kernel_rfl) (by kernel_rfl) ?_
  refine X.callG (f := 43) (l := [.v (.agg #[.int .i64 ms, .int .i64 p, .int .i64 st, .slice A2 ys2.length (ca - 0), .slice A3 ys3.length (cb - 0)])]) [.agg #[.int .i64 ms, .int .i64 p, .int .i64 st, .slice A2 ys2.length (ca - 0), .slice A3 ys3.length (cb - 0)]] 0 (by kernel_rfl) (by kernel_rfl) (by kernel_rfl) (Sent_ok A2 A3 (ca - 0) (cb - 0) ms p st ys2 ys3 _ hr2 hr3 hc2 hc3 hm2 hm3) ?_
  rintro v16 G16 rows16 hG16 ⟨rfl, rfl⟩
  replace hx := hx.mono hG16.le
  replace hy := hy.mono hG16.le
  replace hr2 := hr2.mono hG16.le
  replace hr3 := hr3.mono hG16.le
  replace hr5 := hr5.mono hG16.le
  replace hr6 := hr6.mono hG16.le
  replace hr9 := hr9.mono hG16.le
  replace hr10 := hr10.mono hG16.le
  refine X.back ⟨⟨⟨fun _ h => (by cases h; rfl), rfl⟩, ⟨fun _ h => (by cases h; rfl), rfl⟩, trivial⟩, ((((((((hG8.trans hG9).trans hG10).trans hG11).trans hG12).trans hG13).trans hG14).trans hG15).trans hG16).le, rfl, ?_⟩
  refine XD.norm [1, 2, 3, 4, 47, 49, 50, 53] [1, 3] ⟨88, [(1, .own 1 0), (2, .v (.bool false)), (3, .own 3 0), (4, .v (.int .i64 ((cM ms) * ((cN ys2 : Nat) : Int)))), (47, .v (.bool true)), (49, .v (.int .i64 (min (sumI (cW ms ys2 (cN ys2))) (cP ms p (cN ys2))))), (50, .v (.agg #[.int .i64 (cM ms), .int .i64 (cP ms p (cN ys2)), .int .i64 (cS st), .slice A4 (cN ys2) c4, .slice B4 (cN ys2) d4])), (53, .v (.int .i64 (cP ms p (cN ys2))))], [(1, ⟨71, [.v (.int .i64 ms), .v (.int .i64 p), .v (.int .i64 st), .v (.slice A2 ys2.length (ca - 0)), .v (.slice A3 ys3.length (cb - 0))]⟩), (3, ⟨71, [.v (.int .i64 (cM ms)), .v (.int .i64 (cP ms p (cN ys2))), .v (.int .i64 (cS st)), .v (.slice A4 (cN ys2) c4), .v (.slice B4 (cN ys2) d4)]⟩)]⟩ (by kernel_rfl) ⟨⟨fun _ h => (by cases h; rfl), rfl⟩, ⟨fun _ h => (by cases h; rfl), rfl⟩, trivial⟩ ?_
  refine XD.one (i := 22) (l' := (lb 60 33554431)) (oA B10 [1, 1, 1, 1, 0] 22) (by kernel_rfl) (by kernel_rfl) (by kernel_rfl) ?_
  refine X.callG (f := 36) (l := [.v (.agg #[.int .i64 (cM ms), .int .i64 (cP ms p (cN ys2)), .int .i64 (cS st), .slice A4 (cN ys2) c4, .slice B4 (cN ys2) d4])]) [.agg #[.int .i64 (cM ms), .int .i64 (cP ms p (cN ys2)), .int .i64 (cS st), .slice A4 (cN ys2) c4, .slice B4 (cN ys2) d4]] 0 (by kernel_rfl) (by kernel_rfl) (by kernel_rfl) (RSum_ok A4 B4 c4 d4 (cN ys2) (cM ms) (cP ms p (cN ys2)) (cS st) (cW ms ys2 (cN ys2)) (cH ys3 (cN ys2)) _ hr5 hr6 (cW_len _ _ _) (cH_len _ _) hle5 hle6 hmx5 hmx6 (fun x_ hx_ => by have h_ := hb_ x_ hx_; omega) h256_) ?_
  rintro v17 G17 rows17 hG17 ⟨rfl, rfl⟩
  replace hx := hx.mono hG17.le
  replace hy := hy.mono hG17.le
  replace hr2 := hr2.mono hG17.le
  replace hr3 := hr3.mono hG17.le
  replace hr5 := hr5.mono hG17.le
  replace hr6 := hr6.mono hG17.le
  replace hr9 := hr9.mono hG17.le
  replace hr10 := hr10.mono hG17.le
  refine X.back ⟨⟨⟨fun _ h => (by cases h; rfl), rfl⟩, ⟨fun _ h => (by cases h; rfl), rfl⟩, trivial⟩, (((((((((hG8.trans hG9).trans hG10).trans hG11).trans hG12).trans hG13).trans hG14).trans hG15).trans hG16).trans hG17).le, rfl, ?_⟩
  refine XD.take (i := 25) (l' := (lb 60 67108863)) (oA B10 [1, 1, 1, 1, 0] 25) (.v (.int .i64 (imin (sumI (cW ms ys2 (cN ys2))) (cP ms p (cN ys2))))) QOk.ctxG (by kernel_rfl) (by kernel_rfl) (by kernel_rfl) (by kernel_rfl) (by kernel_rfl) ?_
  refine XD.known 54 (y := .v (.int .i64 (min (sumI (cW ms ys2 (cN ys2))) (cP ms p (cN ys2))))) rfl (congrArg (fun z_ => AV.v (.int .i64 z_)) (by simp only [imin_eq, imax_eq])) ?_
  refine XD.take (i := 26) (l' := (lb 60 134217727)) (oA B10 [1, 1, 1, 1, 0] 26) (.v (.bool ((min (sumI (cW ms ys2 (cN ys2))) (cP ms p (cN ys2))) == (min (sumI (cW ms ys2 (cN ys2))) (cP ms p (cN ys2)))))) QOk.ctxG (by kernel_rfl) (by kernel_rfl) (by kernel_rfl) (by kernel_rfl) (by kernel_rfl) ?_
  refine XD.take (i := 27) (l' := (lb 60 268435455)) (oA B10 [1, 1, 1, 1, 0] 27) (.v (.bool ((min (sumI (cW ms ys2 (cN ys2))) (cP ms p (cN ys2))) == (min (sumI (cW ms ys2 (cN ys2))) (cP ms p (cN ys2)))))) QOk.ctxG (by kernel_rfl) (by kernel_rfl) (by kernel_rfl) (by kernel_rfl) (by kernel_rfl) ?_
  refine XD.take (i := 28) (l' := (lb 60 536870911)) (oA B10 [1, 1, 1, 1, 0] 28) (.v (.bool ((min (sumI (cW ms ys2 (cN ys2))) (cP ms p (cN ys2))) == (min (sumI (cW ms ys2 (cN ys2))) (cP ms p (cN ys2)))))) QOk.ctxG (by kernel_rfl) (by kernel_rfl) (by kernel_rfl) (by kernel_rfl) (by kernel_rfl) ?_
  refine XD.isTrue 57 rfl (by simp) ?_
  refine XD.take (i := 29) (l' := (lb 60 1073741823)) (oA B10 [1, 1, 1, 1, 0] 29) (.v (.agg #[.int .i64 ms, .int .i64 p, .int .i64 st, .slice A2 ys2.length (ca - 0), .slice A3 ys3.length (cb - 0)])) QOk.ctxG (by kernel_rfl) (by kernel_rfl) (by kernel_rfl) (by kernel_rfl) (by kernel_rfl) ?_
  refine XD.take (i := 31) (l' := (lb 60 3221225471)) (oA B10 [1, 1, 1, 1, 0] 31) (.v (.agg #[.int .i64 (cM ms), .int .i64 (cP ms p (cN ys2)), .int .i64 (cS st), .slice A4 (cN ys2) c4, .slice B4 (cN ys2) d4])) QOk.ctxG (by kernel_rfl) (by kernel_rfl) (by kernel_rfl) (by kernel_rfl) (by kernel_rfl) ?_
  refine XD.norm [1, 2, 3, 4, 57, 58, 60] [1, 3] ⟨88, [(1, .own 1 0), (2, .v (.bool false)), (3, .own 3 0), (4, .v (.int .i64 ((cM ms) * ((cN ys2 : Nat) : Int)))), (57, .v (.bool true)), (58, .v (.agg #[.int .i64 ms, .int .i64 p, .int .i64 st, .slice A2 ys2.length (ca - 0), .slice A3 ys3.length (cb - 0)])), (60, .v (.agg #[.int .i64 (cM ms), .int .i64 (cP ms p (cN ys2)), .int .i64 (cS st), .slice A4 (cN ys2) c4, .slice B4 (cN ys2) d4]))], [(1, ⟨71, [.v (.int .i64 ms), .v (.int .i64 p), .v (.int .i64 st), .v (.slice A2 ys2.length (ca - 0)), .v (.slice A3 ys3.length (cb - 0))]⟩), (3, ⟨71, [.v (.int .i64 (cM ms)), .v (.int .i64 (cP ms p (cN ys2))), .v (.int .i64 (cS st)), .v (.slice A4 (cN ys2) c4), .v (.slice B4 (cN ys2) d4)]⟩)]⟩ (by kernel_rfl) ⟨⟨fun _ h => (by cases h; rfl), rfl⟩, ⟨fun _ h => (by cases h; rfl), rfl⟩, trivial⟩ ?_
  refine XD.one (i := 30) (l' := (lb 60 4294967295)) (oA B10 [1, 1, 1, 1, 0] 30) (by kernel_rfl) (by kernel_rfl) (by kernel_rfl) ?_
  refine X.callG (f := 44) (l := [.v (.agg #[.int .i64 ms, .int .i64 p, .int .i64 st, .slice A2 ys2.length (ca - 0), .slice A3 ys3.length (cb - 0)])]) [.agg #[.int .i64 ms, .int .i64 p, .int .i64 st, .slice A2 ys2.length (ca - 0), .slice A3 ys3.length (cb - 0)]] 175 (by kernel_rfl) (by kernel_rfl) (by kernel_rfl) (Next_okn A2 A3 (ca - 0) (cb - 0) ys2.length ys3.length ms p st ys2 ys3 _ hr2 hr3 rfl rfl hc2 hc3 hm2 hm3) ?_
  rintro v18 G18 rows18 hG18 ⟨A18, c18, B18, d18, rfl, rfl⟩
  replace hx := hx.mono hG18.le
  replace hy := hy.mono hG18.le
  replace hr2 := hr2.mono hG18.le
  replace hr3 := hr3.mono hG18.le
  replace hr5 := hr5.mono hG18.le
  replace hr6 := hr6.mono hG18.le
  replace hr9 := hr9.mono hG18.le
  replace hr10 := hr10.mono hG18.le
  refine X.asR (R' := [(175, ⟨2, 1, .slice A18 (cN ys2) c18, cN ys2, (nxW ms p st ys2 ys3).map (Value.int .i64)⟩), (176, ⟨2, 1, .slice B18 (cN ys2) d18, cN ys2, (nxH ms p st ys2 ys3).map (Value.int .i64)⟩)]) rfl ?_
  refine X.tellR [175, 176] (R' := [(175, ⟨2, 1, .slice A18 (cN ys2) c18, cN ys2, (nxW ms p st ys2 ys3).map (Value.int .i64)⟩), (176, ⟨2, 1, .slice B18 (cN ys2) d18, cN ys2, (nxH ms p st ys2 ys3).map (Value.int .i64)⟩)]) rfl ?_
  refine X.capLe (i := 175) (q := ⟨2, 1, .slice A18 (cN ys2) c18, cN ys2, (nxW ms p st ys2 ys3).map (Value.int .i64)⟩) (n := cN ys2) (c := c18) (A := A18) rfl rfl ?_
  intro hle19 hmx19
  refine X.freezeHd (i := 175) (n := cN ys2) (c := c18) (A := A18) (kd := .i64) (nxW ms p st ys2 ys3) rfl rfl (fun x_ hx_ => by have h_ := nxW_range x_ hx_; have h2_ := cM_range ms; simp only [IntKind.lo, IntKind.hi]; omega) (by kernel_rfl) (fun _ h => h) ?_
  intro G19 hG19 hr19
  replace hx := hx.mono hG19.le
  replace hy := hy.mono hG19.le
  replace hr2 := hr2.mono hG19.le
  replace hr3 := hr3.mono hG19.le
  replace hr5 := hr5.mono hG19.le
  replace hr6 := hr6.mono hG19.le
  replace hr9 := hr9.mono hG19.le
  replace hr10 := hr10.mono hG19.le
  refine X.tellR [176] (R' := [(176, ⟨2, 1, .slice B18 (cN ys2) d18, cN ys2, (nxH ms p st ys2 ys3).map (Value.int .i64)⟩)]) rfl ?_
  refine X.capLe (i := 176) (q := ⟨2, 1, .slice B18 (cN ys2) d18, cN ys2, (nxH ms p st ys2 ys3).map (Value.int .i64)⟩) (n := cN ys2) (c := d18) (A := B18) rfl rfl ?_
  intro hle20 hmx20
  refine X.freezeHd (i := 176) (n := cN ys2) (c := d18) (A := B18) (kd := .i64) (nxH ms p st ys2 ys3) rfl rfl (fun x_ hx_ => by have h_ := nxH_range x_ hx_; simp only [IntKind.lo, IntKind.hi]; omega) (by kernel_rfl) (fun _ h => h) ?_
  intro G20 hG20 hr20
  replace hx := hx.mono hG20.le
  replace hy := hy.mono hG20.le
  replace hr2 := hr2.mono hG20.le
  replace hr3 := hr3.mono hG20.le
  replace hr5 := hr5.mono hG20.le
  replace hr6 := hr6.mono hG20.le
  replace hr9 := hr9.mono hG20.le
  replace hr10 := hr10.mono hG20.le
  replace hr19 := hr19.mono hG20.le
  refine X.back ⟨⟨⟨fun _ h => (by cases h; rfl), rfl⟩, ⟨fun _ h => (by cases h; rfl), rfl⟩, trivial⟩, ((((((((((((hG8.trans hG9).trans hG10).trans hG11).trans hG12).trans hG13).trans hG14).trans hG15).trans hG16).trans hG17).trans hG18).trans hG19).trans hG20).le, rfl, ?_⟩
  refine XD.norm [1, 2, 3, 4, 57, 59, 60] [1, 3] ⟨88, [(1, .own 1 0), (2, .v (.bool false)), (3, .own 3 0), (4, .v (.int .i64 ((cM ms) * ((cN ys2 : Nat) : Int)))), (57, .v (.bool true)), (59, .v (.agg #[.int .i64 (cM ms), .int .i64 (cP ms p (cN ys2)), .int .i64 (cS st), .slice A18 (cN ys2) c18, .slice B18 (cN ys2) d18])), (60, .v (.agg #[.int .i64 (cM ms), .int .i64 (cP ms p (cN ys2)), .int .i64 (cS st), .slice A4 (cN ys2) c4, .slice B4 (cN ys2) d4]))], [(1, ⟨71, [.v (.int .i64 ms), .v (.int .i64 p), .v (.int .i64 st), .v (.slice A2 ys2.length (ca - 0)), .v (.slice A3 ys3.length (cb - 0))]⟩), (3, ⟨71, [.v (.int .i64 (cM ms)), .v (.int .i64 (cP ms p (cN ys2))), .v (.int .i64 (cS st)), .v (.slice A4 (cN ys2) c4), .v (.slice B4 (cN ys2) d4)]⟩)]⟩ (by kernel_rfl) ⟨⟨fun _ h => (by cases h; rfl), rfl⟩, ⟨fun _ h => (by cases h; rfl), rfl⟩, trivial⟩ ?_
  refine XD.one (i := 32) (l' := (lb 60 8589934591)) (oA B10 [1, 1, 1, 1, 0] 32) (by kernel_rfl) (by kernel_rfl) (by kernel_rfl) ?_
  refine X.callG (f := 37) (l := [.v (.agg #[.int .i64 (cM ms), .int .i64 (cP ms p (cN ys2)), .int .i64 (cS st), .slice A4 (cN ys2) c4, .slice B4 (cN ys2) d4])]) [.agg #[.int .i64 (cM ms), .int .i64 (cP ms p (cN ys2)), .int .i64 (cS st), .slice A4 (cN ys2) c4, .slice B4 (cN ys2) d4]] 185 (by kernel_rfl) (by kernel_rfl) (by kernel_rfl) (RNext_ok A4 B4 c4 d4 (cN ys2) (cM ms) (cP ms p (cN ys2)) (cS st) (cW ms ys2 (cN ys2)) (cH ys3 (cN ys2)) _ hr5 hr6 (cW_len _ _ _) (cH_len _ _) hle5 hle6 hmx5 hmx6 hb_ hh_ h256_ hm_ hp_) ?_
  rintro v21 G21 rows21 hG21 ⟨A21, c21, B21, d21, rfl, rfl⟩
  replace hx := hx.mono hG21.le
  replace hy := hy.mono hG21.le
  replace hr2 := hr2.mono hG21.le
  replace hr3 := hr3.mono hG21.le
  replace hr5 := hr5.mono hG21.le
  replace hr6 := hr6.mono hG21.le
  replace hr9 := hr9.mono hG21.le
  replace hr10 := hr10.mono hG21.le
  replace hr19 := hr19.mono hG21.le
  replace hr20 := hr20.mono hG21.le
  refine X.asR (R' := [(185, ⟨2, 1, .slice A21 (cN ys2) c21, cN ys2, (nextW (mkd (cP ms p (cN ys2)) (cS st) (cW ms ys2 (cN ys2))) (cM ms) (cW ms ys2 (cN ys2)) (cH ys3 (cN ys2)) (cN ys2)).map (Value.int .i64)⟩), (186, ⟨2, 1, .slice B21 (cN ys2) d21, cN ys2, (nextH (mkd (cP ms p (cN ys2)) (cS st) (cW ms ys2 (cN ys2))) (cH ys3 (cN ys2)) (cN ys2)).map (Value.int .i64)⟩)]) rfl ?_
  refine X.tellR [185, 186] (R' := [(185, ⟨2, 1, .slice A21 (cN ys2) c21, cN ys2, (nextW (mkd (cP ms p (cN ys2)) (cS st) (cW ms ys2 (cN ys2))) (cM ms) (cW ms ys2 (cN ys2)) (cH ys3 (cN ys2)) (cN ys2)).map (Value.int .i64)⟩), (186, ⟨2, 1, .slice B21 (cN ys2) d21, cN ys2, (nextH (mkd (cP ms p (cN ys2)) (cS st) (cW ms ys2 (cN ys2))) (cH ys3 (cN ys2)) (cN ys2)).map (Value.int .i64)⟩)]) rfl ?_
  refine X.capLe (i := 185) (q := ⟨2, 1, .slice A21 (cN ys2) c21, cN ys2, (nextW (mkd (cP ms p (cN ys2)) (cS st) (cW ms ys2 (cN ys2))) (cM ms) (cW ms ys2 (cN ys2)) (cH ys3 (cN ys2)) (cN ys2)).map (Value.int .i64)⟩) (n := cN ys2) (c := c21) (A := A21) rfl rfl ?_
  intro hle22 hmx22
  refine X.freezeHd (i := 185) (n := cN ys2) (c := c21) (A := A21) (kd := .i64) (nextW (mkd (cP ms p (cN ys2)) (cS st) (cW ms ys2 (cN ys2))) (cM ms) (cW ms ys2 (cN ys2)) (cH ys3 (cN ys2)) (cN ys2)) rfl rfl (fun x_ hx_ => by have h_ := nextW_range hm_ hb_ hh_ (cW_len _ _ _) (cH_len _ _) x_ hx_; simp only [IntKind.lo, IntKind.hi]; omega) (by kernel_rfl) (fun _ h => h) ?_
  intro G22 hG22 hr22
  replace hx := hx.mono hG22.le
  replace hy := hy.mono hG22.le
  replace hr2 := hr2.mono hG22.le
  replace hr3 := hr3.mono hG22.le
  replace hr5 := hr5.mono hG22.le
  replace hr6 := hr6.mono hG22.le
  replace hr9 := hr9.mono hG22.le
  replace hr10 := hr10.mono hG22.le
  replace hr19 := hr19.mono hG22.le
  replace hr20 := hr20.mono hG22.le
  refine X.tellR [186] (R' := [(186, ⟨2, 1, .slice B21 (cN ys2) d21, cN ys2, (nextH (mkd (cP ms p (cN ys2)) (cS st) (cW ms ys2 (cN ys2))) (cH ys3 (cN ys2)) (cN ys2)).map (Value.int .i64)⟩)]) rfl ?_
  refine X.capLe (i := 186) (q := ⟨2, 1, .slice B21 (cN ys2) d21, cN ys2, (nextH (mkd (cP ms p (cN ys2)) (cS st) (cW ms ys2 (cN ys2))) (cH ys3 (cN ys2)) (cN ys2)).map (Value.int .i64)⟩) (n := cN ys2) (c := d21) (A := B21) rfl rfl ?_
  intro hle23 hmx23
  refine X.freezeHd (i := 186) (n := cN ys2) (c := d21) (A := B21) (kd := .i64) (nextH (mkd (cP ms p (cN ys2)) (cS st) (cW ms ys2 (cN ys2))) (cH ys3 (cN ys2)) (cN ys2)) rfl rfl (fun x_ hx_ => by have h_ := nextH_range hh_ (cH_len _ _) x_ hx_; simp only [IntKind.lo, IntKind.hi]; omega) (by kernel_rfl) (fun _ h => h) ?_
  intro G23 hG23 hr23
  replace hx := hx.mono hG23.le
  replace hy := hy.mono hG23.le
  replace hr2 := hr2.mono hG23.le
  replace hr3 := hr3.mono hG23.le
  replace hr5 := hr5.mono hG23.le
  replace hr6 := hr6.mono hG23.le
  replace hr9 := hr9.mono hG23.le
  replace hr10 := hr10.mono hG23.le
  replace hr19 := hr19.mono hG23.le
  replace hr20 := hr20.mono hG23.le
  replace hr22 := hr22.mono hG23.le
  refine X.back ⟨⟨⟨fun _ h => (by cases h; rfl), rfl⟩, ⟨fun _ h => (by cases h; rfl), rfl⟩, trivial⟩, (((((((((((((((hG8.trans hG9).trans hG10).trans hG11).trans hG12).trans hG13).trans hG14).trans hG15).trans hG16).trans hG17).trans hG18).trans hG19).trans hG20).trans hG21).trans hG22).trans hG23).le, rfl, ?_⟩
  refine XD.norm [1, 2, 3, 4, 57, 59, 61] [1, 3] ⟨88, [(1, .own 1 0), (2, .v (.bool false)), (3, .own 3 0), (4, .v (.int .i64 ((cM ms) * ((cN ys2 : Nat) : Int)))), (57, .v (.bool true)), (59, .v (.agg #[.int .i64 (cM ms), .int .i64 (cP ms p (cN ys2)), .int .i64 (cS st), .slice A18 (cN ys2) c18, .slice B18 (cN ys2) d18])), (61, .v (.agg #[.int .i64 (cM ms), .int .i64 (cP ms p (cN ys2)), .int .i64 (cS st), .slice A21 (cN ys2) c21, .slice B21 (cN ys2) d21]))], [(1, ⟨71, [.v (.int .i64 ms), .v (.int .i64 p), .v (.int .i64 st), .v (.slice A2 ys2.length (ca - 0)), .v (.slice A3 ys3.length (cb - 0))]⟩), (3, ⟨71, [.v (.int .i64 (cM ms)), .v (.int .i64 (cP ms p (cN ys2))), .v (.int .i64 (cS st)), .v (.slice A4 (cN ys2) c4), .v (.slice B4 (cN ys2) d4)]⟩)]⟩ (by kernel_rfl) ⟨⟨fun _ h => (by cases h; rfl), rfl⟩, ⟨fun _ h => (by cases h; rfl), rfl⟩, trivial⟩ ?_
  refine XD.one (i := 33) (l' := (lb 60 17179869183)) (oA B10 [1, 1, 1, 1, 0] 33) (by kernel_rfl) (by kernel_rfl) (by kernel_rfl) ?_
  refine X.callG (f := 39) (l := [.v (.agg #[.int .i64 (cM ms), .int .i64 (cP ms p (cN ys2)), .int .i64 (cS st), .slice A18 (cN ys2) c18, .slice B18 (cN ys2) d18]), .v (.agg #[.int .i64 (cM ms), .int .i64 (cP ms p (cN ys2)), .int .i64 (cS st), .slice A21 (cN ys2) c21, .slice B21 (cN ys2) d21])]) [.agg #[.int .i64 (cM ms), .int .i64 (cP ms p (cN ys2)), .int .i64 (cS st), .slice A18 (cN ys2) c18, .slice B18 (cN ys2) d18], .agg #[.int .i64 (cM ms), .int .i64 (cP ms p (cN ys2)), .int .i64 (cS st), .slice A21 (cN ys2) c21, .slice B21 (cN ys2) d21]] 0 (by kernel_rfl) (by kernel_rfl) (by kernel_rfl) (RSame_ok A18 B18 A21 B21 c18 d18 c21 d21 (cN ys2) (cM ms) (cP ms p (cN ys2)) (cS st) (nxW ms p st ys2 ys3) (nxH ms p st ys2 ys3) _ hr19 hr20 hr22 hr23 (nxW_len _ _ _ _ _) (nxH_len _ _ _ _ _) hle19 hle20 hle22 hle23 hmx19) ?_
  rintro v24 G24 rows24 hG24 ⟨rfl, rfl⟩
  replace hx := hx.mono hG24.le
  replace hy := hy.mono hG24.le
  replace hr2 := hr2.mono hG24.le
  replace hr3 := hr3.mono hG24.le
  replace hr5 := hr5.mono hG24.le
  replace hr6 := hr6.mono hG24.le
  replace hr9 := hr9.mono hG24.le
  replace hr10 := hr10.mono hG24.le
  replace hr19 := hr19.mono hG24.le
  replace hr20 := hr20.mono hG24.le
  replace hr22 := hr22.mono hG24.le
  replace hr23 := hr23.mono hG24.le
  refine X.back ⟨⟨⟨fun _ h => (by cases h; rfl), rfl⟩, ⟨fun _ h => (by cases h; rfl), rfl⟩, trivial⟩, ((((((((((((((((hG8.trans hG9).trans hG10).trans hG11).trans hG12).trans hG13).trans hG14).trans hG15).trans hG16).trans hG17).trans hG18).trans hG19).trans hG20).trans hG21).trans hG22).trans hG23).trans hG24).le, rfl, ?_⟩
  refine XD.take (i := 34) (l' := (lb 60 34359738367)) (oA B10 [1, 1, 1, 1, 0] 34) (.v (.bool true)) QOk.ctxG (by kernel_rfl) (by kernel_rfl) (by kernel_rfl) (by kernel_rfl) (by kernel_rfl) ?_
  refine XD.take (i := 35) (l' := (lb 60 68719476735)) (oA B10 [1, 1, 1, 1, 0] 35) (.v (.bool true)) QOk.ctxG (by kernel_rfl) (by kernel_rfl) (by kernel_rfl) (by kernel_rfl) (by kernel_rfl) ?_
  refine XD.take (i := 36) (l' := (lb 60 137438953471)) (oA B10 [1, 1, 1, 1, 0] 36) (.v (.agg #[.int .i64 ms, .int .i64 p, .int .i64 st, .slice A2 ys2.length (ca - 0), .slice A3 ys3.length (cb - 0)])) QOk.ctxG (by kernel_rfl) (by kernel_rfl) (by kernel_rfl) (by kernel_rfl) (by kernel_rfl) ?_
  refine XD.take (i := 38) (l' := (lb 60 412316860415)) (oA B10 [1, 1, 1, 1, 0] 38) (.own 3 1) QOk.ctxG (by kernel_rfl) (by kernel_rfl) (by kernel_rfl) (by kernel_rfl) (by kernel_rfl) ?_
  refine XD.take (i := 39) (l' := (lb 60 962072674303)) (oA B10 [1, 1, 1, 1, 0] 39) (.v (.int .i64 (cP ms p (cN ys2)))) QOk.ctxG (by kernel_rfl) (by kernel_rfl) (by kernel_rfl) (by kernel_rfl) (by kernel_rfl) ?_
  refine XD.take (i := 40) (l' := (lb 60 2061584302079)) (oA B10 [1, 1, 1, 1, 0] 40) (.v (.int .i64 ((cM ms) * ((cN ys2 : Nat) : Int)))) QOk.ctxG (by kernel_rfl) (by kernel_rfl) (by kernel_rfl) (by kernel_rfl) (by kernel_rfl) ?_
  refine XD.take (i := 41) (l' := (lb 60 4260607557631)) (oA B10 [1, 1, 1, 1, 0] 41) (.v (.int .i64 (IntKind.i64.wrap ((cP ms p (cN ys2)) + ((cM ms) * ((cN ys2 : Nat) : Int)))))) QOk.ctxG (by kernel_rfl) (by kernel_rfl) (by kernel_rfl) (by kernel_rfl) (by kernel_rfl) ?_
  refine XD.known 70 (y := .v (.int .i64 ((cP ms p (cN ys2)) + ((cM ms) * ((cN ys2 : Nat) : Int))))) rfl (congrArg (fun z_ => AV.v (.int .i64 z_)) (wi64 (by omega) (by omega))) ?_
  refine XD.take (i := 42) (l' := (lb 60 8658654068735)) (oA B10 [1, 1, 1, 1, 0] 42) (.v (.int .i64 (IntKind.i64.wrap (((cP ms p (cN ys2)) + ((cM ms) * ((cN ys2 : Nat) : Int))) - 1)))) QOk.ctxG (by kernel_rfl) (by kernel_rfl) (by kernel_rfl) (by kernel_rfl) (by kernel_rfl) ?_
  refine XD.known 71 (y := .v (.int .i64 (((cP ms p (cN ys2)) + ((cM ms) * ((cN ys2 : Nat) : Int))) - 1))) rfl (congrArg (fun z_ => AV.v (.int .i64 z_)) (wi64 (by omega) (by omega))) ?_
  refine XD.take (i := 43) (l' := (lb 60 17454747090943)) (oA B10 [1, 1, 1, 1, 0] 43) (.v (.int .i64 ((cM ms) * ((cN ys2 : Nat) : Int)))) QOk.ctxG (by kernel_rfl) (by kernel_rfl) (by kernel_rfl) (by kernel_rfl) (by kernel_rfl) ?_
  refine XD.quo (i := 44) (l' := (lb 60 35046933135359)) (oA B10 [1, 1, 1, 1, 0] 44) (t := 2) (t' := 2) (x := .tmp 71) (y := .tmp 72) (kd := .i64) (a := ((cP ms p (cN ys2)) + ((cM ms) * ((cN ys2 : Nat) : Int))) - 1) (b := (cM ms) * ((cN ys2 : Nat) : Int)) QOk.ctxG (by kernel_rfl) (by kernel_rfl) (by kernel_rfl) (by kernel_rfl) (by kernel_rfl) (by kernel_rfl) (by kernel_rfl) (by omega) ?_
  refine XD.norm [1, 2, 3, 4, 64, 65, 73] [1, 3] ⟨88, [(1, .own 1 0), (2, .v (.bool false)), (3, .own 3 0), (4, .v (.int .i64 ((cM ms) * ((cN ys2 : Nat) : Int)))), (64, .v (.bool true)), (65, .v (.agg #[.int .i64 ms, .int .i64 p, .int .i64 st, .slice A2 ys2.length (ca - 0), .slice A3 ys3.length (cb - 0)])), (73, .v (.int .i64 (IntKind.i64.wrap (Int.tdiv (((cP ms p (cN ys2)) + ((cM ms) * ((cN ys2 : Nat) : Int))) - 1) ((cM ms) * ((cN ys2 : Nat) : Int))))))], [(1, ⟨71, [.v (.int .i64 ms), .v (.int .i64 p), .v (.int .i64 st), .v (.slice A2 ys2.length (ca - 0)), .v (.slice A3 ys3.length (cb - 0))]⟩), (3, ⟨71, [.v (.int .i64 (cM ms)), .v (.int .i64 (cP ms p (cN ys2))), .v (.int .i64 (cS st)), .v (.slice A4 (cN ys2) c4), .v (.slice B4 (cN ys2) d4)]⟩)]⟩ (by kernel_rfl) ⟨⟨fun _ h => (by cases h; rfl), rfl⟩, ⟨fun _ h => (by cases h; rfl), rfl⟩, trivial⟩ ?_
  refine XD.one (i := 37) (l' := (lb 60 35184372088831)) (oA B10 [1, 1, 1, 1, 0] 37) (by kernel_rfl) (by kernel_rfl) (by kernel_rfl) ?_
  refine X.callG (f := 45) (l := [.v (.agg #[.int .i64 ms, .int .i64 p, .int .i64 st, .slice A2 ys2.length (ca - 0), .slice A3 ys3.length (cb - 0)])]) [.agg #[.int .i64 ms, .int .i64 p, .int .i64 st, .slice A2 ys2.length (ca - 0), .slice A3 ys3.length (cb - 0)]] 0 (by kernel_rfl) (by kernel_rfl) (by kernel_rfl) (Ramp_ok A2 A3 (ca - 0) (cb - 0) ms p st ys2 ys3 _ hr2 hr3 hc2 hc3 hm2 hm3) ?_
  rintro v25 G25 rows25 hG25 ⟨rfl, rfl⟩
  replace hx := hx.mono hG25.le
  replace hy := hy.mono hG25.le
  replace hr2 := hr2.mono hG25.le
  replace hr3 := hr3.mono hG25.le
  replace hr5 := hr5.mono hG25.le
  replace hr6 := hr6.mono hG25.le
  replace hr9 := hr9.mono hG25.le
  replace hr10 := hr10.mono hG25.le
  replace hr19 := hr19.mono hG25.le
  replace hr20 := hr20.mono hG25.le
  replace hr22 := hr22.mono hG25.le
  replace hr23 := hr23.mono hG25.le
  refine X.back ⟨⟨⟨fun _ h => (by cases h; rfl), rfl⟩, ⟨fun _ h => (by cases h; rfl), rfl⟩, trivial⟩, (((((((((((((((((hG8.trans hG9).trans hG10).trans hG11).trans hG12).trans hG13).trans hG14).trans hG15).trans hG16).trans hG17).trans hG18).trans hG19).trans hG20).trans hG21).trans hG22).trans hG23).trans hG24).trans hG25).le, rfl, ?_⟩
  refine XD.take (i := 45) (l' := (lb 60 70368744177663)) (oA B10 [1, 1, 1, 1, 0] 45) (.v (.bool ((ramI (cP ms p (cN ys2)) (cM ms * (cN ys2 : Int))) == (IntKind.i64.wrap (Int.tdiv (((cP ms p (cN ys2)) + ((cM ms) * ((cN ys2 : Nat) : Int))) - 1) ((cM ms) * ((cN ys2 : Nat) : Int))))))) QOk.ctxG (by kernel_rfl) (by kernel_rfl) (by kernel_rfl) (by kernel_rfl) (by kernel_rfl) ?_
  refine XD.take (i := 46) (l' := (lb 60 140737488355327)) (oA B10 [1, 1, 1, 1, 0] 46) (.v (.bool ((ramI (cP ms p (cN ys2)) (cM ms * (cN ys2 : Int))) == (IntKind.i64.wrap (Int.tdiv (((cP ms p (cN ys2)) + ((cM ms) * ((cN ys2 : Nat) : Int))) - 1) ((cM ms) * ((cN ys2 : Nat) : Int))))))) QOk.ctxG (by kernel_rfl) (by kernel_rfl) (by kernel_rfl) (by kernel_rfl) (by kernel_rfl) ?_
  refine XD.take (i := 47) (l' := (lb 60 281474976710655)) (oA B10 [1, 1, 1, 1, 0] 47) (.v (.bool ((ramI (cP ms p (cN ys2)) (cM ms * (cN ys2 : Int))) == (IntKind.i64.wrap (Int.tdiv (((cP ms p (cN ys2)) + ((cM ms) * ((cN ys2 : Nat) : Int))) - 1) ((cM ms) * ((cN ys2 : Nat) : Int))))))) QOk.ctxG (by kernel_rfl) (by kernel_rfl) (by kernel_rfl) (by kernel_rfl) (by kernel_rfl) ?_
  refine XD.isTrue 76 rfl (by rw [ram_eq hp_ hmn_]; simp) ?_
  refine XD.take (i := 48) (l' := (lb 60 562949953421311)) (oA B10 [1, 1, 1, 1, 0] 48) (.v (.agg #[.int .i64 ms, .int .i64 p, .int .i64 st, .slice A2 ys2.length (ca - 0), .slice A3 ys3.length (cb - 0)])) QOk.ctxG (by kernel_rfl) (by kernel_rfl) (by kernel_rfl) (by kernel_rfl) (by kernel_rfl) ?_
  refine XD.take (i := 50) (l' := (lb 60 1688849860263935)) (oA B10 [1, 1, 1, 1, 0] 50) (.own 3 2) QOk.ctxG (by kernel_rfl) (by kernel_rfl) (by kernel_rfl) (by kernel_rfl) (by kernel_rfl) ?_
  refine XD.take (i := 51) (l' := (lb 60 3940649673949183)) (oA B10 [1, 1, 1, 1, 0] 51) (.v (.int .i64 (cS st))) QOk.ctxG (by kernel_rfl) (by kernel_rfl) (by kernel_rfl) (by kernel_rfl) (by kernel_rfl) ?_
  refine XD.take (i := 52) (l' := (lb 60 8444249301319679)) (oA B10 [1, 1, 1, 1, 0] 52) (.v (.int .i64 ((cM ms) * ((cN ys2 : Nat) : Int)))) QOk.ctxG (by kernel_rfl) (by kernel_rfl) (by kernel_rfl) (by kernel_rfl) (by kernel_rfl) ?_
  refine XD.take (i := 53) (l' := (lb 60 17451448556060671)) (oA B10 [1, 1, 1, 1, 0] 53) (.v (.int .i64 (IntKind.i64.wrap ((cS st) + ((cM ms) * ((cN ys2 : Nat) : Int)))))) QOk.ctxG (by kernel_rfl) (by kernel_rfl) (by kernel_rfl) (by kernel_rfl) (by kernel_rfl) ?_
  refine XD.known 82 (y := .v (.int .i64 ((cS st) + ((cM ms) * ((cN ys2 : Nat) : Int))))) rfl (congrArg (fun z_ => AV.v (.int .i64 z_)) (wi64 (by omega) (by omega))) ?_
  refine XD.norm [1, 2, 3, 76, 77, 82] [1, 3] ⟨88, [(1, .own 1 0), (2, .v (.bool false)), (3, .own 3 0), (76, .v (.bool true)), (77, .v (.agg #[.int .i64 ms, .int .i64 p, .int .i64 st, .slice A2 ys2.length (ca - 0), .slice A3 ys3.length (cb - 0)])), (82, .v (.int .i64 ((cS st) + ((cM ms) * ((cN ys2 : Nat) : Int)))))], [(1, ⟨71, [.v (.int .i64 ms), .v (.int .i64 p), .v (.int .i64 st), .v (.slice A2 ys2.length (ca - 0)), .v (.slice A3 ys3.length (cb - 0))]⟩), (3, ⟨71, [.v (.int .i64 (cM ms)), .v (.int .i64 (cP ms p (cN ys2))), .v (.int .i64 (cS st)), .v (.slice A4 (cN ys2) c4), .v (.slice B4 (cN ys2) d4)]⟩)]⟩ (by kernel_rfl) ⟨⟨fun _ h => (by cases h; rfl), rfl⟩, ⟨fun _ h => (by cases h; rfl), rfl⟩, trivial⟩ ?_
  refine XD.one (i := 49) (l' := (lb 60 18014398509481983)) (oA B10 [1, 1, 1, 1, 0] 49) (by kernel_rfl) (by kernel_rfl) (by kernel_rfl) ?_
  refine X.callG (f := 46) (l := [.v (.agg #[.int .i64 ms, .int .i64 p, .int .i64 st, .slice A2 ys2.length (ca - 0), .slice A3 ys3.length (cb - 0)])]) [.agg #[.int .i64 ms, .int .i64 p, .int .i64 st, .slice A2 ys2.length (ca - 0), .slice A3 ys3.length (cb - 0)]] 0 (by kernel_rfl) (by kernel_rfl) (by kernel_rfl) (Bound_ok A2 A3 (ca - 0) (cb - 0) ms p st ys2 ys3 _ hr2 hr3 hc2 hc3 hm2 hm3) ?_
  rintro v26 G26 rows26 hG26 ⟨rfl, rfl⟩
  replace hx := hx.mono hG26.le
  replace hy := hy.mono hG26.le
  replace hr2 := hr2.mono hG26.le
  replace hr3 := hr3.mono hG26.le
  replace hr5 := hr5.mono hG26.le
  replace hr6 := hr6.mono hG26.le
  replace hr9 := hr9.mono hG26.le
  replace hr10 := hr10.mono hG26.le
  replace hr19 := hr19.mono hG26.le
  replace hr20 := hr20.mono hG26.le
  replace hr22 := hr22.mono hG26.le
  replace hr23 := hr23.mono hG26.le
  refine X.back ⟨⟨⟨fun _ h => (by cases h; rfl), rfl⟩, ⟨fun _ h => (by cases h; rfl), rfl⟩, trivial⟩, ((((((((((((((((((hG8.trans hG9).trans hG10).trans hG11).trans hG12).trans hG13).trans hG14).trans hG15).trans hG16).trans hG17).trans hG18).trans hG19).trans hG20).trans hG21).trans hG22).trans hG23).trans hG24).trans hG25).trans hG26).le, rfl, ?_⟩
  refine XD.take (i := 54) (l' := (lb 60 36028797018963967)) (oA B10 [1, 1, 1, 1, 0] 54) (.v (.bool ((cS st + cM ms * (cN ys2 : Int)) == ((cS st) + ((cM ms) * ((cN ys2 : Nat) : Int)))))) QOk.ctxG (by kernel_rfl) (by kernel_rfl) (by kernel_rfl) (by kernel_rfl) (by kernel_rfl) ?_
  refine XD.take (i := 55) (l' := (lb 60 72057594037927935)) (oA B10 [1, 1, 1, 1, 0] 55) (.v (.bool ((cS st + cM ms * (cN ys2 : Int)) == ((cS st) + ((cM ms) * ((cN ys2 : Nat) : Int)))))) QOk.ctxG (by kernel_rfl) (by kernel_rfl) (by kernel_rfl) (by kernel_rfl) (by kernel_rfl) ?_
  refine XD.take (i := 56) (l' := (lb 60 144115188075855871)) (oA B10 [1, 1, 1, 1, 0] 56) (.v (.bool ((cS st + cM ms * (cN ys2 : Int)) == ((cS st) + ((cM ms) * ((cN ys2 : Nat) : Int)))))) QOk.ctxG (by kernel_rfl) (by kernel_rfl) (by kernel_rfl) (by kernel_rfl) (by kernel_rfl) ?_
  refine XD.isTrue 85 rfl (by simp) ?_
  refine XD.norm [1, 2, 3, 85] [1, 3] ⟨88, [(1, .own 1 0), (2, .v (.bool false)), (3, .own 3 0), (85, .v (.bool true))], [(1, ⟨71, [.v (.int .i64 ms), .v (.int .i64 p), .v (.int .i64 st), .v (.slice A2 ys2.length (ca - 0)), .v (.slice A3 ys3.length (cb - 0))]⟩), (3, ⟨71, [.v (.int .i64 (cM ms)), .v (.int .i64 (cP ms p (cN ys2))), .v (.int .i64 (cS st)), .v (.slice A4 (cN ys2) c4), .v (.slice B4 (cN ys2) d4)]⟩)]⟩ (by kernel_rfl) ⟨⟨fun _ h => (by cases h; rfl), rfl⟩, ⟨fun _ h => (by cases h; rfl), rfl⟩, trivial⟩ ?_
  refine XD.one (i := 57) (l' := (lb 60 288230376151711743)) (oA B10 [1, 1, 1, 1, 0] 57) (by kernel_rfl) (by kernel_rfl) (by kernel_rfl) ?_
  refine X.callG (f := 38) (l := []) [] 0 (by kernel_rfl) (by kernel_rfl) (by kernel_rfl) (Works_ok _) ?_
  rintro v27 G27 rows27 hG27 ⟨rfl, rfl⟩
  replace hx := hx.mono hG27.le
  replace hy := hy.mono hG27.le
  replace hr2 := hr2.mono hG27.le
  replace hr3 := hr3.mono hG27.le
  replace hr5 := hr5.mono hG27.le
  replace hr6 := hr6.mono hG27.le
  replace hr9 := hr9.mono hG27.le
  replace hr10 := hr10.mono hG27.le
  replace hr19 := hr19.mono hG27.le
  replace hr20 := hr20.mono hG27.le
  replace hr22 := hr22.mono hG27.le
  replace hr23 := hr23.mono hG27.le
  refine X.back ⟨⟨⟨fun _ h => (by cases h; rfl), rfl⟩, ⟨fun _ h => (by cases h; rfl), rfl⟩, trivial⟩, (((((((((((((((((((hG8.trans hG9).trans hG10).trans hG11).trans hG12).trans hG13).trans hG14).trans hG15).trans hG16).trans hG17).trans hG18).trans hG19).trans hG20).trans hG21).trans hG22).trans hG23).trans hG24).trans hG25).trans hG26).trans hG27).le, rfl, ?_⟩
  refine XD.take (i := 58) (l' := (lb 60 576460752303423487)) (oA B10 [1, 1, 1, 1, 0] 58) (.v (.bool true)) QOk.ctxG (by kernel_rfl) (by kernel_rfl) (by kernel_rfl) (by kernel_rfl) (by kernel_rfl) ?_
  refine XD.take (i := 59) (l' := (lb 60 1152921504606846975)) (oA B10 [1, 1, 1, 1, 0] 59) (.v (.bool true)) QOk.ctxG (by kernel_rfl) (by kernel_rfl) (by kernel_rfl) (by kernel_rfl) (by kernel_rfl) ?_
  refine XD.done (by kernel_rfl) ?_
  refine X.run 2 [2] [] (.ex .ret) [] ⟨88, [(2, .v (.bool true))], []⟩ (by kernel_rfl) ?_
  refine doneG (.inl rfl) [.bool true] [] (by kernel_rfl) rfl rfl (((((((((((((((((((((((hG4.trans hG5).trans hG6).trans hG8).trans hG9).trans hG10).trans hG11).trans hG12).trans hG13).trans hG14).trans hG15).trans hG16).trans hG17).trans hG18).trans hG19).trans hG20).trans hG21).trans hG22).trans hG23).trans hG24).trans hG25).trans hG26).trans hG27)) ?_
  -- end 1 ()
  exact ⟨rfl, rfl⟩

end Go.Proofs.YthpinlcfcgnilaaX
