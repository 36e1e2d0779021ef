/- rounds.Sum, Queue, Sent: walked. Printed by a small program of this session. Conditions: none. -/
import Derived.Test.YthpinlcfcgnilaaProg
import Derived.KernelRfl
import Derived.Test.YthpinlcfcgnilaaXB3
namespace Go.Proofs.YthpinlcfcgnilaaX
open Go.RowKit
open Go.Proofs.YthpinlcfcgnilaaW.PrintLast Go.Proofs.YthpinlcfcgnilaaW.PrintWords
set_option linter.unusedVariables false
set_option linter.unusedSimpArgs false
set_option maxRecDepth 100000
theorem getD_memI {xs : List Int} {i : Nat} (hi : i < xs.length) : xs.getD i 0 ∈ xs := by
  simp [List.getD, hi]

/-- leat/sat.Sum -/
noncomputable def B91 : Code := bodyOf Try.f91
set_option maxHeartbeats 1000000 in
theorem SumR_ok (A : Option Addr) (c n : Nat) (ns : List Int) (G : Mem) (hr : rowAt (D.int .i64) G A ns) (hn : ns.length = n) (hle : n ≤ c) (hmx : c ≤ maxLen) (hb : ∀ x ∈ ns, 0 ≤ x ∧ x ≤ 1073741824) (h256 : n ≤ 256) : CallsG Try.prog 91 [.slice A n c] G (fun _ v rows => v = .int .i64 (sumI ns) ∧ rows = []) := by
  simp only [maxLen] at hmx
  refine CallsG.enter Try.func91 rfl rfl ?_
  intro w
  refine X.run 19 [2, 3, 6, 7, 8] [] (.code (cA B91 [1, 1, 0, 1, 0])) [.blk 0, .seq (cA B91 [1, 1, 1])] ⟨17, [(2, .v (.int .i64 0)), (3, .v (.int .i64 0)), (6, .v (.slice A n c)), (7, .v (.int .i64 ((n : Nat) : Int))), (8, .v (.int .i64 0))], []⟩ (by kernel_rfl) ?_
  refine X.loopJ (fun m s R' G' => ∃ (q i : Int), s = ⟨17, [(2, .v (.int .i64 0)), (3, .v (.int .i64 q)), (6, .v (.slice A n c)), (7, .v (.int .i64 ((n : Nat) : Int))), (8, .v (.int .i64 i))], []⟩ ∧ R' = [] ∧ Ge G w.heap.size G' ∧ (0 ≤ i ∧ i ≤ (n : Int) ∧ q = sumI (ns.take i.toNat) ∧ 0 ≤ q ∧ q ≤ i * 1073741824) ∧ m = ((n : Int) - i).toNat) _ ⟨0, 0, rfl, rfl, Ge.refl _ _, ⟨by omega, by omega, by simp [sumI], by omega, by omega⟩, rfl⟩ ?_
  rintro m1 s1 R1 G1 ⟨q, i, rfl, rfl, hG1, hF1, rfl⟩ J1 hJ1
  replace hr := hr.mono hG1.le
  obtain ⟨hi0, hi1, hq, hq0, hq1⟩ := hF1
  refine X.run 6 [2, 3, 6, 7, 8, 9] [] (.code (cA B91 [1, 1, 0, 1, 0, 0, 1, 0])) [.seq (cA B91 [1, 1, 0, 1, 0, 0, 1, 1]), .loop J1, .blk 0, .seq (cA B91 [1, 1, 1])] ⟨17, [(2, .v (.int .i64 0)), (3, .v (.int .i64 q)), (6, .v (.slice A n c)), (7, .v (.int .i64 ((n : Nat) : Int))), (8, .v (.int .i64 i)), (9, .v (.bool (decide (i < ((n : Nat) : Int)))))], []⟩ (by kernel_rfl) ?_
  refine X.split 9 rfl (fun h2 => ?_) (fun h2 => ?_)
  · -- slot 9: decide (i < ((n : Nat) : Int)) is True
    replace h2 : i < ((n : Nat) : Int) := of_decide_eq_true h2
    have hbi_ := hb _ (getD_memI (xs := ns) (i := i.toNat) (by omega))
    refine X.run 7 [2, 3, 6, 7, 8] [] (.ops (aA B91 [1, 1, 0, 1, 0, 0, 1, 1, 0, 0, 0]) (oA B91 [1, 1, 0, 1, 0, 0, 1, 1, 0, 0, 0] 0 :: lA B91 [1, 1, 0, 1, 0, 0, 1, 1, 0, 0, 0] 1)) [.seq (cA B91 [1, 1, 0, 1, 0, 0, 1, 1, 0, 0, 1]), .blk 1, .seq (cA B91 [1, 1, 0, 1, 0, 0, 1, 1, 1]), .loop J1, .blk 0, .seq (cA B91 [1, 1, 1])] ⟨17, [(2, .v (.int .i64 0)), (3, .v (.int .i64 q)), (6, .v (.slice A n c)), (7, .v (.int .i64 ((n : Nat) : Int))), (8, .v (.int .i64 i))], []⟩ (by kernel_rfl) ?_
    have b3 : (0 : Int) ≤ i := by omega
    have b4 : i < ((n : Nat) : Int) := by omega
    refine X.index (t := 22) (e := 2) (sz := 1) (A := A) (n := n) (c := c) (ki := .i64) (i := i) (x := .tmp 6) (ix := .tmp 8) (by kernel_rfl) (by kernel_rfl) (by kernel_rfl) (by kernel_rfl) (by kernel_rfl) (by kernel_rfl) b3 b4 (fun _ _ => rowAt.so hr (by omega)) ?_
    obtain ⟨at5, lo5, hi5⟩ := At.int [] hr ((i).toNat) (by omega)
    simp only [IntKind.lo, IntKind.hi] at lo5 hi5
    refine X.load (t := 2) (A := A) (j := (i).toNat * 1) (x := .tmp 10) (z := .int .i64 (ns.getD ((i).toNat) 0)) [.int .i64 (ns.getD ((i).toNat) 0)] (by kernel_rfl) (by kernel_rfl) at5 (by kernel_rfl) (by kernel_rfl) ?_
    refine X.run 6 [2, 3, 6, 7, 8, 12, 13] [] (.ops (aA B91 [1, 1, 0, 1, 0, 0, 1, 1, 0, 0, 1]) (oA B91 [1, 1, 0, 1, 0, 0, 1, 1, 0, 0, 1] 2 :: lA B91 [1, 1, 0, 1, 0, 0, 1, 1, 0, 0, 1] 3)) [.blk 1, .seq (cA B91 [1, 1, 0, 1, 0, 0, 1, 1, 1]), .loop J1, .blk 0, .seq (cA B91 [1, 1, 1])] ⟨17, [(2, .v (.int .i64 0)), (3, .v (.int .i64 q)), (6, .v (.slice A n c)), (7, .v (.int .i64 ((n : Nat) : Int))), (8, .v (.int .i64 i)), (12, .v (.int .i64 q)), (13, .v (.int .i64 (ns.getD ((i).toNat) 0)))], []⟩ (by kernel_rfl) ?_
    refine X.callG (f := 83) (l := [.v (.int .i64 q), .v (.int .i64 (ns.getD ((i).toNat) 0))]) [.int .i64 q, .int .i64 (ns.getD ((i).toNat) 0)] 0 (by kernel_rfl) (by kernel_rfl) (by kernel_rfl) (AddR_ok q (ns.getD ((i).toNat) 0) (by omega) (by omega) _) ?_
    rintro v6 G6 rows6 hG6 ⟨rfl, rfl⟩
    replace hr := hr.mono hG6.le
    refine X.run 8 [2, 3, 6, 7, 8] [] (.ex .normal) [.loop J1, .blk 0, .seq (cA B91 [1, 1, 1])] ⟨17, [(2, .v (.int .i64 0)), (3, .v (.int .i64 (q + (ns.getD ((i).toNat) 0)))), (6, .v (.slice A n c)), (7, .v (.int .i64 ((n : Nat) : Int))), (8, .v (.int .i64 (IntKind.i64.wrap (i + 1))))], []⟩ (by kernel_rfl) ?_
    -- again (T)
    have e1 : IntKind.i64.wrap (i + 1) = i + 1 := wi64 (by omega) (by omega)
    have e0 : (i + 1).toNat = i.toNat + 1 := by omega
    exact X.again (hJ1 _ _ _ _ ⟨q + (ns.getD ((i).toNat) 0), IntKind.i64.wrap (i + 1), rfl, rfl, (hG1.trans hG6), ⟨by omega, by omega, by rw [e1, e0, sumI_take (by omega), ← hq], by omega, by omega⟩, rfl⟩ (by rw [e1]; omega))
  · -- slot 9: decide (i < ((n : Nat) : Int)) is False
    replace h2 : ¬ (i < ((n : Nat) : Int)) := of_decide_eq_false h2
    refine X.run 13 [2] [] (.ex .ret) [] ⟨17, [(2, .v (.int .i64 q))], []⟩ (by kernel_rfl) ?_
    refine doneG (.inl rfl) [.int .i64 q] [] (by kernel_rfl) rfl rfl (hG1) ?_
    -- end 1 (F)
    rw [List.take_of_length_le (by omega)] at hq
    exact ⟨by rw [hq]; rfl, rfl⟩

theorem cP_range (ms p : Int) {n : Nat} (h : n ≤ 256) : 0 ≤ cP ms p n ∧ cP ms p n ≤ 1073741824 := by
  have := cP_lo ms h
  unfold cP
  omega

/-- leat/rounds.sum -/
noncomputable def B67 : Code := bodyOf Try.f67
set_option maxHeartbeats 1000000 in
theorem sum_ok (A B : Option Addr) (ca cb n : Nat) (ms p st : Int) (ws hs : List Int) (G : Mem) (hx : rowAt (D.int .i64) G A ws) (hy : rowAt (D.int .i64) G B hs) (hwn : ws.length = n) (hhn : hs.length = n) (hxc : n ≤ ca) (hyc : n ≤ cb) (hxm : ca ≤ maxLen) (hym : cb ≤ maxLen) (hb : ∀ x ∈ ws, 0 ≤ x ∧ x ≤ 1073741824) (h256 : n ≤ 256) : CallsG Try.prog 67 [.agg #[.int .i64 ms, .int .i64 p, .int .i64 st, .slice A n ca, .slice B n cb]] G (fun _ v rows => v = .int .i64 (sumI ws) ∧ rows = []) := by
  simp only [maxLen] at hxm hym
  refine CallsG.enter Try.func67 rfl rfl ?_
  intro w
  refine X.run 10 [2, 4] [] (.ops (aA B67 [1, 0]) (oA B67 [1, 0] 2 :: lA B67 [1, 0] 3)) [.seq (cA B67 [1, 1])] ⟨6, [(2, .v (.int .i64 0)), (4, .v (.slice A n ca))], []⟩ (by kernel_rfl) ?_
  refine X.callG (f := 91) (l := [.v (.slice A n ca)]) [.slice A n ca] 0 (by kernel_rfl) (by kernel_rfl) (by kernel_rfl) (SumR_ok A ca n ws _ hx hwn hxc hxm hb h256) ?_
  rintro v1 G1 rows1 hG1 ⟨rfl, rfl⟩
  replace hx := hx.mono hG1.le
  replace hy := hy.mono hG1.le
  refine X.run 4 [2] [] (.ex .ret) [] ⟨6, [(2, .v (.int .i64 (sumI ws)))], []⟩ (by kernel_rfl) ?_
  refine doneG (.inl rfl) [.int .i64 (sumI ws)] [] (by kernel_rfl) rfl rfl (hG1) ?_
  -- end 1 ()
  exact ⟨rfl, rfl⟩

/-- leat/rounds.queue -/
noncomputable def B68 : Code := bodyOf Try.f68
set_option maxHeartbeats 1000000 in
theorem queue_ok (A B : Option Addr) (ca cb n : Nat) (ms p st : Int) (ws hs : List Int) (G : Mem) (hx : rowAt (D.int .i64) G A ws) (hy : rowAt (D.int .i64) G B hs) (hwn : ws.length = n) (hhn : hs.length = n) (hxc : n ≤ ca) (hyc : n ≤ cb) (hxm : ca ≤ maxLen) (hym : cb ≤ maxLen) (hb : ∀ x ∈ ws, 0 ≤ x ∧ x ≤ 1073741824) (h256 : n ≤ 256) (hp : 0 ≤ p ∧ p ≤ 1073741824) : CallsG Try.prog 68 [.agg #[.int .i64 ms, .int .i64 p, .int .i64 st, .slice A n ca, .slice B n cb]] G (fun _ v rows => v = .int .i64 (quI p ws) ∧ rows = []) := by
  simp only [maxLen] at hxm hym
  have hsb_ := sumI_bounds hb
  refine CallsG.enter Try.func68 rfl rfl ?_
  intro w
  refine X.run 7 [1, 2] [1] (.code (cA B68 [1, 0])) [.seq (cA B68 [1, 1])] ⟨9, [(1, .own 1 0), (2, .v (.int .i64 0))], [(1, ⟨71, [.v (.int .i64 ms), .v (.int .i64 p), .v (.int .i64 st), .v (.slice A n ca), .v (.slice B n cb)]⟩)]⟩ (by kernel_rfl) ?_
  have hx_d1 := hx
  have hy_d1 := hy
  refine XD.open (id := 1) (arr := aA B68 [1, 0]) 7 [⟨some 1, 1, 71, [.v (.int .i64 ms), .v (.int .i64 p), .v (.int .i64 st), .v (.slice A n ca), .v (.slice B n cb)]⟩] [] [] (by kernel_rfl) (by kernel_rfl) (by kernel_rfl) (by kernel_rfl) (by kernel_rfl) ⟨⟨fun _ h => (by cases h; rfl), rfl⟩, trivial⟩ (by intro p hp hn; simp only [List.mem_cons, List.not_mem_nil, or_false] at hp; rcases hp with rfl <;> first | (cases hn; done) | exact absurd _ (Nat.le_of_ble_eq_true rfl)) rfl (fun ρ0 => ?_)
  refine XD.take (i := 0) (l' := (lb 7 1)) (oA B68 [1, 0] 0) (.v (.agg #[.int .i64 ms, .int .i64 p, .int .i64 st, .slice A n ca, .slice B n cb])) QOk.ctxG (by kernel_rfl) (by kernel_rfl) (by kernel_rfl) (by kernel_rfl) (by kernel_rfl) ?_
  refine XD.take (i := 2) (l' := (lb 7 5)) (oA B68 [1, 0] 2) (.own 1 1) QOk.ctxG (by kernel_rfl) (by kernel_rfl) (by kernel_rfl) (by kernel_rfl) (by kernel_rfl) ?_
  refine XD.take (i := 3) (l' := (lb 7 13)) (oA B68 [1, 0] 3) (.v (.int .i64 p)) QOk.ctxG (by kernel_rfl) (by kernel_rfl) (by kernel_rfl) (by kernel_rfl) (by kernel_rfl) ?_
  refine XD.norm [1, 2, 3, 6] [1] ⟨9, [(1, .own 1 0), (2, .v (.int .i64 0)), (3, .v (.agg #[.int .i64 ms, .int .i64 p, .int .i64 st, .slice A n ca, .slice B n cb])), (6, .v (.int .i64 p))], [(1, ⟨71, [.v (.int .i64 ms), .v (.int .i64 p), .v (.int .i64 st), .v (.slice A n ca), .v (.slice B n cb)]⟩)]⟩ (by kernel_rfl) ⟨⟨fun _ h => (by cases h; rfl), rfl⟩, trivial⟩ ?_
  refine XD.one (i := 1) (l' := (lb 7 15)) (oA B68 [1, 0] 1) (by kernel_rfl) (by kernel_rfl) (by kernel_rfl) ?_
  refine X.callG (f := 67) (l := [.v (.agg #[.int .i64 ms, .int .i64 p, .int .i64 st, .slice A n ca, .slice B n cb])]) [.agg #[.int .i64 ms, .int .i64 p, .int .i64 st, .slice A n ca, .slice B n cb]] 0 (by kernel_rfl) (by kernel_rfl) (by kernel_rfl) (sum_ok A B ca cb n ms p st ws hs _ hx hy hwn hhn hxc hyc hxm hym hb h256) ?_
  rintro v2 G2 rows2 hG2 ⟨rfl, rfl⟩
  replace hx := hx.mono hG2.le
  replace hy := hy.mono hG2.le
  refine X.back ⟨⟨⟨fun _ h => (by cases h; rfl), rfl⟩, trivial⟩, hG2.le, rfl, ?_⟩
  refine XD.take (i := 4) (l' := (lb 7 31)) (oA B68 [1, 0] 4) (.v (.int .i64 (IntKind.i64.wrap ((sumI ws) - p)))) QOk.ctxG (by kernel_rfl) (by kernel_rfl) (by kernel_rfl) (by kernel_rfl) (by kernel_rfl) ?_
  refine XD.known 7 (y := .v (.int .i64 ((sumI ws) - p))) rfl (congrArg (fun z_ => AV.v (.int .i64 z_)) (wi64 (by omega) (by omega))) ?_
  refine XD.take (i := 5) (l' := (lb 7 63)) (oA B68 [1, 0] 5) (.v (.int .i64 (imax ((sumI ws) - p) 0))) QOk.ctxG (by kernel_rfl) (by kernel_rfl) (by kernel_rfl) (by kernel_rfl) (by kernel_rfl) ?_
  refine XD.take (i := 6) (l' := (lb 7 127)) (oA B68 [1, 0] 6) (.v (.int .i64 (imax ((sumI ws) - p) 0))) QOk.ctxG (by kernel_rfl) (by kernel_rfl) (by kernel_rfl) (by kernel_rfl) (by kernel_rfl) ?_
  refine XD.done (by kernel_rfl) ?_
  refine X.run 2 [2] [] (.ex .ret) [] ⟨9, [(2, .v (.int .i64 (imax ((sumI ws) - p) 0)))], []⟩ (by kernel_rfl) ?_
  refine doneG (.inl rfl) [.int .i64 (imax ((sumI ws) - p) 0)] [] (by kernel_rfl) rfl rfl (hG2) ?_
  -- end 1 ()
  refine ⟨?_, rfl⟩
  show Value.int .i64 (imax _ _) = _
  rw [imax_eq]
  rfl

theorem Clean_okn (A B : Option Addr) (ca cb n1 n2 : Nat) (ms p st : Int) (ws hs : List Int) (G : Mem) (hx : rowAt (D.int .i64) G A ws) (hy : rowAt (D.int .i64) G B hs) (h1 : ws.length = n1) (h2 : hs.length = n2) (hxc : n1 ≤ ca) (hyc : n2 ≤ cb) (hxm : ca ≤ maxLen) (hym : cb ≤ maxLen) : CallsG Try.prog 40 [.agg #[.int .i64 ms, .int .i64 p, .int .i64 st, .slice A n1 ca, .slice B n2 cb]] G (fun _ v rows => ∃ A' c' B' d', v = .agg #[.int .i64 (cM ms), .int .i64 (cP ms p (cN ws)), .int .i64 (cS st), .slice A' (cN ws) c', .slice B' (cN ws) d'] ∧ rows = [⟨2, 1, .slice A' (cN ws) c', cN ws, (cW ms ws (cN ws)).map (Value.int .i64)⟩, ⟨2, 1, .slice B' (cN ws) d', cN ws, (cH hs (cN ws)).map (Value.int .i64)⟩]) := by
  subst h1 h2
  exact Clean_ok A B ca cb ms p st ws hs G hx hy hxc hyc hxm hym

/-- leat/rounds.Sum -/
noncomputable def B41 : Code := bodyOf Try.f41
set_option maxHeartbeats 1000000 in
theorem Sum_ok (A B : Option Addr) (ca cb : Nat) (ms p st : Int) (ws hs : List Int) (G : Mem) (hx : rowAt (D.int .i64) G A ws) (hy : rowAt (D.int .i64) G B hs) (hxc : ws.length ≤ ca) (hyc : hs.length ≤ cb) (hxm : ca ≤ maxLen) (hym : cb ≤ maxLen) : CallsG Try.prog 41 [.agg #[.int .i64 ms, .int .i64 p, .int .i64 st, .slice A ws.length ca, .slice B hs.length cb]] G (fun _ v rows => v = .int .i64 (sumI (cW ms ws (cN ws))) ∧ rows = []) := by
  simp only [maxLen] at hxm hym
  refine CallsG.enter Try.func41 rfl rfl ?_
  intro w
  refine X.run 9 [2, 3] [] (.ops (aA B41 [1, 0]) (oA B41 [1, 0] 1 :: lA B41 [1, 0] 2)) [.seq (cA B41 [1, 1])] ⟨6, [(2, .v (.int .i64 0)), (3, .v (.agg #[.int .i64 ms, .int .i64 p, .int .i64 st, .slice A ws.length ca, .slice B hs.length cb]))], []⟩ (by kernel_rfl) ?_
  refine X.callG (f := 40) (l := [.v (.agg #[.int .i64 ms, .int .i64 p, .int .i64 st, .slice A ws.length ca, .slice B hs.length cb])]) [.agg #[.int .i64 ms, .int .i64 p, .int .i64 st, .slice A ws.length ca, .slice B hs.length cb]] 171 (by kernel_rfl) (by kernel_rfl) (by kernel_rfl) (Clean_okn A B ca cb ws.length hs.length ms p st ws hs _ hx hy rfl rfl hxc hyc hxm hym) ?_
  rintro v1 G1 rows1 hG1 ⟨A1, c1, B1, d1, rfl, rfl⟩
  replace hx := hx.mono hG1.le
  replace hy := hy.mono hG1.le
  refine X.asR (R' := [(171, ⟨2, 1, .slice A1 (cN ws) c1, cN ws, (cW ms ws (cN ws)).map (Value.int .i64)⟩), (172, ⟨2, 1, .slice B1 (cN ws) d1, cN ws, (cH hs (cN ws)).map (Value.int .i64)⟩)]) rfl ?_
  refine X.run 0 [2, 4] [] (.ops (aA B41 [1, 0]) (oA B41 [1, 0] 2 :: lA B41 [1, 0] 3)) [.seq (cA B41 [1, 1])] ⟨6, [(2, .v (.int .i64 0)), (4, .v (.agg #[.int .i64 (cM ms), .int .i64 (cP ms p (cN ws)), .int .i64 (cS st), .slice A1 (cN ws) c1, .slice B1 (cN ws) d1]))], []⟩ (by kernel_rfl) ?_
  refine X.capLe (i := 171) (q := ⟨2, 1, .slice A1 (cN ws) c1, cN ws, (cW ms ws (cN ws)).map (Value.int .i64)⟩) (n := cN ws) (c := c1) (A := A1) rfl rfl ?_
  intro hlea2 hmxa2
  refine X.capLe (i := 172) (q := ⟨2, 1, .slice B1 (cN ws) d1, cN ws, (cH hs (cN ws)).map (Value.int .i64)⟩) (n := cN ws) (c := d1) (A := B1) rfl rfl ?_
  intro hleb2 hmxb2
  refine X.callV (f := 67) (l := [.v (.agg #[.int .i64 (cM ms), .int .i64 (cP ms p (cN ws)), .int .i64 (cS st), .slice A1 (cN ws) c1, .slice B1 (cN ws) d1])]) (Q := fun v_ => v_ = .int .i64 (sumI (cW ms ws (cN ws)))) [.agg #[.int .i64 (cM ms), .int .i64 (cP ms p (cN ws)), .int .i64 (cS st), .slice A1 (cN ws) c1, .slice B1 (cN ws) d1]] (by kernel_rfl) (by kernel_rfl) (by kernel_rfl) (fun G1_ hl_ hr_ => (sum_ok A1 B1 c1 d1 (cN ws) (cM ms) (cP ms p (cN ws)) (cS st) (cW ms ws (cN ws)) (cH hs (cN ws)) G1_ (rowLit (hr_ 171 _ rfl) (reps_ints (fun x_ hx_ => by have h_ := cW_range x_ hx_; have h2_ := cM_range ms; simp only [IntKind.lo, IntKind.hi]; omega)) (by decide)) (rowLit (hr_ 172 _ rfl) (reps_ints (fun x_ hx_ => by have h_ := cH_range x_ hx_; simp only [IntKind.lo, IntKind.hi]; omega)) (by decide)) (cW_len _ _ _) (cH_len _ _) hlea2 hleb2 hmxa2 hmxb2 (fun x_ hx_ => by have h_ := cW_range x_ hx_; have h2_ := cM_range ms; omega) (cN_range _).2).mono (fun _ _ _ _ h_ => h_.1)) ?_
  rintro _ rfl
  refine X.run 4 [2] [] (.ex .ret) [] ⟨6, [(2, .v (.int .i64 (sumI (cW ms ws (cN ws)))))], []⟩ (by kernel_rfl) ?_
  refine doneG (.inl rfl) [.int .i64 (sumI (cW ms ws (cN ws)))] [] (by kernel_rfl) rfl rfl (hG1) ?_
  -- end 1 ()
  exact ⟨rfl, rfl⟩

/-- leat/rounds.Queue -/
noncomputable def B42 : Code := bodyOf Try.f42
set_option maxHeartbeats 1000000 in
theorem Queue_ok (A B : Option Addr) (ca cb : Nat) (ms p st : Int) (ws hs : List Int) (G : Mem) (hx : rowAt (D.int .i64) G A ws) (hy : rowAt (D.int .i64) G B hs) (hxc : ws.length ≤ ca) (hyc : hs.length ≤ cb) (hxm : ca ≤ maxLen) (hym : cb ≤ maxLen) : CallsG Try.prog 42 [.agg #[.int .i64 ms, .int .i64 p, .int .i64 st, .slice A ws.length ca, .slice B hs.length cb]] G (fun _ v rows => v = .int .i64 (quI (cP ms p (cN ws)) (cW ms ws (cN ws))) ∧ rows = []) := by
  simp only [maxLen] at hxm hym
  refine CallsG.enter Try.func42 rfl rfl ?_
  intro w
  refine X.run 9 [2, 3] [] (.ops (aA B42 [1, 0]) (oA B42 [1, 0] 1 :: lA B42 [1, 0] 2)) [.seq (cA B42 [1, 1])] ⟨6, [(2, .v (.int .i64 0)), (3, .v (.agg #[.int .i64 ms, .int .i64 p, .int .i64 st, .slice A ws.length ca, .slice B hs.length cb]))], []⟩ (by kernel_rfl) ?_
  refine X.callG (f := 40) (l := [.v (.agg #[.int .i64 ms, .int .i64 p, .int .i64 st, .slice A ws.length ca, .slice B hs.length cb])]) [.agg #[.int .i64 ms, .int .i64 p, .int .i64 st, .slice A ws.length ca, .slice B hs.length cb]] 171 (by kernel_rfl) (by kernel_rfl) (by kernel_rfl) (Clean_okn A B ca cb ws.length hs.length ms p st ws hs _ hx hy rfl rfl hxc hyc hxm hym) ?_
  rintro v1 G1 rows1 hG1 ⟨A1, c1, B1, d1, rfl, rfl⟩
  replace hx := hx.mono hG1.le
  replace hy := hy.mono hG1.le
  refine X.asR (R' := [(171, ⟨2, 1, .slice A1 (cN ws) c1, cN ws, (cW ms ws (cN ws)).map (Value.int .i64)⟩), (172, ⟨2, 1, .slice B1 (cN ws) d1, cN ws, (cH hs (cN ws)).map (Value.int .i64)⟩)]) rfl ?_
  refine X.run 0 [2, 4] [] (.ops (aA B42 [1, 0]) (oA B42 [1, 0] 2 :: lA B42 [1, 0] 3)) [.seq (cA B42 [1, 1])] ⟨6, [(2, .v (.int .i64 0)), (4, .v (.agg #[.int .i64 (cM ms), .int .i64 (cP ms p (cN ws)), .int .i64 (cS st), .slice A1 (cN ws) c1, .slice B1 (cN ws) d1]))], []⟩ (by kernel_rfl) ?_
  refine X.capLe (i := 171) (q := ⟨2, 1, .slice A1 (cN ws) c1, cN ws, (cW ms ws (cN ws)).map (Value.int .i64)⟩) (n := cN ws) (c := c1) (A := A1) rfl rfl ?_
  intro hlea2 hmxa2
  refine X.capLe (i := 172) (q := ⟨2, 1, .slice B1 (cN ws) d1, cN ws, (cH hs (cN ws)).map (Value.int .i64)⟩) (n := cN ws) (c := d1) (A := B1) rfl rfl ?_
  intro hleb2 hmxb2
  refine X.callV (f := 68) (l := [.v (.agg #[.int .i64 (cM ms), .int .i64 (cP ms p (cN ws)), .int .i64 (cS st), .slice A1 (cN ws) c1, .slice B1 (cN ws) d1])]) (Q := fun v_ => v_ = .int .i64 (quI (cP ms p (cN ws)) (cW ms ws (cN ws)))) [.agg #[.int .i64 (cM ms), .int .i64 (cP ms p (cN ws)), .int .i64 (cS st), .slice A1 (cN ws) c1, .slice B1 (cN ws) d1]] (by kernel_rfl) (by kernel_rfl) (by kernel_rfl) (fun G1_ hl_ hr_ => (queue_ok A1 B1 c1 d1 (cN ws) (cM ms) (cP ms p (cN ws)) (cS st) (cW ms ws (cN ws)) (cH hs (cN ws)) G1_ (rowLit (hr_ 171 _ rfl) (reps_ints (fun x_ hx_ => by have h_ := cW_range x_ hx_; have h2_ := cM_range ms; simp only [IntKind.lo, IntKind.hi]; omega)) (by decide)) (rowLit (hr_ 172 _ rfl) (reps_ints (fun x_ hx_ => by have h_ := cH_range x_ hx_; simp only [IntKind.lo, IntKind.hi]; omega)) (by decide)) (cW_len _ _ _) (cH_len _ _) hlea2 hleb2 hmxa2 hmxb2 (fun x_ hx_ => by have h_ := cW_range x_ hx_; have h2_ := cM_range ms; omega) (cN_range _).2 (cP_range _ _ (cN_range _).2)).mono (fun _ _ _ _ h_ => h_.1)) ?_
  rintro _ rfl
  refine X.run 4 [2] [] (.ex .ret) [] ⟨6, [(2, .v (.int .i64 (quI (cP ms p (cN ws)) (cW ms ws (cN ws)))))], []⟩ (by kernel_rfl) ?_
  refine doneG (.inl rfl) [.int .i64 (quI (cP ms p (cN ws)) (cW ms ws (cN ws)))] [] (by kernel_rfl) rfl rfl (hG1) ?_
  -- end 1 ()
  exact ⟨rfl, rfl⟩

/-- leat/rounds.Sent -/
noncomputable def B43 : Code := bodyOf Try.f43
set_option maxHeartbeats 1000000 in
theorem Sent_ok (A B : Option Addr) (ca cb : Nat) (ms p st : Int) (ws hs : List Int) (G : Mem) (hx : rowAt (D.int .i64) G A ws) (hy : rowAt (D.int .i64) G B hs) (hxc : ws.length ≤ ca) (hyc : hs.length ≤ cb) (hxm : ca ≤ maxLen) (hym : cb ≤ maxLen) : CallsG Try.prog 43 [.agg #[.int .i64 ms, .int .i64 p, .int .i64 st, .slice A ws.length ca, .slice B hs.length cb]] G (fun _ v rows => v = .int .i64 (min (sumI (cW ms ws (cN ws))) (cP ms p (cN ws))) ∧ rows = []) := by
  simp only [maxLen] at hxm hym
  refine CallsG.enter Try.func43 rfl rfl ?_
  intro w
  refine X.run 9 [1, 2, 3] [1] (.ops (aA B43 [1, 0]) (oA B43 [1, 0] 1 :: lA B43 [1, 0] 2)) [.seq (cA B43 [1, 1])] ⟨10, [(1, .own 1 0), (2, .v (.int .i64 0)), (3, .v (.agg #[.int .i64 ms, .int .i64 p, .int .i64 st, .slice A ws.length ca, .slice B hs.length cb]))], [(1, ⟨71, [.v (.int .i64 ms), .v (.int .i64 p), .v (.int .i64 st), .v (.slice A ws.length ca), .v (.slice B hs.length cb)]⟩)]⟩ (by kernel_rfl) ?_
  refine X.callG (f := 40) (l := [.v (.agg #[.int .i64 ms, .int .i64 p, .int .i64 st, .slice A ws.length ca, .slice B hs.length cb])]) [.agg #[.int .i64 ms, .int .i64 p, .int .i64 st, .slice A ws.length ca, .slice B hs.length cb]] 171 (by kernel_rfl) (by kernel_rfl) (by kernel_rfl) (Clean_okn A B ca cb ws.length hs.length ms p st ws hs _ hx hy rfl rfl hxc hyc hxm hym) ?_
  rintro v1 G1 rows1 hG1 ⟨A1, c1, B1, d1, rfl, rfl⟩
  replace hx := hx.mono hG1.le
  replace hy := hy.mono hG1.le
  refine X.asR (R' := [(171, ⟨2, 1, .slice A1 (cN ws) c1, cN ws, (cW ms ws (cN ws)).map (Value.int .i64)⟩), (172, ⟨2, 1, .slice B1 (cN ws) d1, cN ws, (cH hs (cN ws)).map (Value.int .i64)⟩)]) rfl ?_
  refine X.run 4 [1, 2] [1] (.code (cA B43 [1, 1, 0])) [.seq (cA B43 [1, 1, 1])] ⟨10, [(1, .own 1 0), (2, .v (.int .i64 0))], [(1, ⟨71, [.v (.int .i64 (cM ms)), .v (.int .i64 (cP ms p (cN ws))), .v (.int .i64 (cS st)), .v (.slice A1 (cN ws) c1), .v (.slice B1 (cN ws) d1)]⟩)]⟩ (by kernel_rfl) ?_
  have hx_d2 := hx
  have hy_d2 := hy
  refine XD.open (id := 2) (arr := aA B43 [1, 1, 0]) 6 [⟨some 1, 1, 71, [.v (.int .i64 (cM ms)), .v (.int .i64 (cP ms p (cN ws))), .v (.int .i64 (cS st)), .v (.slice A1 (cN ws) c1), .v (.slice B1 (cN ws) d1)]⟩] [] [] (by kernel_rfl) (by kernel_rfl) (by kernel_rfl) (by kernel_rfl) (by kernel_rfl) ⟨⟨fun _ h => (by cases h; rfl), rfl⟩, trivial⟩ (by intro p hp hn; simp only [List.mem_cons, List.not_mem_nil, or_false] at hp; rcases hp with rfl <;> first | (cases hn; done) | exact absurd _ (Nat.le_of_ble_eq_true rfl)) rfl (fun ρ0 => ?_)
  refine XD.take (i := 0) (l' := (lb 6 1)) (oA B43 [1, 1, 0] 0) (.v (.agg #[.int .i64 (cM ms), .int .i64 (cP ms p (cN ws)), .int .i64 (cS st), .slice A1 (cN ws) c1, .slice B1 (cN ws) d1])) QOk.ctxG (by kernel_rfl) (by kernel_rfl) (by kernel_rfl) (by kernel_rfl) (by kernel_rfl) ?_
  refine XD.take (i := 2) (l' := (lb 6 5)) (oA B43 [1, 1, 0] 2) (.own 1 1) QOk.ctxG (by kernel_rfl) (by kernel_rfl) (by kernel_rfl) (by kernel_rfl) (by kernel_rfl) ?_
  refine XD.take (i := 3) (l' := (lb 6 13)) (oA B43 [1, 1, 0] 3) (.v (.int .i64 (cP ms p (cN ws)))) QOk.ctxG (by kernel_rfl) (by kernel_rfl) (by kernel_rfl) (by kernel_rfl) (by kernel_rfl) ?_
  refine XD.norm [1, 2, 5, 8] [1] ⟨10, [(1, .own 1 0), (2, .v (.int .i64 0)), (5, .v (.agg #[.int .i64 (cM ms), .int .i64 (cP ms p (cN ws)), .int .i64 (cS st), .slice A1 (cN ws) c1, .slice B1 (cN ws) d1])), (8, .v (.int .i64 (cP ms p (cN ws))))], [(1, ⟨71, [.v (.int .i64 (cM ms)), .v (.int .i64 (cP ms p (cN ws))), .v (.int .i64 (cS st)), .v (.slice A1 (cN ws) c1), .v (.slice B1 (cN ws) d1)]⟩)]⟩ (by kernel_rfl) ⟨⟨fun _ h => (by cases h; rfl), rfl⟩, trivial⟩ ?_
  refine XD.one (i := 1) (l' := (lb 6 15)) (oA B43 [1, 1, 0] 1) (by kernel_rfl) (by kernel_rfl) (by kernel_rfl) ?_
  refine X.capLe (i := 171) (q := ⟨2, 1, .slice A1 (cN ws) c1, cN ws, (cW ms ws (cN ws)).map (Value.int .i64)⟩) (n := cN ws) (c := c1) (A := A1) rfl rfl ?_
  intro hlea3 hmxa3
  refine X.capLe (i := 172) (q := ⟨2, 1, .slice B1 (cN ws) d1, cN ws, (cH hs (cN ws)).map (Value.int .i64)⟩) (n := cN ws) (c := d1) (A := B1) rfl rfl ?_
  intro hleb3 hmxb3
  refine X.callV (f := 67) (l := [.v (.agg #[.int .i64 (cM ms), .int .i64 (cP ms p (cN ws)), .int .i64 (cS st), .slice A1 (cN ws) c1, .slice B1 (cN ws) d1])]) (Q := fun v_ => v_ = .int .i64 (sumI (cW ms ws (cN ws)))) [.agg #[.int .i64 (cM ms), .int .i64 (cP ms p (cN ws)), .int .i64 (cS st), .slice A1 (cN ws) c1, .slice B1 (cN ws) d1]] (by kernel_rfl) (by kernel_rfl) (by kernel_rfl) (fun G1_ hl_ hr_ => (sum_ok A1 B1 c1 d1 (cN ws) (cM ms) (cP ms p (cN ws)) (cS st) (cW ms ws (cN ws)) (cH hs (cN ws)) G1_ (rowLit (hr_ 171 _ rfl) (reps_ints (fun x_ hx_ => by have h_ := cW_range x_ hx_; have h2_ := cM_range ms; simp only [IntKind.lo, IntKind.hi]; omega)) (by decide)) (rowLit (hr_ 172 _ rfl) (reps_ints (fun x_ hx_ => by have h_ := cH_range x_ hx_; simp only [IntKind.lo, IntKind.hi]; omega)) (by decide)) (cW_len _ _ _) (cH_len _ _) hlea3 hleb3 hmxa3 hmxb3 (fun x_ hx_ => by have h_ := cW_range x_ hx_; have h2_ := cM_range ms; omega) (cN_range _).2).mono (fun _ _ _ _ h_ => h_.1)) ?_
  rintro _ rfl
  refine X.back ⟨⟨⟨fun _ h => (by cases h; rfl), rfl⟩, trivial⟩, Le.refl _, rfl, ?_⟩
  refine XD.take (i := 4) (l' := (lb 6 31)) (oA B43 [1, 1, 0] 4) (.v (.int .i64 (imin (sumI (cW ms ws (cN ws))) (cP ms p (cN ws))))) QOk.ctxG (by kernel_rfl) (by kernel_rfl) (by kernel_rfl) (by kernel_rfl) (by kernel_rfl) ?_
  refine XD.take (i := 5) (l' := (lb 6 63)) (oA B43 [1, 1, 0] 5) (.v (.int .i64 (imin (sumI (cW ms ws (cN ws))) (cP ms p (cN ws))))) QOk.ctxG (by kernel_rfl) (by kernel_rfl) (by kernel_rfl) (by kernel_rfl) (by kernel_rfl) ?_
  refine XD.done (by kernel_rfl) ?_
  refine X.run 2 [2] [] (.ex .ret) [] ⟨10, [(2, .v (.int .i64 (imin (sumI (cW ms ws (cN ws))) (cP ms p (cN ws)))))], []⟩ (by kernel_rfl) ?_
  refine doneG (.inl rfl) [.int .i64 (imin (sumI (cW ms ws (cN ws))) (cP ms p (cN ws)))] [] (by kernel_rfl) rfl rfl (hG1) ?_
  -- end 1 ()
  refine ⟨?_, rfl⟩
  show Value.int .i64 (imin _ _) = _
  rw [imin_eq]

end Go.Proofs.YthpinlcfcgnilaaX
