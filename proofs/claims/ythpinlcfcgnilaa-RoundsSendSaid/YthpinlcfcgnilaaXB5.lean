/- rounds.Next: walked. Printed by a small program of this session. Conditions: none. -/
import Derived.Test.YthpinlcfcgnilaaProg
import Derived.KernelRfl
import Derived.Test.YthpinlcfcgnilaaXB4
namespace Go.Proofs.YthpinlcfcgnilaaX
open Go.RowKit
open Go.Proofs.YthpinlcfcgnilaaW.PrintLast Go.Proofs.YthpinlcfcgnilaaW.PrintWords
set_option linter.unusedVariables false
set_option linter.unusedSimpArgs false
set_option maxRecDepth 100000
theorem At.rowInt {kd : IntKind} {G : Mem} {R : List (Nat × Row)} {i n c k : Nat} {r : Row} {A : Option Addr} {ns : List Int} (h : lk R i = some r) (hv : r.v = .slice A n c) (hc : r.cells = ns.map (Value.int kd)) (hk : k < ns.length) : At G R A (k * 1) [.int kd (ns.getD k 0)] := by
  have h1 := At.of_row (G := G) (i := i) h hv
  rw [hc] at h1
  have h2 := h1.sub (vs := [.int kd (ns.getD k 0)]) k (fun j v hj => by
    cases j with
    | zero =>
      simp only [List.length_cons, List.getElem?_cons_zero, Option.some.injEq] at hj
      subst hj
      simp [List.getD, hk]
    | succ j => simp at hj)
  rw [Nat.zero_add] at h2
  rwa [Nat.mul_one]

/-- Windows and shares behind a round. -/
def nxM (ms p st : Int) (ws : List Int) : Bool := mkd (cP ms p (cN ws)) (cS st) (cW ms ws (cN ws))
def nxW (ms p st : Int) (ws hs : List Int) : List Int := nextW (nxM ms p st ws) (cM ms) (cW ms ws (cN ws)) (cH hs (cN ws)) (cN ws)
def nxH (ms p st : Int) (ws hs : List Int) : List Int := nextH (nxM ms p st ws) (cH hs (cN ws)) (cN ws)

/-- leat/rounds.Next-1 -/
noncomputable def B69 : Code := bodyOf Try.f69

/-- leat/rounds.Next-2 -/
noncomputable def B71 : Code := bodyOf Try.f71

/-- leat/rounds.Next -/
noncomputable def B44 : Code := bodyOf Try.f44
set_option maxHeartbeats 1000000 in
theorem Next_ok (A B : Option Addr) (ca cb : Nat) (ms p st : Int) (ws hs : List Int) (G : Mem) (hx : rowAt (D.int .i64) G A ws) (hy : rowAt (D.int .i64) G B hs) (hxc : ws.length ≤ ca) (hyc : hs.length ≤ cb) (hxm : ca ≤ maxLen) (hym : cb ≤ maxLen) : CallsG Try.prog 44 [.agg #[.int .i64 ms, .int .i64 p, .int .i64 st, .slice A ws.length ca, .slice B hs.length cb]] G (fun _ v rows => ∃ A' c' B' d', v = .agg #[.int .i64 (cM ms), .int .i64 (cP ms p (cN ws)), .int .i64 (cS st), .slice A' (cN ws) c', .slice B' (cN ws) d'] ∧ rows = [⟨2, 1, .slice A' (cN ws) c', cN ws, (nxW ms p st ws hs).map (Value.int .i64)⟩, ⟨2, 1, .slice B' (cN ws) d', cN ws, (nxH ms p st ws hs).map (Value.int .i64)⟩]) := by
  simp only [maxLen] at hxm hym
  have hcm_ := cM_range ms
  have hcn_ := cN_range ws
  have hcp_ := cP_lo ms (cN_range ws).2
  refine CallsG.enter Try.func44 rfl rfl ?_
  intro w
  refine X.run 9 [1, 2, 5] [1, 2] (.ops (aA B44 [1, 0]) (oA B44 [1, 0] 1 :: lA B44 [1, 0] 2)) [.seq (cA B44 [1, 1])] ⟨25, [(1, .own 1 0), (2, .own 2 0), (5, .v (.agg #[.int .i64 ms, .int .i64 p, .int .i64 st, .slice A ws.length ca, .slice B hs.length cb]))], [(1, ⟨71, [.v (.int .i64 ms), .v (.int .i64 p), .v (.int .i64 st), .v (.slice A ws.length ca), .v (.slice B hs.length cb)]⟩), (2, ⟨71, [.v (.int .i64 0), .v (.int .i64 0), .v (.int .i64 0), .v (.slice none 0 0), .v (.slice none 0 0)]⟩)]⟩ (by kernel_rfl) ?_
  refine X.callG (f := 40) (l := [.v (.agg #[.int .i64 ms, .int .i64 p, .int .i64 st, .slice A ws.length ca, .slice B hs.length cb])]) [.agg #[.int .i64 ms, .int .i64 p, .int .i64 st, .slice A ws.length ca, .slice B hs.length cb]] 171 (by kernel_rfl) (by kernel_rfl) (by kernel_rfl) (Clean_okn A B ca cb ws.length hs.length ms p st ws hs _ hx hy rfl rfl hxc hyc hxm hym) ?_
  rintro v1 G1 rows1 hG1 ⟨A1, c1, B1, d1, rfl, rfl⟩
  replace hx := hx.mono hG1.le
  replace hy := hy.mono hG1.le
  refine X.asR (R' := [(171, ⟨2, 1, .slice A1 (cN ws) c1, cN ws, (cW ms ws (cN ws)).map (Value.int .i64)⟩), (172, ⟨2, 1, .slice B1 (cN ws) d1, cN ws, (cH hs (cN ws)).map (Value.int .i64)⟩)]) rfl ?_
  refine X.run 11 [1, 2, 3] [1, 2] (.code (cA B44 [1, 1, 1, 0, 0])) [.seq (cA B44 [1, 1, 1, 0, 1]), .seq (cA B44 [1, 1, 1, 1])] ⟨25, [(1, .own 1 0), (2, .own 2 0), (3, .fn 69 [(1, 0)])], [(1, ⟨71, [.v (.int .i64 (cM ms)), .v (.int .i64 (cP ms p (cN ws))), .v (.int .i64 (cS st)), .v (.slice A1 (cN ws) c1), .v (.slice B1 (cN ws) d1)]⟩), (2, ⟨71, [.v (.int .i64 0), .v (.int .i64 0), .v (.int .i64 0), .v (.slice none 0 0), .v (.slice none 0 0)]⟩)]⟩ (by kernel_rfl) ?_
  have hx_d2 := hx
  have hy_d2 := hy
  refine XD.open (id := 3) (arr := aA B44 [1, 1, 1, 0, 0]) 5 [⟨some 1, 1, 71, [.v (.int .i64 (cM ms)), .v (.int .i64 (cP ms p (cN ws))), .v (.int .i64 (cS st)), .v (.slice A1 (cN ws) c1), .v (.slice B1 (cN ws) d1)]⟩] [] [] (by kernel_rfl) (by kernel_rfl) (by kernel_rfl) (by kernel_rfl) (by kernel_rfl) ⟨⟨fun _ h => (by cases h; rfl), rfl⟩, trivial⟩ (by intro p hp hn; simp only [List.mem_cons, List.not_mem_nil, or_false] at hp; rcases hp with rfl <;> first | (cases hn; done) | exact absurd _ (Nat.le_of_ble_eq_true rfl)) rfl (fun ρ0 => ?_)
  refine XD.take (i := 0) (l' := (lb 5 1)) (oA B44 [1, 1, 1, 0, 0] 0) (.v (.agg #[.int .i64 (cM ms), .int .i64 (cP ms p (cN ws)), .int .i64 (cS st), .slice A1 (cN ws) c1, .slice B1 (cN ws) d1])) QOk.ctxG (by kernel_rfl) (by kernel_rfl) (by kernel_rfl) (by kernel_rfl) (by kernel_rfl) ?_
  refine XD.take (i := 2) (l' := (lb 5 5)) (oA B44 [1, 1, 1, 0, 0] 2) (.own 1 2) QOk.ctxG (by kernel_rfl) (by kernel_rfl) (by kernel_rfl) (by kernel_rfl) (by kernel_rfl) ?_
  refine XD.take (i := 3) (l' := (lb 5 13)) (oA B44 [1, 1, 1, 0, 0] 3) (.v (.int .i64 (cS st))) QOk.ctxG (by kernel_rfl) (by kernel_rfl) (by kernel_rfl) (by kernel_rfl) (by kernel_rfl) ?_
  refine XD.norm [1, 2, 3, 8, 11] [1, 2] ⟨25, [(1, .own 1 0), (2, .own 2 0), (3, .fn 69 [(1, 0)]), (8, .v (.agg #[.int .i64 (cM ms), .int .i64 (cP ms p (cN ws)), .int .i64 (cS st), .slice A1 (cN ws) c1, .slice B1 (cN ws) d1])), (11, .v (.int .i64 (cS st)))], [(1, ⟨71, [.v (.int .i64 (cM ms)), .v (.int .i64 (cP ms p (cN ws))), .v (.int .i64 (cS st)), .v (.slice A1 (cN ws) c1), .v (.slice B1 (cN ws) d1)]⟩), (2, ⟨71, [.v (.int .i64 0), .v (.int .i64 0), .v (.int .i64 0), .v (.slice none 0 0), .v (.slice none 0 0)]⟩)]⟩ (by kernel_rfl) ⟨⟨fun _ h => (by cases h; rfl), rfl⟩, trivial⟩ ?_
  refine XD.one (i := 1) (l' := (lb 5 15)) (oA B44 [1, 1, 1, 0, 0] 1) (by kernel_rfl) (by kernel_rfl) (by kernel_rfl) ?_
  refine X.capLe (i := 171) (q := ⟨2, 1, .slice A1 (cN ws) c1, cN ws, (cW ms ws (cN ws)).map (Value.int .i64)⟩) (n := cN ws) (c := c1) (A := A1) rfl rfl ?_
  intro hlea3 hmxa3
  refine X.capLe (i := 172) (q := ⟨2, 1, .slice B1 (cN ws) d1, cN ws, (cH hs (cN ws)).map (Value.int .i64)⟩) (n := cN ws) (c := d1) (A := B1) rfl rfl ?_
  intro hleb3 hmxb3
  refine X.callV (f := 68) (l := [.v (.agg #[.int .i64 (cM ms), .int .i64 (cP ms p (cN ws)), .int .i64 (cS st), .slice A1 (cN ws) c1, .slice B1 (cN ws) d1])]) (Q := fun v_ => v_ = .int .i64 (quI (cP ms p (cN ws)) (cW ms ws (cN ws)))) [.agg #[.int .i64 (cM ms), .int .i64 (cP ms p (cN ws)), .int .i64 (cS st), .slice A1 (cN ws) c1, .slice B1 (cN ws) d1]] (by kernel_rfl) (by kernel_rfl) (by kernel_rfl) (fun G1_ hl_ hr_ => (queue_ok A1 B1 c1 d1 (cN ws) (cM ms) (cP ms p (cN ws)) (cS st) (cW ms ws (cN ws)) (cH hs (cN ws)) G1_ (rowLit (hr_ 171 _ rfl) (reps_ints (fun x_ hx_ => by have h_ := cW_range x_ hx_; have h2_ := cM_range ms; simp only [IntKind.lo, IntKind.hi]; omega)) (by decide)) (rowLit (hr_ 172 _ rfl) (reps_ints (fun x_ hx_ => by have h_ := cH_range x_ hx_; simp only [IntKind.lo, IntKind.hi]; omega)) (by decide)) (cW_len _ _ _) (cH_len _ _) hlea3 hleb3 hmxa3 hmxb3 (fun x_ hx_ => by have h_ := cW_range x_ hx_; have h2_ := cM_range ms; omega) (cN_range _).2 (cP_range _ _ (cN_range _).2)).mono (fun _ _ _ _ h_ => h_.1)) ?_
  rintro _ rfl
  refine X.back ⟨⟨⟨fun _ h => (by cases h; rfl), rfl⟩, trivial⟩, Le.refl _, rfl, ?_⟩
  refine XD.take (i := 4) (l' := (lb 5 31)) (oA B44 [1, 1, 1, 0, 0] 4) (.v (.bool (decide (quI (cP ms p (cN ws)) (cW ms ws (cN ws)) > cS st)))) QOk.ctxG (by kernel_rfl) (by kernel_rfl) (by kernel_rfl) (by kernel_rfl) (by kernel_rfl) ?_
  refine XD.done (by kernel_rfl) ?_
  refine X.run 1 [1, 2, 3, 12] [1, 2] (.code (cA B44 [1, 1, 1, 0, 1])) [.seq (cA B44 [1, 1, 1, 1])] ⟨25, [(1, .own 1 0), (2, .own 2 0), (3, .fn 69 [(1, 0)]), (12, .v (.bool (decide (quI (cP ms p (cN ws)) (cW ms ws (cN ws)) > cS st))))], [(1, ⟨71, [.v (.int .i64 (cM ms)), .v (.int .i64 (cP ms p (cN ws))), .v (.int .i64 (cS st)), .v (.slice A1 (cN ws) c1), .v (.slice B1 (cN ws) d1)]⟩), (2, ⟨71, [.v (.int .i64 0), .v (.int .i64 0), .v (.int .i64 0), .v (.slice none 0 0), .v (.slice none 0 0)]⟩)]⟩ (by kernel_rfl) ?_
  refine X.split 12 rfl (fun h4 => ?_) (fun h4 => ?_)
  · -- slot 12: decide (quI (cP ms p (cN ws)) (cW ms ws (cN ws)) > cS st) is True
    replace h4 : quI (cP ms p (cN ws)) (cW ms ws (cN ws)) > cS st := of_decide_eq_true h4
    have hmk_ := h4
    refine X.run 16 [1, 2, 3, 16, 17] [1, 2] (.code (cA B44 [1, 1, 1, 1, 0, 1, 0])) [.blk 0, .seq (cA B44 [1, 1, 1, 1, 1])] ⟨25, [(1, .own 1 0), (2, .own 2 0), (3, .fn 71 [(1, 0)]), (16, .v (.int .i64 ((cN ws : Nat) : Int))), (17, .v (.int .i64 0))], [(1, ⟨71, [.v (.int .i64 (cM ms)), .v (.int .i64 (cP ms p (cN ws))), .v (.int .i64 (cS st)), .v (.slice A1 (cN ws) c1), .v (.slice B1 (cN ws) d1)]⟩), (2, ⟨71, [.v (.int .i64 0), .v (.int .i64 0), .v (.int .i64 0), .v (.slice none 0 0), .v (.slice none 0 0)]⟩)]⟩ (by kernel_rfl) ?_
    refine X.tellR [171, 172] (R' := [(171, ⟨2, 1, .slice A1 (cN ws) c1, cN ws, (cW ms ws (cN ws)).map (Value.int .i64)⟩), (172, ⟨2, 1, .slice B1 (cN ws) d1, cN ws, (cH hs (cN ws)).map (Value.int .i64)⟩)]) rfl ?_
    refine X.loopJ (fun m s R' G' => ∃ (u_ v_ : List Int) (i : Int), s = ⟨25, [(1, .own 1 0), (2, .own 2 0), (3, .fn 71 [(1, 0)]), (16, .v (.int .i64 ((cN ws : Nat) : Int))), (17, .v (.int .i64 i))], [(1, ⟨71, [.v (.int .i64 (cM ms)), .v (.int .i64 (cP ms p (cN ws))), .v (.int .i64 (cS st)), .v (.slice A1 (cN ws) c1), .v (.slice B1 (cN ws) d1)]⟩), (2, ⟨71, [.v (.int .i64 0), .v (.int .i64 0), .v (.int .i64 0), .v (.slice none 0 0), .v (.slice none 0 0)]⟩)]⟩ ∧ R' = [(171, ⟨2, 1, .slice A1 (cN ws) c1, cN ws, (u_).map (Value.int .i64)⟩), (172, ⟨2, 1, .slice B1 (cN ws) d1, cN ws, (v_).map (Value.int .i64)⟩)] ∧ Ge G1 w.heap.size G' ∧ (0 ≤ i ∧ i ≤ (cN ws : Int) ∧ u_ = mixW true (cM ms) (cW ms ws (cN ws)) (cH hs (cN ws)) (cN ws) i.toNat ∧ v_ = mixH true (cH hs (cN ws)) (cN ws) i.toNat) ∧ m = ((cN ws : Int) - i).toNat) _ ⟨(cW ms ws (cN ws)), (cH hs (cN ws)), 0, rfl, rfl, Ge.refl _ _, ⟨by omega, by omega, (mixW_zero _ _ _ (cW_len _ _ _)).symm, (mixH_zero _ (cH_len _ _)).symm⟩, rfl⟩ ?_
    rintro m5 s5 R5 G5 ⟨u_, v_, i, rfl, rfl, hG5, hF5, rfl⟩ J5 hJ5
    replace hx := hx.mono hG5.le
    replace hy := hy.mono hG5.le
    obtain ⟨hi0, hi1, hu, hv⟩ := hF5
    have hul : u_.length = cN ws := by rw [hu]; exact mixW_len _ _ _ _ _ _
    have hvl : v_.length = cN ws := by rw [hv]; exact mixH_len _ _ _ _
    refine X.run 6 [1, 2, 3, 16, 17, 18] [1, 2] (.code (cA B44 [1, 1, 1, 1, 0, 1, 0, 0, 1, 0])) [.seq (cA B44 [1, 1, 1, 1, 0, 1, 0, 0, 1, 1]), .loop J5, .blk 0, .seq (cA B44 [1, 1, 1, 1, 1])] ⟨25, [(1, .own 1 0), (2, .own 2 0), (3, .fn 71 [(1, 0)]), (16, .v (.int .i64 ((cN ws : Nat) : Int))), (17, .v (.int .i64 i)), (18, .v (.bool (decide (i < ((cN ws : Nat) : Int)))))], [(1, ⟨71, [.v (.int .i64 (cM ms)), .v (.int .i64 (cP ms p (cN ws))), .v (.int .i64 (cS st)), .v (.slice A1 (cN ws) c1), .v (.slice B1 (cN ws) d1)]⟩), (2, ⟨71, [.v (.int .i64 0), .v (.int .i64 0), .v (.int .i64 0), .v (.slice none 0 0), .v (.slice none 0 0)]⟩)]⟩ (by kernel_rfl) ?_
    refine X.split 18 rfl (fun h6 => ?_) (fun h6 => ?_)
    · -- slot 18: decide (i < ((cN ws : Nat) : Int)) is True
      replace h6 : i < ((cN ws : Nat) : Int) := of_decide_eq_true h6
      have hu1 : u_.getD i.toNat 0 = (cW ms ws (cN ws)).getD i.toNat 0 := by rw [hu, mixW_at (by omega), if_neg (by omega)]
      have hv1 : v_.getD i.toNat 0 = (cH hs (cN ws)).getD i.toNat 0 := by rw [hv, mixH_at (by omega), if_neg (by omega)]
      have hur := cW_range _ (getD_memI (xs := (cW ms ws (cN ws))) (i := i.toNat) (by rw [cW_len]; omega))
      have hvr := cH_range _ (getD_memI (xs := (cH hs (cN ws))) (i := i.toNat) (by rw [cH_len]; omega))
      have hu2 := hur
      rw [← hu1] at hu2
      have hv4 := hvr
      rw [← hv1] at hv4
      refine X.run 14 [1, 2, 3, 16, 17, 20, 21] [1, 2] (.ops (aA B44 [1, 1, 1, 1, 0, 1, 0, 0, 1, 1, 0, 0, 1]) (oA B44 [1, 1, 1, 1, 0, 1, 0, 0, 1, 1, 0, 0, 1] 2 :: lA B44 [1, 1, 1, 1, 0, 1, 0, 0, 1, 1, 0, 0, 1] 3)) [.blk 1, .seq (cA B44 [1, 1, 1, 1, 0, 1, 0, 0, 1, 1, 1]), .loop J5, .blk 0, .seq (cA B44 [1, 1, 1, 1, 1])] ⟨25, [(1, .own 1 0), (2, .own 2 0), (3, .fn 71 [(1, 0)]), (16, .v (.int .i64 ((cN ws : Nat) : Int))), (17, .v (.int .i64 i)), (20, .fn 71 [(1, 0)]), (21, .v (.int .i64 i))], [(1, ⟨71, [.v (.int .i64 (cM ms)), .v (.int .i64 (cP ms p (cN ws))), .v (.int .i64 (cS st)), .v (.slice A1 (cN ws) c1), .v (.slice B1 (cN ws) d1)]⟩), (2, ⟨71, [.v (.int .i64 0), .v (.int .i64 0), .v (.int .i64 0), .v (.slice none 0 0), .v (.slice none 0 0)]⟩)]⟩ (by kernel_rfl) ?_
      refine X.inline (f := 71) (l := [.v (.int .i64 i), .own 1 0]) (fn := Try.f71) (c := B71) (by kernel_rfl) (by kernel_rfl) Try.func71 (by kernel_rfl) ?_
      intro Q7 M7 hM7 hQ7 fin7
      refine X.run 1 [0, 1] [1001, 1002] (.code (cA B71 [0])) [.seq (cA B71 [1])] ⟨37, [(0, .v (.int .i64 i)), (1, .own 1001 0)], [(1001, ⟨71, [.v (.int .i64 (cM ms)), .v (.int .i64 (cP ms p (cN ws))), .v (.int .i64 (cS st)), .v (.slice A1 (cN ws) c1), .v (.slice B1 (cN ws) d1)]⟩), (1002, ⟨71, [.v (.int .i64 0), .v (.int .i64 0), .v (.int .i64 0), .v (.slice none 0 0), .v (.slice none 0 0)]⟩)]⟩ (by kernel_rfl) ?_
      have hx_d8 := hx
      have hy_d8 := hy
      refine XD.open (id := 0) (arr := aA B71 [0]) 11 [⟨some 1, 1001, 71, [.v (.int .i64 (cM ms)), .v (.int .i64 (cP ms p (cN ws))), .v (.int .i64 (cS st)), .v (.slice A1 (cN ws) c1), .v (.slice B1 (cN ws) d1)]⟩] [(172, ⟨2, 1, .slice B1 (cN ws) d1, cN ws, (v_).map (Value.int .i64)⟩)] [10] (by kernel_rfl) (by kernel_rfl) (by kernel_rfl) (by kernel_rfl) (by kernel_rfl) ⟨⟨fun _ h => (by cases h; rfl), rfl⟩, trivial⟩ (by intro p hp hn; simp only [List.mem_cons, List.not_mem_nil, or_false] at hp; rcases hp with rfl <;> first | (cases hn; done) | exact hM7 _ (Nat.le_of_ble_eq_true rfl)) rfl (fun ρ0 => ?_)
      refine XD.take (i := 0) (l' := (lb 11 1)) (oA B71 [0] 0) (.own 1001 4) hQ7 (by kernel_rfl) (by kernel_rfl) (by kernel_rfl) (by kernel_rfl) (by kernel_rfl) ?_
      refine XD.take (i := 1) (l' := (lb 11 3)) (oA B71 [0] 1) (.v (.slice B1 (cN ws) d1)) hQ7 (by kernel_rfl) (by kernel_rfl) (by kernel_rfl) (by kernel_rfl) (by kernel_rfl) ?_
      refine XD.take (i := 2) (l' := (lb 11 7)) (oA B71 [0] 2) (.v (.int .i64 i)) hQ7 (by kernel_rfl) (by kernel_rfl) (by kernel_rfl) (by kernel_rfl) (by kernel_rfl) ?_
      refine XD.take (i := 3) (l' := (lb 11 15)) (oA B71 [0] 3) (.own 1001 4) hQ7 (by kernel_rfl) (by kernel_rfl) (by kernel_rfl) (by kernel_rfl) (by kernel_rfl) ?_
      refine XD.take (i := 4) (l' := (lb 11 31)) (oA B71 [0] 4) (.v (.slice B1 (cN ws) d1)) hQ7 (by kernel_rfl) (by kernel_rfl) (by kernel_rfl) (by kernel_rfl) (by kernel_rfl) ?_
      refine XD.take (i := 5) (l' := (lb 11 63)) (oA B71 [0] 5) (.v (.int .i64 i)) hQ7 (by kernel_rfl) (by kernel_rfl) (by kernel_rfl) (by kernel_rfl) (by kernel_rfl) ?_
      have b9 : (0 : Int) ≤ i := by omega
      have b10 : i < ((cN ws : Nat) : Int) := by omega
      have at11 : At G5 [(172, ⟨2, 1, .slice B1 (cN ws) d1, cN ws, (v_).map (Value.int .i64)⟩)] B1 ((i).toNat * 1) [.int .i64 (v_.getD ((i).toNat) 0)] := At.rowInt (i := 172) (r := ⟨2, 1, .slice B1 (cN ws) d1, cN ws, (v_).map (Value.int .i64)⟩) rfl rfl rfl (by rw [hvl]; omega)
      refine XD.index (i := 6) (l' := (lb 11 127)) (o := (oA B71 [0] 6)) (t := 22) (e := 2) (sz := 1) (A := B1) (n := cN ws) (c := d1) (ki := .i64) (j := i) (x := .tmp 8) (ix := .tmp 9) hQ7 (by kernel_rfl) (by kernel_rfl) (by kernel_rfl) (by kernel_rfl) (by kernel_rfl) (by kernel_rfl) (by kernel_rfl) (by kernel_rfl) b9 b10 (rowSome (i := 172) (q := ⟨2, 1, .slice B1 (cN ws) d1, cN ws, (v_).map (Value.int .i64)⟩) rfl rfl (by rw [List.length_map, hvl]; omega)) (by kernel_rfl) ?_
      refine XD.load (i := 7) (l' := (lb 11 255)) (o := (oA B71 [0] 7)) (t := 2) (A := B1) (j := (i).toNat * 1) (x := .tmp 10) (z := .int .i64 (v_.getD ((i).toNat) 0)) [.int .i64 (v_.getD ((i).toNat) 0)] hQ7 (by kernel_rfl) (by kernel_rfl) (by kernel_rfl) (by kernel_rfl) (by kernel_rfl) at11 (by kernel_rfl) (by kernel_rfl) ?_
      refine XD.norm [0, 1, 5, 6, 11] [1001, 1002] ⟨37, [(0, .v (.int .i64 i)), (1, .own 1001 0), (5, .v (.slice B1 (cN ws) d1)), (6, .v (.int .i64 i)), (11, .v (.int .i64 (v_.getD ((i).toNat) 0)))], [(1001, ⟨71, [.v (.int .i64 (cM ms)), .v (.int .i64 (cP ms p (cN ws))), .v (.int .i64 (cS st)), .v (.slice A1 (cN ws) c1), .v (.slice B1 (cN ws) d1)]⟩), (1002, ⟨71, [.v (.int .i64 0), .v (.int .i64 0), .v (.int .i64 0), .v (.slice none 0 0), .v (.slice none 0 0)]⟩)]⟩ (by kernel_rfl) ⟨⟨fun _ h => (by cases h; rfl), rfl⟩, trivial⟩ ?_
      refine XD.one (i := 8) (l' := (lb 11 511)) (oA B71 [0] 8) (by kernel_rfl) (by kernel_rfl) (by kernel_rfl) ?_
      refine X.callG (f := 70) (l := [.v (.int .i64 (v_.getD ((i).toNat) 0)), .v (.int .i64 1048576), .v (.int .i64 4)]) [.int .i64 (v_.getD ((i).toNat) 0), .int .i64 1048576, .int .i64 4] 0 (by kernel_rfl) (by kernel_rfl) (by kernel_rfl) (Toward_ok (v_.getD ((i).toNat) 0) 1048576 (by omega) (by omega) _) ?_
      rintro v12 G12 rows12 hG12 ⟨rfl, rfl⟩
      replace hx := hx.mono hG12.le
      replace hy := hy.mono hG12.le
      have ht12 := tw_range (x := (v_.getD ((i).toNat) 0)) (y := 1048576) (by omega) (by omega)
      refine X.back ⟨⟨⟨fun _ h => (by cases h; rfl), rfl⟩, trivial⟩, hG12.le, rfl, ?_⟩
      have b13 : (0 : Int) ≤ i := by omega
      have b14 : i < ((cN ws : Nat) : Int) := by omega
      have at15 : At G5 [(172, ⟨2, 1, .slice B1 (cN ws) d1, cN ws, (v_).map (Value.int .i64)⟩)] B1 ((i).toNat * 1) [.int .i64 (v_.getD ((i).toNat) 0)] := At.rowInt (i := 172) (r := ⟨2, 1, .slice B1 (cN ws) d1, cN ws, (v_).map (Value.int .i64)⟩) rfl rfl rfl (by rw [hvl]; omega)
      refine XD.index (i := 9) (l' := (lb 11 1023)) (o := (oA B71 [0] 9)) (t := 22) (e := 2) (sz := 1) (A := B1) (n := cN ws) (c := d1) (ki := .i64) (j := i) (x := .tmp 5) (ix := .tmp 6) hQ7 (by kernel_rfl) (by kernel_rfl) (by kernel_rfl) (by kernel_rfl) (by kernel_rfl) (by kernel_rfl) (by kernel_rfl) (by kernel_rfl) b13 b14 (rowSome (i := 172) (q := ⟨2, 1, .slice B1 (cN ws) d1, cN ws, (v_).map (Value.int .i64)⟩) rfl rfl (by rw [List.length_map, hvl]; omega)) (by kernel_rfl) ?_
      refine XD.toE ?_
      refine XE.norm [0, 1, 12, 13] [1001, 1002] ⟨37, [(0, .v (.int .i64 i)), (1, .own 1001 0), (12, .v (.int .i64 (tw (v_.getD ((i).toNat) 0) 1048576))), (13, .v (elt B1 ((i).toNat * 1)))], [(1001, ⟨71, [.v (.int .i64 (cM ms)), .v (.int .i64 (cP ms p (cN ws))), .v (.int .i64 (cS st)), .v (.slice A1 (cN ws) c1), .v (.slice B1 (cN ws) d1)]⟩), (1002, ⟨71, [.v (.int .i64 0), .v (.int .i64 0), .v (.int .i64 0), .v (.slice none 0 0), .v (.slice none 0 0)]⟩)]⟩ (by kernel_rfl) ?_
      refine XE.one (i := 10) (l' := (lb 11 2047)) (oA B71 [0] 10) (by kernel_rfl) (by kernel_rfl) ?_
      refine X.storeElem (i := 172) (t := 2) (j := (i).toNat * 1) (n := cN ws) (c := d1) (q := ⟨2, 1, .slice B1 (cN ws) d1, cN ws, (v_).map (Value.int .i64)⟩) (A := B1) (x := .tmp 13) (y := .tmp 12) (z := .int .i64 (tw (v_.getD ((i).toNat) 0) 1048576)) (by kernel_rfl) (by kernel_rfl) (by kernel_rfl) rfl rfl (by kernel_rfl) (by show _ + 1 ≤ _; simp; omega) (by kernel_rfl) (Nat.succ_pos _) (by kernel_rfl) ?_
      refine X.tellR [172, 171] (R' := [(172, ⟨2, 1, .slice B1 (cN ws) d1, cN ws, (v_.set ((i).toNat) (tw (v_.getD ((i).toNat) 0) 1048576)).map (Value.int .i64)⟩), (171, ⟨2, 1, .slice A1 (cN ws) c1, cN ws, (u_).map (Value.int .i64)⟩)]) (congrArg (fun cs_ => (172, (⟨2, 1, .slice B1 (cN ws) d1, cN ws, cs_⟩ : Row)) :: [(171, ⟨2, 1, .slice A1 (cN ws) c1, cN ws, (u_).map (Value.int .i64)⟩)]) (splice_ints1 (kd := .i64) (l := v_) (j := ((i).toNat)) (x := (tw (v_.getD ((i).toNat) 0) 1048576)) (by (try simp only [List.length_set]); omega))) ?_
      refine X.tellR [172, 171] (R' := [(172, ⟨2, 1, .slice B1 (cN ws) d1, cN ws, (mixH true (cH hs (cN ws)) (cN ws) (i.toNat + 1)).map (Value.int .i64)⟩), (171, ⟨2, 1, .slice A1 (cN ws) c1, cN ws, (u_).map (Value.int .i64)⟩)]) (congrArg (fun ns_ : List Int => (172, (⟨2, 1, .slice B1 (cN ws) d1, cN ws, ns_.map (Value.int .i64)⟩ : Row)) :: [(171, ⟨2, 1, .slice A1 (cN ws) c1, cN ws, (u_).map (Value.int .i64)⟩)]) (show v_.set ((i).toNat) (tw (v_.getD ((i).toNat) 0) 1048576) = mixH true (cH hs (cN ws)) (cN ws) (i.toNat + 1) from by rw [hv]; refine mixH_set ?_; rw [← hv, hv1]; simp [nH])) ?_
      have hv2 : (mixH true (cH hs (cN ws)) (cN ws) (i.toNat + 1)).getD i.toNat 0 = nH true ((cH hs (cN ws)).getD i.toNat 0) := by rw [mixH_at (by omega), if_pos (by omega)]
      have hv3 := nH_range (mk := true) hvr
      rw [← hv2] at hv3
      refine X.back ?_
      refine XE.done (by kernel_rfl) ?_
      refine X.run 6 [0, 1, 15, 16] [1001, 1002] (.ops (aA B71 [1, 0]) (oA B71 [1, 0] 3 :: lA B71 [1, 0] 4)) [.seq (cA B71 [1, 1])] ⟨37, [(0, .v (.int .i64 i)), (1, .own 1001 0), (15, .v (.slice A1 (cN ws) c1)), (16, .v (.int .i64 i))], [(1001, ⟨71, [.v (.int .i64 (cM ms)), .v (.int .i64 (cP ms p (cN ws))), .v (.int .i64 (cS st)), .v (.slice A1 (cN ws) c1), .v (.slice B1 (cN ws) d1)]⟩), (1002, ⟨71, [.v (.int .i64 0), .v (.int .i64 0), .v (.int .i64 0), .v (.slice none 0 0), .v (.slice none 0 0)]⟩)]⟩ (by kernel_rfl) ?_
      have b16 : (0 : Int) ≤ i := by omega
      have b17 : i < ((cN ws : Nat) : Int) := by omega
      refine X.index (t := 22) (e := 2) (sz := 1) (A := A1) (n := cN ws) (c := c1) (ki := .i64) (i := i) (x := .tmp 15) (ix := .tmp 16) (by kernel_rfl) (by kernel_rfl) (by kernel_rfl) (by kernel_rfl) (by kernel_rfl) (by kernel_rfl) b16 b17 (rowSome (i := 171) (q := ⟨2, 1, .slice A1 (cN ws) c1, cN ws, (u_).map (Value.int .i64)⟩) rfl rfl (by rw [List.length_map, hul]; omega)) ?_
      have at18 : At G12 [(172, ⟨2, 1, .slice B1 (cN ws) d1, cN ws, (mixH true (cH hs (cN ws)) (cN ws) (i.toNat + 1)).map (Value.int .i64)⟩), (171, ⟨2, 1, .slice A1 (cN ws) c1, cN ws, (u_).map (Value.int .i64)⟩)] A1 ((i).toNat * 1) [.int .i64 (u_.getD ((i).toNat) 0)] := At.rowInt (i := 171) (r := ⟨2, 1, .slice A1 (cN ws) c1, cN ws, (u_).map (Value.int .i64)⟩) rfl rfl rfl (by rw [hul]; omega)
      refine X.run 0 [0, 1, 17] [1001, 1002] (.ops (aA B71 [1, 0]) (oA B71 [1, 0] 4 :: lA B71 [1, 0] 5)) [.seq (cA B71 [1, 1])] ⟨37, [(0, .v (.int .i64 i)), (1, .own 1001 0), (17, .v (elt A1 ((i).toNat * 1)))], [(1001, ⟨71, [.v (.int .i64 (cM ms)), .v (.int .i64 (cP ms p (cN ws))), .v (.int .i64 (cS st)), .v (.slice A1 (cN ws) c1), .v (.slice B1 (cN ws) d1)]⟩), (1002, ⟨71, [.v (.int .i64 0), .v (.int .i64 0), .v (.int .i64 0), .v (.slice none 0 0), .v (.slice none 0 0)]⟩)]⟩ (by kernel_rfl) ?_
      refine X.load (t := 2) (A := A1) (j := (i).toNat * 1) (x := .tmp 17) (z := .int .i64 (u_.getD ((i).toNat) 0)) [.int .i64 (u_.getD ((i).toNat) 0)] (by kernel_rfl) (by kernel_rfl) at18 (by kernel_rfl) (by kernel_rfl) ?_
      refine X.run 3 [0, 1, 3] [1001, 1002] (.code (cA B71 [1, 1])) [] ⟨37, [(0, .v (.int .i64 i)), (1, .own 1001 0), (3, .v (.int .i64 (u_.getD ((i).toNat) 0)))], [(1001, ⟨71, [.v (.int .i64 (cM ms)), .v (.int .i64 (cP ms p (cN ws))), .v (.int .i64 (cS st)), .v (.slice A1 (cN ws) c1), .v (.slice B1 (cN ws) d1)]⟩), (1002, ⟨71, [.v (.int .i64 0), .v (.int .i64 0), .v (.int .i64 0), .v (.slice none 0 0), .v (.slice none 0 0)]⟩)]⟩ (by kernel_rfl) ?_
      have hx_d19 := hx
      have hy_d19 := hy
      refine XD.open (id := 2) (arr := aA B71 [1, 1]) 19 [⟨some 1, 1001, 71, [.v (.int .i64 (cM ms)), .v (.int .i64 (cP ms p (cN ws))), .v (.int .i64 (cS st)), .v (.slice A1 (cN ws) c1), .v (.slice B1 (cN ws) d1)]⟩] [(172, ⟨2, 1, .slice B1 (cN ws) d1, cN ws, (mixH true (cH hs (cN ws)) (cN ws) (i.toNat + 1)).map (Value.int .i64)⟩), (171, ⟨2, 1, .slice A1 (cN ws) c1, cN ws, (u_).map (Value.int .i64)⟩)] [18] (by kernel_rfl) (by kernel_rfl) (by kernel_rfl) (by kernel_rfl) (by kernel_rfl) ⟨⟨fun _ h => (by cases h; rfl), rfl⟩, trivial⟩ (by intro p hp hn; simp only [List.mem_cons, List.not_mem_nil, or_false] at hp; rcases hp with rfl <;> first | (cases hn; done) | exact hM7 _ (Nat.le_of_ble_eq_true rfl)) rfl (fun ρ0 => ?_)
      refine XD.take (i := 0) (l' := (lb 19 1)) (oA B71 [1, 1] 0) (.own 1001 3) hQ7 (by kernel_rfl) (by kernel_rfl) (by kernel_rfl) (by kernel_rfl) (by kernel_rfl) ?_
      refine XD.take (i := 1) (l' := (lb 19 3)) (oA B71 [1, 1] 1) (.v (.slice A1 (cN ws) c1)) hQ7 (by kernel_rfl) (by kernel_rfl) (by kernel_rfl) (by kernel_rfl) (by kernel_rfl) ?_
      refine XD.take (i := 2) (l' := (lb 19 7)) (oA B71 [1, 1] 2) (.v (.int .i64 i)) hQ7 (by kernel_rfl) (by kernel_rfl) (by kernel_rfl) (by kernel_rfl) (by kernel_rfl) ?_
      refine XD.take (i := 3) (l' := (lb 19 15)) (oA B71 [1, 1] 3) (.v (.int .i64 (u_.getD ((i).toNat) 0))) hQ7 (by kernel_rfl) (by kernel_rfl) (by kernel_rfl) (by kernel_rfl) (by kernel_rfl) ?_
      refine XD.take (i := 4) (l' := (lb 19 31)) (oA B71 [1, 1] 4) (.v (.int .i64 (u_.getD ((i).toNat) 0))) hQ7 (by kernel_rfl) (by kernel_rfl) (by kernel_rfl) (by kernel_rfl) (by kernel_rfl) ?_
      refine XD.take (i := 5) (l' := (lb 19 63)) (oA B71 [1, 1] 5) (.own 1001 4) hQ7 (by kernel_rfl) (by kernel_rfl) (by kernel_rfl) (by kernel_rfl) (by kernel_rfl) ?_
      refine XD.take (i := 6) (l' := (lb 19 127)) (oA B71 [1, 1] 6) (.v (.slice B1 (cN ws) d1)) hQ7 (by kernel_rfl) (by kernel_rfl) (by kernel_rfl) (by kernel_rfl) (by kernel_rfl) ?_
      refine XD.take (i := 7) (l' := (lb 19 255)) (oA B71 [1, 1] 7) (.v (.int .i64 i)) hQ7 (by kernel_rfl) (by kernel_rfl) (by kernel_rfl) (by kernel_rfl) (by kernel_rfl) ?_
      have b20 : (0 : Int) ≤ i := by omega
      have b21 : i < ((cN ws : Nat) : Int) := by omega
      have at22 : At G12 [(172, ⟨2, 1, .slice B1 (cN ws) d1, cN ws, (mixH true (cH hs (cN ws)) (cN ws) (i.toNat + 1)).map (Value.int .i64)⟩), (171, ⟨2, 1, .slice A1 (cN ws) c1, cN ws, (u_).map (Value.int .i64)⟩)] B1 ((i).toNat * 1) [.int .i64 ((mixH true (cH hs (cN ws)) (cN ws) (i.toNat + 1)).getD ((i).toNat) 0)] := At.rowInt (i := 172) (r := ⟨2, 1, .slice B1 (cN ws) d1, cN ws, (mixH true (cH hs (cN ws)) (cN ws) (i.toNat + 1)).map (Value.int .i64)⟩) rfl rfl rfl (by rw [(mixH_len _ _ _ _)]; omega)
      refine XD.index (i := 8) (l' := (lb 19 511)) (o := (oA B71 [1, 1] 8)) (t := 22) (e := 2) (sz := 1) (A := B1) (n := cN ws) (c := d1) (ki := .i64) (j := i) (x := .tmp 25) (ix := .tmp 26) hQ7 (by kernel_rfl) (by kernel_rfl) (by kernel_rfl) (by kernel_rfl) (by kernel_rfl) (by kernel_rfl) (by kernel_rfl) (by kernel_rfl) b20 b21 (rowSome (i := 172) (q := ⟨2, 1, .slice B1 (cN ws) d1, cN ws, (mixH true (cH hs (cN ws)) (cN ws) (i.toNat + 1)).map (Value.int .i64)⟩) rfl rfl (by rw [List.length_map, (mixH_len _ _ _ _)]; omega)) (by kernel_rfl) ?_
      refine XD.load (i := 9) (l' := (lb 19 1023)) (o := (oA B71 [1, 1] 9)) (t := 2) (A := B1) (j := (i).toNat * 1) (x := .tmp 27) (z := .int .i64 ((mixH true (cH hs (cN ws)) (cN ws) (i.toNat + 1)).getD ((i).toNat) 0)) [.int .i64 ((mixH true (cH hs (cN ws)) (cN ws) (i.toNat + 1)).getD ((i).toNat) 0)] hQ7 (by kernel_rfl) (by kernel_rfl) (by kernel_rfl) (by kernel_rfl) (by kernel_rfl) at22 (by kernel_rfl) (by kernel_rfl) ?_
      refine XD.take (i := 13) (l' := (lb 19 9215)) (oA B71 [1, 1] 13) (.own 1001 0) hQ7 (by kernel_rfl) (by kernel_rfl) (by kernel_rfl) (by kernel_rfl) (by kernel_rfl) ?_
      refine XD.take (i := 14) (l' := (lb 19 25599)) (oA B71 [1, 1] 14) (.v (.int .i64 (cM ms))) hQ7 (by kernel_rfl) (by kernel_rfl) (by kernel_rfl) (by kernel_rfl) (by kernel_rfl) ?_
      refine XD.take (i := 15) (l' := (lb 19 58367)) (oA B71 [1, 1] 15) (.v (.int .i64 (IntKind.i64.wrap (2 * (cM ms))))) hQ7 (by kernel_rfl) (by kernel_rfl) (by kernel_rfl) (by kernel_rfl) (by kernel_rfl) ?_
      refine XD.known 34 (y := .v (.int .i64 (2 * (cM ms)))) rfl (congrArg (fun z_ => AV.v (.int .i64 z_)) (wi64 (by omega) (by omega))) ?_
      refine XD.norm [1, 20, 21, 22, 23, 28, 34] [1001, 1002] ⟨37, [(1, .own 1001 0), (20, .v (.slice A1 (cN ws) c1)), (21, .v (.int .i64 i)), (22, .v (.int .i64 (u_.getD ((i).toNat) 0))), (23, .v (.int .i64 (u_.getD ((i).toNat) 0))), (28, .v (.int .i64 ((mixH true (cH hs (cN ws)) (cN ws) (i.toNat + 1)).getD ((i).toNat) 0))), (34, .v (.int .i64 (2 * (cM ms))))], [(1001, ⟨71, [.v (.int .i64 (cM ms)), .v (.int .i64 (cP ms p (cN ws))), .v (.int .i64 (cS st)), .v (.slice A1 (cN ws) c1), .v (.slice B1 (cN ws) d1)]⟩), (1002, ⟨71, [.v (.int .i64 0), .v (.int .i64 0), .v (.int .i64 0), .v (.slice none 0 0), .v (.slice none 0 0)]⟩)]⟩ (by kernel_rfl) ⟨⟨fun _ h => (by cases h; rfl), rfl⟩, trivial⟩ ?_
      refine XD.one (i := 10) (l' := (lb 19 59391)) (oA B71 [1, 1] 10) (by kernel_rfl) (by kernel_rfl) (by kernel_rfl) ?_
      refine X.callG (f := 73) (l := [.v (.int .i64 ((mixH true (cH hs (cN ws)) (cN ws) (i.toNat + 1)).getD ((i).toNat) 0)), .v (.int .i64 1)]) [.int .i64 ((mixH true (cH hs (cN ws)) (cN ws) (i.toNat + 1)).getD ((i).toNat) 0), .int .i64 1] 0 (by kernel_rfl) (by kernel_rfl) (by kernel_rfl) (Halve_ok ((mixH true (cH hs (cN ws)) (cN ws) (i.toNat + 1)).getD ((i).toNat) 0) _) ?_
      rintro v23 G23 rows23 hG23 ⟨rfl, rfl⟩
      replace hx := hx.mono hG23.le
      replace hy := hy.mono hG23.le
      refine X.back ⟨⟨⟨fun _ h => (by cases h; rfl), rfl⟩, trivial⟩, hG23.le, rfl, ?_⟩
      refine XD.norm [1, 20, 21, 22, 23, 29, 34] [1001, 1002] ⟨37, [(1, .own 1001 0), (20, .v (.slice A1 (cN ws) c1)), (21, .v (.int .i64 i)), (22, .v (.int .i64 (u_.getD ((i).toNat) 0))), (23, .v (.int .i64 (u_.getD ((i).toNat) 0))), (29, .v (.int .i64 (((mixH true (cH hs (cN ws)) (cN ws) (i.toNat + 1)).getD ((i).toNat) 0) / 2))), (34, .v (.int .i64 (2 * (cM ms))))], [(1001, ⟨71, [.v (.int .i64 (cM ms)), .v (.int .i64 (cP ms p (cN ws))), .v (.int .i64 (cS st)), .v (.slice A1 (cN ws) c1), .v (.slice B1 (cN ws) d1)]⟩), (1002, ⟨71, [.v (.int .i64 0), .v (.int .i64 0), .v (.int .i64 0), .v (.slice none 0 0), .v (.slice none 0 0)]⟩)]⟩ (by kernel_rfl) ⟨⟨fun _ h => (by cases h; rfl), rfl⟩, trivial⟩ ?_
      refine XD.one (i := 11) (l' := (lb 19 61439)) (oA B71 [1, 1] 11) (by kernel_rfl) (by kernel_rfl) (by kernel_rfl) ?_
      refine X.callG (f := 72) (l := [.v (.int .i64 (u_.getD ((i).toNat) 0)), .v (.int .i64 (((mixH true (cH hs (cN ws)) (cN ws) (i.toNat + 1)).getD ((i).toNat) 0) / 2))]) [.int .i64 (u_.getD ((i).toNat) 0), .int .i64 (((mixH true (cH hs (cN ws)) (cN ws) (i.toNat + 1)).getD ((i).toNat) 0) / 2)] 0 (by kernel_rfl) (by kernel_rfl) (by kernel_rfl) (Part_ok (u_.getD ((i).toNat) 0) (((mixH true (cH hs (cN ws)) (cN ws) (i.toNat + 1)).getD ((i).toNat) 0) / 2) (by omega) (by omega) _) ?_
      rintro v24 G24 rows24 hG24 ⟨rfl, rfl⟩
      replace hx := hx.mono hG24.le
      replace hy := hy.mono hG24.le
      have hpr24 := pt_range (u := (u_.getD ((i).toNat) 0)) (f := ((mixH true (cH hs (cN ws)) (cN ws) (i.toNat + 1)).getD ((i).toNat) 0) / 2) (by omega) (by omega)
      refine X.back ⟨⟨⟨fun _ h => (by cases h; rfl), rfl⟩, trivial⟩, (hG23.trans hG24).le, rfl, ?_⟩
      refine XD.take (i := 12) (l' := (lb 19 65535)) (oA B71 [1, 1] 12) (.v (.int .i64 (IntKind.i64.wrap ((u_.getD ((i).toNat) 0) - (pt (u_.getD ((i).toNat) 0) (((mixH true (cH hs (cN ws)) (cN ws) (i.toNat + 1)).getD ((i).toNat) 0) / 2)))))) hQ7 (by kernel_rfl) (by kernel_rfl) (by kernel_rfl) (by kernel_rfl) (by kernel_rfl) ?_
      refine XD.known 31 (y := .v (.int .i64 ((u_.getD ((i).toNat) 0) - (pt (u_.getD ((i).toNat) 0) (((mixH true (cH hs (cN ws)) (cN ws) (i.toNat + 1)).getD ((i).toNat) 0) / 2))))) rfl (congrArg (fun z_ => AV.v (.int .i64 z_)) (wi64 (by omega) (by omega))) ?_
      refine XD.take (i := 16) (l' := (lb 19 131071)) (oA B71 [1, 1] 16) (.v (.int .i64 (imax ((u_.getD ((i).toNat) 0) - (pt (u_.getD ((i).toNat) 0) (((mixH true (cH hs (cN ws)) (cN ws) (i.toNat + 1)).getD ((i).toNat) 0) / 2))) (2 * (cM ms))))) hQ7 (by kernel_rfl) (by kernel_rfl) (by kernel_rfl) (by kernel_rfl) (by kernel_rfl) ?_
      have b25 : (0 : Int) ≤ i := by omega
      have b26 : i < ((cN ws : Nat) : Int) := by omega
      have at27 : At G12 [(172, ⟨2, 1, .slice B1 (cN ws) d1, cN ws, (mixH true (cH hs (cN ws)) (cN ws) (i.toNat + 1)).map (Value.int .i64)⟩), (171, ⟨2, 1, .slice A1 (cN ws) c1, cN ws, (u_).map (Value.int .i64)⟩)] A1 ((i).toNat * 1) [.int .i64 (u_.getD ((i).toNat) 0)] := At.rowInt (i := 171) (r := ⟨2, 1, .slice A1 (cN ws) c1, cN ws, (u_).map (Value.int .i64)⟩) rfl rfl rfl (by rw [hul]; omega)
      refine XD.index (i := 17) (l' := (lb 19 262143)) (o := (oA B71 [1, 1] 17)) (t := 22) (e := 2) (sz := 1) (A := A1) (n := cN ws) (c := c1) (ki := .i64) (j := i) (x := .tmp 20) (ix := .tmp 21) hQ7 (by kernel_rfl) (by kernel_rfl) (by kernel_rfl) (by kernel_rfl) (by kernel_rfl) (by kernel_rfl) (by kernel_rfl) (by kernel_rfl) b25 b26 (rowSome (i := 171) (q := ⟨2, 1, .slice A1 (cN ws) c1, cN ws, (u_).map (Value.int .i64)⟩) rfl rfl (by rw [List.length_map, hul]; omega)) (by kernel_rfl) ?_
      refine XD.toE ?_
      refine XE.norm [1, 35, 36] [1001, 1002] ⟨37, [(1, .own 1001 0), (35, .v (.int .i64 (imax ((u_.getD ((i).toNat) 0) - (pt (u_.getD ((i).toNat) 0) (((mixH true (cH hs (cN ws)) (cN ws) (i.toNat + 1)).getD ((i).toNat) 0) / 2))) (2 * (cM ms))))), (36, .v (elt A1 ((i).toNat * 1)))], [(1001, ⟨71, [.v (.int .i64 (cM ms)), .v (.int .i64 (cP ms p (cN ws))), .v (.int .i64 (cS st)), .v (.slice A1 (cN ws) c1), .v (.slice B1 (cN ws) d1)]⟩), (1002, ⟨71, [.v (.int .i64 0), .v (.int .i64 0), .v (.int .i64 0), .v (.slice none 0 0), .v (.slice none 0 0)]⟩)]⟩ (by kernel_rfl) ?_
      refine XE.one (i := 18) (l' := (lb 19 524287)) (oA B71 [1, 1] 18) (by kernel_rfl) (by kernel_rfl) ?_
      refine X.storeElem (i := 171) (t := 2) (j := (i).toNat * 1) (n := cN ws) (c := c1) (q := ⟨2, 1, .slice A1 (cN ws) c1, cN ws, (u_).map (Value.int .i64)⟩) (A := A1) (x := .tmp 36) (y := .tmp 35) (z := .int .i64 (imax ((u_.getD ((i).toNat) 0) - (pt (u_.getD ((i).toNat) 0) (((mixH true (cH hs (cN ws)) (cN ws) (i.toNat + 1)).getD ((i).toNat) 0) / 2))) (2 * (cM ms)))) (by kernel_rfl) (by kernel_rfl) (by kernel_rfl) rfl rfl (by kernel_rfl) (by show _ + 1 ≤ _; simp; omega) (by kernel_rfl) (Nat.succ_pos _) (by kernel_rfl) ?_
      refine X.tellR [171, 172] (R' := [(171, ⟨2, 1, .slice A1 (cN ws) c1, cN ws, (u_.set ((i).toNat) (imax ((u_.getD ((i).toNat) 0) - (pt (u_.getD ((i).toNat) 0) (((mixH true (cH hs (cN ws)) (cN ws) (i.toNat + 1)).getD ((i).toNat) 0) / 2))) (2 * (cM ms)))).map (Value.int .i64)⟩), (172, ⟨2, 1, .slice B1 (cN ws) d1, cN ws, (mixH true (cH hs (cN ws)) (cN ws) (i.toNat + 1)).map (Value.int .i64)⟩)]) (congrArg (fun cs_ => (171, (⟨2, 1, .slice A1 (cN ws) c1, cN ws, cs_⟩ : Row)) :: [(172, ⟨2, 1, .slice B1 (cN ws) d1, cN ws, (mixH true (cH hs (cN ws)) (cN ws) (i.toNat + 1)).map (Value.int .i64)⟩)]) (splice_ints1 (kd := .i64) (l := u_) (j := ((i).toNat)) (x := (imax ((u_.getD ((i).toNat) 0) - (pt (u_.getD ((i).toNat) 0) (((mixH true (cH hs (cN ws)) (cN ws) (i.toNat + 1)).getD ((i).toNat) 0) / 2))) (2 * (cM ms)))) (by (try simp only [List.length_set]); omega))) ?_
      refine X.tellR [171, 172] (R' := [(171, ⟨2, 1, .slice A1 (cN ws) c1, cN ws, (mixW true (cM ms) (cW ms ws (cN ws)) (cH hs (cN ws)) (cN ws) (i.toNat + 1)).map (Value.int .i64)⟩), (172, ⟨2, 1, .slice B1 (cN ws) d1, cN ws, (mixH true (cH hs (cN ws)) (cN ws) (i.toNat + 1)).map (Value.int .i64)⟩)]) (congrArg (fun ns_ : List Int => (171, (⟨2, 1, .slice A1 (cN ws) c1, cN ws, ns_.map (Value.int .i64)⟩ : Row)) :: [(172, ⟨2, 1, .slice B1 (cN ws) d1, cN ws, (mixH true (cH hs (cN ws)) (cN ws) (i.toNat + 1)).map (Value.int .i64)⟩)]) (show u_.set ((i).toNat) (imax ((u_.getD ((i).toNat) 0) - (pt (u_.getD ((i).toNat) 0) (((mixH true (cH hs (cN ws)) (cN ws) (i.toNat + 1)).getD ((i).toNat) 0) / 2))) (2 * (cM ms))) = mixW true (cM ms) (cW ms ws (cN ws)) (cH hs (cN ws)) (cN ws) (i.toNat + 1) from by rw [hu]; refine mixW_set ?_; rw [← hu, hu1, hv2]; simp [nW, imax_eq])) ?_
      refine X.back ?_
      refine XE.done (by kernel_rfl) ?_
      refine X.run 0 [] [1001, 1002] (.ex .normal) [] ⟨37, [], [(1001, ⟨71, [.v (.int .i64 (cM ms)), .v (.int .i64 (cP ms p (cN ws))), .v (.int .i64 (cS st)), .v (.slice A1 (cN ws) c1), .v (.slice B1 (cN ws) d1)]⟩), (1002, ⟨71, [.v (.int .i64 0), .v (.int .i64 0), .v (.int .i64 0), .v (.slice none 0 0), .v (.slice none 0 0)]⟩)]⟩ (by kernel_rfl) ?_
      refine fin7 _ _ _ _ [] [(1, ⟨71, [.v (.int .i64 (cM ms)), .v (.int .i64 (cP ms p (cN ws))), .v (.int .i64 (cS st)), .v (.slice A1 (cN ws) c1), .v (.slice B1 (cN ws) d1)]⟩), (2, ⟨71, [.v (.int .i64 0), .v (.int .i64 0), .v (.int .i64 0), .v (.slice none 0 0), .v (.slice none 0 0)]⟩)] (.inr rfl) (by kernel_rfl) (by kernel_rfl) ?_
      refine X.run 7 [1, 2, 3, 16, 17] [1, 2] (.ex .normal) [.loop J5, .blk 0, .seq (cA B44 [1, 1, 1, 1, 1])] ⟨25, [(1, .own 1 0), (2, .own 2 0), (3, .fn 71 [(1, 0)]), (16, .v (.int .i64 ((cN ws : Nat) : Int))), (17, .v (.int .i64 (IntKind.i64.wrap (i + 1))))], [(1, ⟨71, [.v (.int .i64 (cM ms)), .v (.int .i64 (cP ms p (cN ws))), .v (.int .i64 (cS st)), .v (.slice A1 (cN ws) c1), .v (.slice B1 (cN ws) d1)]⟩), (2, ⟨71, [.v (.int .i64 0), .v (.int .i64 0), .v (.int .i64 0), .v (.slice none 0 0), .v (.slice none 0 0)]⟩)]⟩ (by kernel_rfl) ?_
      -- again (TT)
      have e1 : IntKind.i64.wrap (i + 1) = i + 1 := wi64 (by omega) (by omega)
      have e0 : (i + 1).toNat = i.toNat + 1 := by omega
      exact X.again (hJ5 _ _ _ _ ⟨mixW true (cM ms) (cW ms ws (cN ws)) (cH hs (cN ws)) (cN ws) (i.toNat + 1), mixH true (cH hs (cN ws)) (cN ws) (i.toNat + 1), IntKind.i64.wrap (i + 1), rfl, rfl, (((hG5.trans hG12).trans hG23).trans hG24), ⟨by omega, by omega, by rw [e1, e0], by rw [e1, e0]⟩, rfl⟩ (by rw [e1]; omega))
    · -- slot 18: decide (i < ((cN ws : Nat) : Int)) is False
      replace h6 : ¬ (i < ((cN ws : Nat) : Int)) := of_decide_eq_false h6
      refine X.run 13 [2] [2] (.ex .ret) [] ⟨25, [(2, .own 2 0)], [(2, ⟨71, [.v (.int .i64 (cM ms)), .v (.int .i64 (cP ms p (cN ws))), .v (.int .i64 (cS st)), .v (.slice A1 (cN ws) c1), .v (.slice B1 (cN ws) d1)]⟩)]⟩ (by kernel_rfl) ?_
      refine doneG (.inl rfl) [.agg #[.int .i64 (cM ms), .int .i64 (cP ms p (cN ws)), .int .i64 (cS st), .slice A1 (cN ws) c1, .slice B1 (cN ws) d1]] [171, 172] (by kernel_rfl) rfl rfl ((hG1.trans hG5)) ?_
      -- end 2 (TF)
      have hi_ : i.toNat = cN ws := by omega
      rw [hi_] at hu hv
      have hm_ : nxM ms p st ws = true := decide_eq_true hmk_
      subst hu hv
      refine ⟨A1, c1, B1, d1, rfl, ?_⟩
      simp only [nxW, nxH, nextW, nextH, hm_]
  · -- slot 12: decide (quI (cP ms p (cN ws)) (cW ms ws (cN ws)) > cS st) is False
    replace h4 : ¬ (quI (cP ms p (cN ws)) (cW ms ws (cN ws)) > cS st) := of_decide_eq_false h4
    have hmk_ := h4
    refine X.run 13 [1, 2, 3, 16, 17] [1, 2] (.code (cA B44 [1, 1, 1, 1, 0, 1, 0])) [.blk 0, .seq (cA B44 [1, 1, 1, 1, 1])] ⟨25, [(1, .own 1 0), (2, .own 2 0), (3, .fn 69 [(1, 0)]), (16, .v (.int .i64 ((cN ws : Nat) : Int))), (17, .v (.int .i64 0))], [(1, ⟨71, [.v (.int .i64 (cM ms)), .v (.int .i64 (cP ms p (cN ws))), .v (.int .i64 (cS st)), .v (.slice A1 (cN ws) c1), .v (.slice B1 (cN ws) d1)]⟩), (2, ⟨71, [.v (.int .i64 0), .v (.int .i64 0), .v (.int .i64 0), .v (.slice none 0 0), .v (.slice none 0 0)]⟩)]⟩ (by kernel_rfl) ?_
    refine X.tellR [171, 172] (R' := [(171, ⟨2, 1, .slice A1 (cN ws) c1, cN ws, (cW ms ws (cN ws)).map (Value.int .i64)⟩), (172, ⟨2, 1, .slice B1 (cN ws) d1, cN ws, (cH hs (cN ws)).map (Value.int .i64)⟩)]) rfl ?_
    refine X.loopJ (fun m s R' G' => ∃ (u_ v_ : List Int) (i : Int), s = ⟨25, [(1, .own 1 0), (2, .own 2 0), (3, .fn 69 [(1, 0)]), (16, .v (.int .i64 ((cN ws : Nat) : Int))), (17, .v (.int .i64 i))], [(1, ⟨71, [.v (.int .i64 (cM ms)), .v (.int .i64 (cP ms p (cN ws))), .v (.int .i64 (cS st)), .v (.slice A1 (cN ws) c1), .v (.slice B1 (cN ws) d1)]⟩), (2, ⟨71, [.v (.int .i64 0), .v (.int .i64 0), .v (.int .i64 0), .v (.slice none 0 0), .v (.slice none 0 0)]⟩)]⟩ ∧ R' = [(171, ⟨2, 1, .slice A1 (cN ws) c1, cN ws, (u_).map (Value.int .i64)⟩), (172, ⟨2, 1, .slice B1 (cN ws) d1, cN ws, (v_).map (Value.int .i64)⟩)] ∧ Ge G1 w.heap.size G' ∧ (0 ≤ i ∧ i ≤ (cN ws : Int) ∧ u_ = mixW false (cM ms) (cW ms ws (cN ws)) (cH hs (cN ws)) (cN ws) i.toNat ∧ v_ = mixH false (cH hs (cN ws)) (cN ws) i.toNat) ∧ m = ((cN ws : Int) - i).toNat) _ ⟨(cW ms ws (cN ws)), (cH hs (cN ws)), 0, rfl, rfl, Ge.refl _ _, ⟨by omega, by omega, (mixW_zero _ _ _ (cW_len _ _ _)).symm, (mixH_zero _ (cH_len _ _)).symm⟩, rfl⟩ ?_
    rintro m28 s28 R28 G28 ⟨u_, v_, i, rfl, rfl, hG28, hF28, rfl⟩ J28 hJ28
    replace hx := hx.mono hG28.le
    replace hy := hy.mono hG28.le
    obtain ⟨hi0, hi1, hu, hv⟩ := hF28
    have hul : u_.length = cN ws := by rw [hu]; exact mixW_len _ _ _ _ _ _
    have hvl : v_.length = cN ws := by rw [hv]; exact mixH_len _ _ _ _
    refine X.run 6 [1, 2, 3, 16, 17, 18] [1, 2] (.code (cA B44 [1, 1, 1, 1, 0, 1, 0, 0, 1, 0])) [.seq (cA B44 [1, 1, 1, 1, 0, 1, 0, 0, 1, 1]), .loop J28, .blk 0, .seq (cA B44 [1, 1, 1, 1, 1])] ⟨25, [(1, .own 1 0), (2, .own 2 0), (3, .fn 69 [(1, 0)]), (16, .v (.int .i64 ((cN ws : Nat) : Int))), (17, .v (.int .i64 i)), (18, .v (.bool (decide (i < ((cN ws : Nat) : Int)))))], [(1, ⟨71, [.v (.int .i64 (cM ms)), .v (.int .i64 (cP ms p (cN ws))), .v (.int .i64 (cS st)), .v (.slice A1 (cN ws) c1), .v (.slice B1 (cN ws) d1)]⟩), (2, ⟨71, [.v (.int .i64 0), .v (.int .i64 0), .v (.int .i64 0), .v (.slice none 0 0), .v (.slice none 0 0)]⟩)]⟩ (by kernel_rfl) ?_
    refine X.split 18 rfl (fun h29 => ?_) (fun h29 => ?_)
    · -- slot 18: decide (i < ((cN ws : Nat) : Int)) is True
      replace h29 : i < ((cN ws : Nat) : Int) := of_decide_eq_true h29
      have hu1 : u_.getD i.toNat 0 = (cW ms ws (cN ws)).getD i.toNat 0 := by rw [hu, mixW_at (by omega), if_neg (by omega)]
      have hv1 : v_.getD i.toNat 0 = (cH hs (cN ws)).getD i.toNat 0 := by rw [hv, mixH_at (by omega), if_neg (by omega)]
      have hur := cW_range _ (getD_memI (xs := (cW ms ws (cN ws))) (i := i.toNat) (by rw [cW_len]; omega))
      have hvr := cH_range _ (getD_memI (xs := (cH hs (cN ws))) (i := i.toNat) (by rw [cH_len]; omega))
      have hu2 := hur
      rw [← hu1] at hu2
      have hv4 := hvr
      rw [← hv1] at hv4
      refine X.run 14 [1, 2, 3, 16, 17, 20, 21] [1, 2] (.ops (aA B44 [1, 1, 1, 1, 0, 1, 0, 0, 1, 1, 0, 0, 1]) (oA B44 [1, 1, 1, 1, 0, 1, 0, 0, 1, 1, 0, 0, 1] 2 :: lA B44 [1, 1, 1, 1, 0, 1, 0, 0, 1, 1, 0, 0, 1] 3)) [.blk 1, .seq (cA B44 [1, 1, 1, 1, 0, 1, 0, 0, 1, 1, 1]), .loop J28, .blk 0, .seq (cA B44 [1, 1, 1, 1, 1])] ⟨25, [(1, .own 1 0), (2, .own 2 0), (3, .fn 69 [(1, 0)]), (16, .v (.int .i64 ((cN ws : Nat) : Int))), (17, .v (.int .i64 i)), (20, .fn 69 [(1, 0)]), (21, .v (.int .i64 i))], [(1, ⟨71, [.v (.int .i64 (cM ms)), .v (.int .i64 (cP ms p (cN ws))), .v (.int .i64 (cS st)), .v (.slice A1 (cN ws) c1), .v (.slice B1 (cN ws) d1)]⟩), (2, ⟨71, [.v (.int .i64 0), .v (.int .i64 0), .v (.int .i64 0), .v (.slice none 0 0), .v (.slice none 0 0)]⟩)]⟩ (by kernel_rfl) ?_
      refine X.inline (f := 69) (l := [.v (.int .i64 i), .own 1 0]) (fn := Try.f69) (c := B69) (by kernel_rfl) (by kernel_rfl) Try.func69 (by kernel_rfl) ?_
      intro Q30 M30 hM30 hQ30 fin30
      refine X.run 1 [0, 1] [1001, 1002] (.code (cA B69 [0])) [.seq (cA B69 [1])] ⟨26, [(0, .v (.int .i64 i)), (1, .own 1001 0)], [(1001, ⟨71, [.v (.int .i64 (cM ms)), .v (.int .i64 (cP ms p (cN ws))), .v (.int .i64 (cS st)), .v (.slice A1 (cN ws) c1), .v (.slice B1 (cN ws) d1)]⟩), (1002, ⟨71, [.v (.int .i64 0), .v (.int .i64 0), .v (.int .i64 0), .v (.slice none 0 0), .v (.slice none 0 0)]⟩)]⟩ (by kernel_rfl) ?_
      have hx_d31 := hx
      have hy_d31 := hy
      refine XD.open (id := 0) (arr := aA B69 [0]) 11 [⟨some 1, 1001, 71, [.v (.int .i64 (cM ms)), .v (.int .i64 (cP ms p (cN ws))), .v (.int .i64 (cS st)), .v (.slice A1 (cN ws) c1), .v (.slice B1 (cN ws) d1)]⟩] [(172, ⟨2, 1, .slice B1 (cN ws) d1, cN ws, (v_).map (Value.int .i64)⟩)] [10] (by kernel_rfl) (by kernel_rfl) (by kernel_rfl) (by kernel_rfl) (by kernel_rfl) ⟨⟨fun _ h => (by cases h; rfl), rfl⟩, trivial⟩ (by intro p hp hn; simp only [List.mem_cons, List.not_mem_nil, or_false] at hp; rcases hp with rfl <;> first | (cases hn; done) | exact hM30 _ (Nat.le_of_ble_eq_true rfl)) rfl (fun ρ0 => ?_)
      refine XD.take (i := 0) (l' := (lb 11 1)) (oA B69 [0] 0) (.own 1001 4) hQ30 (by kernel_rfl) (by kernel_rfl) (by kernel_rfl) (by kernel_rfl) (by kernel_rfl) ?_
      refine XD.take (i := 1) (l' := (lb 11 3)) (oA B69 [0] 1) (.v (.slice B1 (cN ws) d1)) hQ30 (by kernel_rfl) (by kernel_rfl) (by kernel_rfl) (by kernel_rfl) (by kernel_rfl) ?_
      refine XD.take (i := 2) (l' := (lb 11 7)) (oA B69 [0] 2) (.v (.int .i64 i)) hQ30 (by kernel_rfl) (by kernel_rfl) (by kernel_rfl) (by kernel_rfl) (by kernel_rfl) ?_
      refine XD.take (i := 3) (l' := (lb 11 15)) (oA B69 [0] 3) (.own 1001 4) hQ30 (by kernel_rfl) (by kernel_rfl) (by kernel_rfl) (by kernel_rfl) (by kernel_rfl) ?_
      refine XD.take (i := 4) (l' := (lb 11 31)) (oA B69 [0] 4) (.v (.slice B1 (cN ws) d1)) hQ30 (by kernel_rfl) (by kernel_rfl) (by kernel_rfl) (by kernel_rfl) (by kernel_rfl) ?_
      refine XD.take (i := 5) (l' := (lb 11 63)) (oA B69 [0] 5) (.v (.int .i64 i)) hQ30 (by kernel_rfl) (by kernel_rfl) (by kernel_rfl) (by kernel_rfl) (by kernel_rfl) ?_
      have b32 : (0 : Int) ≤ i := by omega
      have b33 : i < ((cN ws : Nat) : Int) := by omega
      have at34 : At G28 [(172, ⟨2, 1, .slice B1 (cN ws) d1, cN ws, (v_).map (Value.int .i64)⟩)] B1 ((i).toNat * 1) [.int .i64 (v_.getD ((i).toNat) 0)] := At.rowInt (i := 172) (r := ⟨2, 1, .slice B1 (cN ws) d1, cN ws, (v_).map (Value.int .i64)⟩) rfl rfl rfl (by rw [hvl]; omega)
      refine XD.index (i := 6) (l' := (lb 11 127)) (o := (oA B69 [0] 6)) (t := 22) (e := 2) (sz := 1) (A := B1) (n := cN ws) (c := d1) (ki := .i64) (j := i) (x := .tmp 7) (ix := .tmp 8) hQ30 (by kernel_rfl) (by kernel_rfl) (by kernel_rfl) (by kernel_rfl) (by kernel_rfl) (by kernel_rfl) (by kernel_rfl) (by kernel_rfl) b32 b33 (rowSome (i := 172) (q := ⟨2, 1, .slice B1 (cN ws) d1, cN ws, (v_).map (Value.int .i64)⟩) rfl rfl (by rw [List.length_map, hvl]; omega)) (by kernel_rfl) ?_
      refine XD.load (i := 7) (l' := (lb 11 255)) (o := (oA B69 [0] 7)) (t := 2) (A := B1) (j := (i).toNat * 1) (x := .tmp 9) (z := .int .i64 (v_.getD ((i).toNat) 0)) [.int .i64 (v_.getD ((i).toNat) 0)] hQ30 (by kernel_rfl) (by kernel_rfl) (by kernel_rfl) (by kernel_rfl) (by kernel_rfl) at34 (by kernel_rfl) (by kernel_rfl) ?_
      refine XD.norm [0, 1, 4, 5, 10] [1001, 1002] ⟨26, [(0, .v (.int .i64 i)), (1, .own 1001 0), (4, .v (.slice B1 (cN ws) d1)), (5, .v (.int .i64 i)), (10, .v (.int .i64 (v_.getD ((i).toNat) 0)))], [(1001, ⟨71, [.v (.int .i64 (cM ms)), .v (.int .i64 (cP ms p (cN ws))), .v (.int .i64 (cS st)), .v (.slice A1 (cN ws) c1), .v (.slice B1 (cN ws) d1)]⟩), (1002, ⟨71, [.v (.int .i64 0), .v (.int .i64 0), .v (.int .i64 0), .v (.slice none 0 0), .v (.slice none 0 0)]⟩)]⟩ (by kernel_rfl) ⟨⟨fun _ h => (by cases h; rfl), rfl⟩, trivial⟩ ?_
      refine XD.one (i := 8) (l' := (lb 11 511)) (oA B69 [0] 8) (by kernel_rfl) (by kernel_rfl) (by kernel_rfl) ?_
      refine X.callG (f := 70) (l := [.v (.int .i64 (v_.getD ((i).toNat) 0)), .v (.int .i64 0), .v (.int .i64 4)]) [.int .i64 (v_.getD ((i).toNat) 0), .int .i64 0, .int .i64 4] 0 (by kernel_rfl) (by kernel_rfl) (by kernel_rfl) (Toward_ok (v_.getD ((i).toNat) 0) 0 (by omega) (by omega) _) ?_
      rintro v35 G35 rows35 hG35 ⟨rfl, rfl⟩
      replace hx := hx.mono hG35.le
      replace hy := hy.mono hG35.le
      have ht35 := tw_range (x := (v_.getD ((i).toNat) 0)) (y := 0) (by omega) (by omega)
      refine X.back ⟨⟨⟨fun _ h => (by cases h; rfl), rfl⟩, trivial⟩, hG35.le, rfl, ?_⟩
      have b36 : (0 : Int) ≤ i := by omega
      have b37 : i < ((cN ws : Nat) : Int) := by omega
      have at38 : At G28 [(172, ⟨2, 1, .slice B1 (cN ws) d1, cN ws, (v_).map (Value.int .i64)⟩)] B1 ((i).toNat * 1) [.int .i64 (v_.getD ((i).toNat) 0)] := At.rowInt (i := 172) (r := ⟨2, 1, .slice B1 (cN ws) d1, cN ws, (v_).map (Value.int .i64)⟩) rfl rfl rfl (by rw [hvl]; omega)
      refine XD.index (i := 9) (l' := (lb 11 1023)) (o := (oA B69 [0] 9)) (t := 22) (e := 2) (sz := 1) (A := B1) (n := cN ws) (c := d1) (ki := .i64) (j := i) (x := .tmp 4) (ix := .tmp 5) hQ30 (by kernel_rfl) (by kernel_rfl) (by kernel_rfl) (by kernel_rfl) (by kernel_rfl) (by kernel_rfl) (by kernel_rfl) (by kernel_rfl) b36 b37 (rowSome (i := 172) (q := ⟨2, 1, .slice B1 (cN ws) d1, cN ws, (v_).map (Value.int .i64)⟩) rfl rfl (by rw [List.length_map, hvl]; omega)) (by kernel_rfl) ?_
      refine XD.toE ?_
      refine XE.norm [0, 1, 11, 12] [1001, 1002] ⟨26, [(0, .v (.int .i64 i)), (1, .own 1001 0), (11, .v (.int .i64 (tw (v_.getD ((i).toNat) 0) 0))), (12, .v (elt B1 ((i).toNat * 1)))], [(1001, ⟨71, [.v (.int .i64 (cM ms)), .v (.int .i64 (cP ms p (cN ws))), .v (.int .i64 (cS st)), .v (.slice A1 (cN ws) c1), .v (.slice B1 (cN ws) d1)]⟩), (1002, ⟨71, [.v (.int .i64 0), .v (.int .i64 0), .v (.int .i64 0), .v (.slice none 0 0), .v (.slice none 0 0)]⟩)]⟩ (by kernel_rfl) ?_
      refine XE.one (i := 10) (l' := (lb 11 2047)) (oA B69 [0] 10) (by kernel_rfl) (by kernel_rfl) ?_
      refine X.storeElem (i := 172) (t := 2) (j := (i).toNat * 1) (n := cN ws) (c := d1) (q := ⟨2, 1, .slice B1 (cN ws) d1, cN ws, (v_).map (Value.int .i64)⟩) (A := B1) (x := .tmp 12) (y := .tmp 11) (z := .int .i64 (tw (v_.getD ((i).toNat) 0) 0)) (by kernel_rfl) (by kernel_rfl) (by kernel_rfl) rfl rfl (by kernel_rfl) (by show _ + 1 ≤ _; simp; omega) (by kernel_rfl) (Nat.succ_pos _) (by kernel_rfl) ?_
      refine X.tellR [172, 171] (R' := [(172, ⟨2, 1, .slice B1 (cN ws) d1, cN ws, (v_.set ((i).toNat) (tw (v_.getD ((i).toNat) 0) 0)).map (Value.int .i64)⟩), (171, ⟨2, 1, .slice A1 (cN ws) c1, cN ws, (u_).map (Value.int .i64)⟩)]) (congrArg (fun cs_ => (172, (⟨2, 1, .slice B1 (cN ws) d1, cN ws, cs_⟩ : Row)) :: [(171, ⟨2, 1, .slice A1 (cN ws) c1, cN ws, (u_).map (Value.int .i64)⟩)]) (splice_ints1 (kd := .i64) (l := v_) (j := ((i).toNat)) (x := (tw (v_.getD ((i).toNat) 0) 0)) (by (try simp only [List.length_set]); omega))) ?_
      refine X.tellR [172, 171] (R' := [(172, ⟨2, 1, .slice B1 (cN ws) d1, cN ws, (mixH false (cH hs (cN ws)) (cN ws) (i.toNat + 1)).map (Value.int .i64)⟩), (171, ⟨2, 1, .slice A1 (cN ws) c1, cN ws, (u_).map (Value.int .i64)⟩)]) (congrArg (fun ns_ : List Int => (172, (⟨2, 1, .slice B1 (cN ws) d1, cN ws, ns_.map (Value.int .i64)⟩ : Row)) :: [(171, ⟨2, 1, .slice A1 (cN ws) c1, cN ws, (u_).map (Value.int .i64)⟩)]) (show v_.set ((i).toNat) (tw (v_.getD ((i).toNat) 0) 0) = mixH false (cH hs (cN ws)) (cN ws) (i.toNat + 1) from by rw [hv]; refine mixH_set ?_; rw [← hv, hv1]; simp [nH])) ?_
      have hv2 : (mixH false (cH hs (cN ws)) (cN ws) (i.toNat + 1)).getD i.toNat 0 = nH false ((cH hs (cN ws)).getD i.toNat 0) := by rw [mixH_at (by omega), if_pos (by omega)]
      have hv3 := nH_range (mk := false) hvr
      rw [← hv2] at hv3
      refine X.back ?_
      refine XE.done (by kernel_rfl) ?_
      refine X.run 1 [0, 1] [1001, 1002] (.code (cA B69 [1])) [] ⟨26, [(0, .v (.int .i64 i)), (1, .own 1001 0)], [(1001, ⟨71, [.v (.int .i64 (cM ms)), .v (.int .i64 (cP ms p (cN ws))), .v (.int .i64 (cS st)), .v (.slice A1 (cN ws) c1), .v (.slice B1 (cN ws) d1)]⟩), (1002, ⟨71, [.v (.int .i64 0), .v (.int .i64 0), .v (.int .i64 0), .v (.slice none 0 0), .v (.slice none 0 0)]⟩)]⟩ (by kernel_rfl) ?_
      have hx_d39 := hx
      have hy_d39 := hy
      refine XD.open (id := 1) (arr := aA B69 [1]) 14 [⟨some 1, 1001, 71, [.v (.int .i64 (cM ms)), .v (.int .i64 (cP ms p (cN ws))), .v (.int .i64 (cS st)), .v (.slice A1 (cN ws) c1), .v (.slice B1 (cN ws) d1)]⟩] [(171, ⟨2, 1, .slice A1 (cN ws) c1, cN ws, (u_).map (Value.int .i64)⟩)] [13] (by kernel_rfl) (by kernel_rfl) (by kernel_rfl) (by kernel_rfl) (by kernel_rfl) ⟨⟨fun _ h => (by cases h; rfl), rfl⟩, trivial⟩ (by intro p hp hn; simp only [List.mem_cons, List.not_mem_nil, or_false] at hp; rcases hp with rfl <;> first | (cases hn; done) | exact hM30 _ (Nat.le_of_ble_eq_true rfl)) rfl (fun ρ0 => ?_)
      refine XD.take (i := 0) (l' := (lb 14 1)) (oA B69 [1] 0) (.own 1001 3) hQ30 (by kernel_rfl) (by kernel_rfl) (by kernel_rfl) (by kernel_rfl) (by kernel_rfl) ?_
      refine XD.take (i := 1) (l' := (lb 14 3)) (oA B69 [1] 1) (.v (.slice A1 (cN ws) c1)) hQ30 (by kernel_rfl) (by kernel_rfl) (by kernel_rfl) (by kernel_rfl) (by kernel_rfl) ?_
      refine XD.take (i := 2) (l' := (lb 14 7)) (oA B69 [1] 2) (.v (.int .i64 i)) hQ30 (by kernel_rfl) (by kernel_rfl) (by kernel_rfl) (by kernel_rfl) (by kernel_rfl) ?_
      refine XD.take (i := 3) (l' := (lb 14 15)) (oA B69 [1] 3) (.own 1001 3) hQ30 (by kernel_rfl) (by kernel_rfl) (by kernel_rfl) (by kernel_rfl) (by kernel_rfl) ?_
      refine XD.take (i := 4) (l' := (lb 14 31)) (oA B69 [1] 4) (.v (.slice A1 (cN ws) c1)) hQ30 (by kernel_rfl) (by kernel_rfl) (by kernel_rfl) (by kernel_rfl) (by kernel_rfl) ?_
      refine XD.take (i := 5) (l' := (lb 14 63)) (oA B69 [1] 5) (.v (.int .i64 i)) hQ30 (by kernel_rfl) (by kernel_rfl) (by kernel_rfl) (by kernel_rfl) (by kernel_rfl) ?_
      have b40 : (0 : Int) ≤ i := by omega
      have b41 : i < ((cN ws : Nat) : Int) := by omega
      have at42 : At G35 [(171, ⟨2, 1, .slice A1 (cN ws) c1, cN ws, (u_).map (Value.int .i64)⟩)] A1 ((i).toNat * 1) [.int .i64 (u_.getD ((i).toNat) 0)] := At.rowInt (i := 171) (r := ⟨2, 1, .slice A1 (cN ws) c1, cN ws, (u_).map (Value.int .i64)⟩) rfl rfl rfl (by rw [hul]; omega)
      refine XD.index (i := 6) (l' := (lb 14 127)) (o := (oA B69 [1] 6)) (t := 22) (e := 2) (sz := 1) (A := A1) (n := cN ws) (c := c1) (ki := .i64) (j := i) (x := .tmp 17) (ix := .tmp 18) hQ30 (by kernel_rfl) (by kernel_rfl) (by kernel_rfl) (by kernel_rfl) (by kernel_rfl) (by kernel_rfl) (by kernel_rfl) (by kernel_rfl) b40 b41 (rowSome (i := 171) (q := ⟨2, 1, .slice A1 (cN ws) c1, cN ws, (u_).map (Value.int .i64)⟩) rfl rfl (by rw [List.length_map, hul]; omega)) (by kernel_rfl) ?_
      refine XD.load (i := 7) (l' := (lb 14 255)) (o := (oA B69 [1] 7)) (t := 2) (A := A1) (j := (i).toNat * 1) (x := .tmp 19) (z := .int .i64 (u_.getD ((i).toNat) 0)) [.int .i64 (u_.getD ((i).toNat) 0)] hQ30 (by kernel_rfl) (by kernel_rfl) (by kernel_rfl) (by kernel_rfl) (by kernel_rfl) at42 (by kernel_rfl) (by kernel_rfl) ?_
      refine XD.take (i := 8) (l' := (lb 14 511)) (oA B69 [1] 8) (.own 1001 0) hQ30 (by kernel_rfl) (by kernel_rfl) (by kernel_rfl) (by kernel_rfl) (by kernel_rfl) ?_
      refine XD.take (i := 9) (l' := (lb 14 1023)) (oA B69 [1] 9) (.v (.int .i64 (cM ms))) hQ30 (by kernel_rfl) (by kernel_rfl) (by kernel_rfl) (by kernel_rfl) (by kernel_rfl) ?_
      refine XD.take (i := 10) (l' := (lb 14 2047)) (oA B69 [1] 10) (.v (.int .i64 (IntKind.i64.wrap ((u_.getD ((i).toNat) 0) + (cM ms))))) hQ30 (by kernel_rfl) (by kernel_rfl) (by kernel_rfl) (by kernel_rfl) (by kernel_rfl) ?_
      refine XD.known 23 (y := .v (.int .i64 ((u_.getD ((i).toNat) 0) + (cM ms)))) rfl (congrArg (fun z_ => AV.v (.int .i64 z_)) (wi64 (by omega) (by omega))) ?_
      refine XD.take (i := 11) (l' := (lb 14 4095)) (oA B69 [1] 11) (.v (.int .i64 (imin ((u_.getD ((i).toNat) 0) + (cM ms)) 1073741824))) hQ30 (by kernel_rfl) (by kernel_rfl) (by kernel_rfl) (by kernel_rfl) (by kernel_rfl) ?_
      have b43 : (0 : Int) ≤ i := by omega
      have b44 : i < ((cN ws : Nat) : Int) := by omega
      have at45 : At G35 [(171, ⟨2, 1, .slice A1 (cN ws) c1, cN ws, (u_).map (Value.int .i64)⟩)] A1 ((i).toNat * 1) [.int .i64 (u_.getD ((i).toNat) 0)] := At.rowInt (i := 171) (r := ⟨2, 1, .slice A1 (cN ws) c1, cN ws, (u_).map (Value.int .i64)⟩) rfl rfl rfl (by rw [hul]; omega)
      refine XD.index (i := 12) (l' := (lb 14 8191)) (o := (oA B69 [1] 12)) (t := 22) (e := 2) (sz := 1) (A := A1) (n := cN ws) (c := c1) (ki := .i64) (j := i) (x := .tmp 14) (ix := .tmp 15) hQ30 (by kernel_rfl) (by kernel_rfl) (by kernel_rfl) (by kernel_rfl) (by kernel_rfl) (by kernel_rfl) (by kernel_rfl) (by kernel_rfl) b43 b44 (rowSome (i := 171) (q := ⟨2, 1, .slice A1 (cN ws) c1, cN ws, (u_).map (Value.int .i64)⟩) rfl rfl (by rw [List.length_map, hul]; omega)) (by kernel_rfl) ?_
      refine XD.toE ?_
      refine XE.norm [1, 24, 25] [1001, 1002] ⟨26, [(1, .own 1001 0), (24, .v (.int .i64 (imin ((u_.getD ((i).toNat) 0) + (cM ms)) 1073741824))), (25, .v (elt A1 ((i).toNat * 1)))], [(1001, ⟨71, [.v (.int .i64 (cM ms)), .v (.int .i64 (cP ms p (cN ws))), .v (.int .i64 (cS st)), .v (.slice A1 (cN ws) c1), .v (.slice B1 (cN ws) d1)]⟩), (1002, ⟨71, [.v (.int .i64 0), .v (.int .i64 0), .v (.int .i64 0), .v (.slice none 0 0), .v (.slice none 0 0)]⟩)]⟩ (by kernel_rfl) ?_
      refine XE.one (i := 13) (l' := (lb 14 16383)) (oA B69 [1] 13) (by kernel_rfl) (by kernel_rfl) ?_
      refine X.storeElem (i := 171) (t := 2) (j := (i).toNat * 1) (n := cN ws) (c := c1) (q := ⟨2, 1, .slice A1 (cN ws) c1, cN ws, (u_).map (Value.int .i64)⟩) (A := A1) (x := .tmp 25) (y := .tmp 24) (z := .int .i64 (imin ((u_.getD ((i).toNat) 0) + (cM ms)) 1073741824)) (by kernel_rfl) (by kernel_rfl) (by kernel_rfl) rfl rfl (by kernel_rfl) (by show _ + 1 ≤ _; simp; omega) (by kernel_rfl) (Nat.succ_pos _) (by kernel_rfl) ?_
      refine X.tellR [171, 172] (R' := [(171, ⟨2, 1, .slice A1 (cN ws) c1, cN ws, (u_.set ((i).toNat) (imin ((u_.getD ((i).toNat) 0) + (cM ms)) 1073741824)).map (Value.int .i64)⟩), (172, ⟨2, 1, .slice B1 (cN ws) d1, cN ws, (mixH false (cH hs (cN ws)) (cN ws) (i.toNat + 1)).map (Value.int .i64)⟩)]) (congrArg (fun cs_ => (171, (⟨2, 1, .slice A1 (cN ws) c1, cN ws, cs_⟩ : Row)) :: [(172, ⟨2, 1, .slice B1 (cN ws) d1, cN ws, (mixH false (cH hs (cN ws)) (cN ws) (i.toNat + 1)).map (Value.int .i64)⟩)]) (splice_ints1 (kd := .i64) (l := u_) (j := ((i).toNat)) (x := (imin ((u_.getD ((i).toNat) 0) + (cM ms)) 1073741824)) (by (try simp only [List.length_set]); omega))) ?_
      refine X.tellR [171, 172] (R' := [(171, ⟨2, 1, .slice A1 (cN ws) c1, cN ws, (mixW false (cM ms) (cW ms ws (cN ws)) (cH hs (cN ws)) (cN ws) (i.toNat + 1)).map (Value.int .i64)⟩), (172, ⟨2, 1, .slice B1 (cN ws) d1, cN ws, (mixH false (cH hs (cN ws)) (cN ws) (i.toNat + 1)).map (Value.int .i64)⟩)]) (congrArg (fun ns_ : List Int => (171, (⟨2, 1, .slice A1 (cN ws) c1, cN ws, ns_.map (Value.int .i64)⟩ : Row)) :: [(172, ⟨2, 1, .slice B1 (cN ws) d1, cN ws, (mixH false (cH hs (cN ws)) (cN ws) (i.toNat + 1)).map (Value.int .i64)⟩)]) (show u_.set ((i).toNat) (imin ((u_.getD ((i).toNat) 0) + (cM ms)) 1073741824) = mixW false (cM ms) (cW ms ws (cN ws)) (cH hs (cN ws)) (cN ws) (i.toNat + 1) from by rw [hu]; refine mixW_set ?_; rw [← hu, hu1]; simp [nW, nH, imin_eq])) ?_
      refine X.back ?_
      refine XE.done (by kernel_rfl) ?_
      refine X.run 0 [] [1001, 1002] (.ex .normal) [] ⟨26, [], [(1001, ⟨71, [.v (.int .i64 (cM ms)), .v (.int .i64 (cP ms p (cN ws))), .v (.int .i64 (cS st)), .v (.slice A1 (cN ws) c1), .v (.slice B1 (cN ws) d1)]⟩), (1002, ⟨71, [.v (.int .i64 0), .v (.int .i64 0), .v (.int .i64 0), .v (.slice none 0 0), .v (.slice none 0 0)]⟩)]⟩ (by kernel_rfl) ?_
      refine fin30 _ _ _ _ [] [(1, ⟨71, [.v (.int .i64 (cM ms)), .v (.int .i64 (cP ms p (cN ws))), .v (.int .i64 (cS st)), .v (.slice A1 (cN ws) c1), .v (.slice B1 (cN ws) d1)]⟩), (2, ⟨71, [.v (.int .i64 0), .v (.int .i64 0), .v (.int .i64 0), .v (.slice none 0 0), .v (.slice none 0 0)]⟩)] (.inr rfl) (by kernel_rfl) (by kernel_rfl) ?_
      refine X.run 7 [1, 2, 3, 16, 17] [1, 2] (.ex .normal) [.loop J28, .blk 0, .seq (cA B44 [1, 1, 1, 1, 1])] ⟨25, [(1, .own 1 0), (2, .own 2 0), (3, .fn 69 [(1, 0)]), (16, .v (.int .i64 ((cN ws : Nat) : Int))), (17, .v (.int .i64 (IntKind.i64.wrap (i + 1))))], [(1, ⟨71, [.v (.int .i64 (cM ms)), .v (.int .i64 (cP ms p (cN ws))), .v (.int .i64 (cS st)), .v (.slice A1 (cN ws) c1), .v (.slice B1 (cN ws) d1)]⟩), (2, ⟨71, [.v (.int .i64 0), .v (.int .i64 0), .v (.int .i64 0), .v (.slice none 0 0), .v (.slice none 0 0)]⟩)]⟩ (by kernel_rfl) ?_
      -- again (FT)
      have e1 : IntKind.i64.wrap (i + 1) = i + 1 := wi64 (by omega) (by omega)
      have e0 : (i + 1).toNat = i.toNat + 1 := by omega
      exact X.again (hJ28 _ _ _ _ ⟨mixW false (cM ms) (cW ms ws (cN ws)) (cH hs (cN ws)) (cN ws) (i.toNat + 1), mixH false (cH hs (cN ws)) (cN ws) (i.toNat + 1), IntKind.i64.wrap (i + 1), rfl, rfl, (hG28.trans hG35), ⟨by omega, by omega, by rw [e1, e0], by rw [e1, e0]⟩, rfl⟩ (by rw [e1]; omega))
    · -- slot 18: decide (i < ((cN ws : Nat) : Int)) is False
      replace h29 : ¬ (i < ((cN ws : Nat) : Int)) := of_decide_eq_false h29
      refine X.run 13 [2] [2] (.ex .ret) [] ⟨25, [(2, .own 2 0)], [(2, ⟨71, [.v (.int .i64 (cM ms)), .v (.int .i64 (cP ms p (cN ws))), .v (.int .i64 (cS st)), .v (.slice A1 (cN ws) c1), .v (.slice B1 (cN ws) d1)]⟩)]⟩ (by kernel_rfl) ?_
      refine doneG (.inl rfl) [.agg #[.int .i64 (cM ms), .int .i64 (cP ms p (cN ws)), .int .i64 (cS st), .slice A1 (cN ws) c1, .slice B1 (cN ws) d1]] [171, 172] (by kernel_rfl) rfl rfl ((hG1.trans hG28)) ?_
      -- end 4 (FF)
      have hi_ : i.toNat = cN ws := by omega
      rw [hi_] at hu hv
      have hm_ : nxM ms p st ws = false := decide_eq_false hmk_
      subst hu hv
      refine ⟨A1, c1, B1, d1, rfl, ?_⟩
      simp only [nxW, nxH, nextW, nextH, hm_]

end Go.Proofs.YthpinlcfcgnilaaX
