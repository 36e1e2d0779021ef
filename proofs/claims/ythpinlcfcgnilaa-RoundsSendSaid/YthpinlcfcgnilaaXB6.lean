/- rounds.Run: walked. Printed by a small program of this session. Conditions: none. -/
import Derived.Test.YthpinlcfcgnilaaProg
import Derived.KernelRfl
import Derived.Test.YthpinlcfcgnilaaXB5
namespace Go.Proofs.YthpinlcfcgnilaaX
open Go.RowKit
open Go.Proofs.YthpinlcfcgnilaaW.PrintLast Go.Proofs.YthpinlcfcgnilaaW.PrintWords
set_option linter.unusedVariables false
set_option linter.unusedSimpArgs false
set_option maxRecDepth 100000
theorem nextW_len (mk : Bool) (m : Int) (ws hs : List Int) (n : Nat) : (nextW mk m ws hs n).length = n := mixW_len _ _ _ _ _ _
theorem nextH_len (mk : Bool) (hs : List Int) (n : Nat) : (nextH mk hs n).length = n := mixH_len _ _ _ _
theorem nxW_len (ms p st : Int) (ws hs : List Int) : (nxW ms p st ws hs).length = cN ws := nextW_len _ _ _ _ _
theorem nxH_len (ms p st : Int) (ws hs : List Int) : (nxH ms p st ws hs).length = cN ws := nextH_len _ _ _
theorem nextW_at {mk : Bool} {m : Int} {ws hs : List Int} {n j : Nat} (h : j < n) : (nextW mk m ws hs n).getD j 0 = nW mk m (ws.getD j 0) (nH mk (hs.getD j 0)) := by
  unfold nextW; rw [mixW_at h, if_pos h]
theorem nextH_at {mk : Bool} {hs : List Int} {n j : Nat} (h : j < n) : (nextH mk hs n).getD j 0 = nH mk (hs.getD j 0) := by
  unfold nextH; rw [mixH_at h, if_pos h]
theorem mem_getD {l : List Int} {x : Int} (h : x ∈ l) : ∃ j, j < l.length ∧ l.getD j 0 = x := by
  obtain ⟨j, hj, rfl⟩ := List.getElem_of_mem h
  exact ⟨j, hj, by simp [List.getD, hj]⟩
theorem nxW_range {ms p st : Int} {ws hs : List Int} : ∀ x ∈ nxW ms p st ws hs, 2 * cM ms ≤ x ∧ x ≤ 1073741824 := by
  intro x hx
  obtain ⟨j, hj, rfl⟩ := mem_getD hx
  rw [nxW_len] at hj
  unfold nxW
  rw [nextW_at hj]
  exact nW_range (cM_range ms) (cW_range _ (getD_memI (by rw [cW_len]; exact hj))) (nH_range (cH_range _ (getD_memI (by rw [cH_len]; exact hj))))
theorem nxH_range {ms p st : Int} {ws hs : List Int} : ∀ x ∈ nxH ms p st ws hs, 0 ≤ x ∧ x ≤ 1048576 := by
  intro x hx
  obtain ⟨j, hj, rfl⟩ := mem_getD hx
  rw [nxH_len] at hj
  unfold nxH
  rw [nextH_at hj]
  exact nH_range (cH_range _ (getD_memI (by rw [cH_len]; exact hj)))
abbrev RS := Int × Int × Int × List Int × List Int
def stR (x : RS) : RS := (cM x.1, cP x.1 x.2.1 (cN x.2.2.2.1), cS x.2.2.1, nxW x.1 x.2.1 x.2.2.1 x.2.2.2.1 x.2.2.2.2, nxH x.1 x.2.1 x.2.2.1 x.2.2.2.1 x.2.2.2.2)
def qR (x : RS) : Int := quI (cP x.1 x.2.1 (cN x.2.2.2.1)) (cW x.1 x.2.2.2.1 (cN x.2.2.2.1))
def sR (x : RS) : Int := min (sumI (cW x.1 x.2.2.2.1 (cN x.2.2.2.1))) (cP x.1 x.2.1 (cN x.2.2.2.1))
def itR : Nat → RS → RS
  | 0, x => x
  | k + 1, x => stR (itR k x)
def qL (x : RS) (n : Nat) : List Int := (List.range n).map (fun j => qR (itR j x))
def sL (x : RS) (n : Nat) : List Int := (List.range n).map (fun j => sR (itR j x))
theorem qL_succ (x : RS) (n : Nat) : qL x (n + 1) = qL x n ++ [qR (itR n x)] := by simp [qL, List.range_succ]
theorem sL_succ (x : RS) (n : Nat) : sL x (n + 1) = sL x n ++ [sR (itR n x)] := by simp [sL, List.range_succ]
theorem qL_len (x : RS) (n : Nat) : (qL x n).length = n := by simp [qL]
theorem sL_len (x : RS) (n : Nat) : (sL x n).length = n := by simp [sL]

/-- leat/rounds.Run -/
noncomputable def B33 : Code := bodyOf Try.f33
set_option maxHeartbeats 1000000 in
theorem Run_ok (A B : Option Addr) (ca cb : Nat) (ms p st : Int) (ws hs : List Int) (many : Int) (G : Mem) (hx : rowAt (D.int .i64) G A ws) (hy : rowAt (D.int .i64) G B hs) (hxc : ws.length ≤ ca) (hyc : hs.length ≤ cb) (hxm : ca ≤ maxLen) (hym : cb ≤ maxLen) : CallsG Try.prog 33 [.agg #[.int .i64 ms, .int .i64 p, .int .i64 st, .slice A ws.length ca, .slice B hs.length cb], .int .i64 many] G (fun _ v rows => ∃ C c D d, v = .tuple #[.slice C (max 0 (min many 2000)).toNat c, .slice D (max 0 (min many 2000)).toNat d] ∧ rows = [⟨2, 1, .slice C (max 0 (min many 2000)).toNat c, (max 0 (min many 2000)).toNat, (qL (ms, p, st, ws, hs) (max 0 (min many 2000)).toNat).map (Value.int .i64)⟩, ⟨2, 1, .slice D (max 0 (min many 2000)).toNat d, (max 0 (min many 2000)).toNat, (sL (ms, p, st, ws, hs) (max 0 (min many 2000)).toNat).map (Value.int .i64)⟩]) := by
  simp only [maxLen] at hxm hym
  refine CallsG.enter Try.func33 rfl rfl ?_
  intro w
  refine X.run 12 [2, 4, 5, 7] [2] (.ops (aA B33 [1, 0, 0]) (oA B33 [1, 0, 0] 2 :: lA B33 [1, 0, 0] 3)) [.seq (cA B33 [1, 0, 1]), .seq (cA B33 [1, 1])] ⟨26, [(2, .own 2 0), (4, .v (.slice none 0 0)), (5, .v (.slice none 0 0)), (7, .v (.int .i64 (imin many 2000)))], [(2, ⟨71, [.v (.int .i64 ms), .v (.int .i64 p), .v (.int .i64 st), .v (.slice A ws.length ca), .v (.slice B hs.length cb)]⟩)]⟩ (by kernel_rfl) ?_
  refine X.known 7 (y := .v (.int .i64 (min many 2000))) rfl (congrArg (fun z_ => AV.v (.int .i64 z_)) (by simp only [imin_eq, imax_eq])) ?_
  refine X.run 1 [2, 4, 5, 8] [2] (.ops (aA B33 [1, 0, 0]) (oA B33 [1, 0, 0] 3 :: lA B33 [1, 0, 0] 4)) [.seq (cA B33 [1, 0, 1]), .seq (cA B33 [1, 1])] ⟨26, [(2, .own 2 0), (4, .v (.slice none 0 0)), (5, .v (.slice none 0 0)), (8, .v (.int .i64 (imax 0 (min many 2000))))], [(2, ⟨71, [.v (.int .i64 ms), .v (.int .i64 p), .v (.int .i64 st), .v (.slice A ws.length ca), .v (.slice B hs.length cb)]⟩)]⟩ (by kernel_rfl) ?_
  refine X.known 8 (y := .v (.int .i64 (max 0 (min many 2000)))) rfl (congrArg (fun z_ => AV.v (.int .i64 z_)) (by simp only [imin_eq, imax_eq])) ?_
  refine X.run 4 [2, 4, 5, 8, 9] [2] (.code (cA B33 [1, 0, 1, 0])) [.blk 0, .seq (cA B33 [1, 1])] ⟨26, [(2, .own 2 0), (4, .v (.slice none 0 0)), (5, .v (.slice none 0 0)), (8, .v (.int .i64 (max 0 (min many 2000)))), (9, .v (.int .i64 0))], [(2, ⟨71, [.v (.int .i64 ms), .v (.int .i64 p), .v (.int .i64 st), .v (.slice A ws.length ca), .v (.slice B hs.length cb)]⟩)]⟩ (by kernel_rfl) ?_
  refine X.nilRow 160 2 1 rfl ?_
  refine X.nilRow 161 2 1 rfl ?_
  refine X.loopJ (fun m s R' G' => ∃ (C_ D_ : Option Addr) (c_ d_ j_ : Nat) (u_ v_ : List Int) (i m_ p_ t_ : Int) (A_ B_ : Option Addr) (ca_ cb_ n1_ n2_ : Nat) (W_ H_ : List Int), s = ⟨26, [(2, .own 2 0), (4, .v (.slice C_ j_ c_)), (5, .v (.slice D_ j_ d_)), (8, .v (.int .i64 (max 0 (min many 2000)))), (9, .v (.int .i64 i))], [(2, ⟨71, [.v (.int .i64 m_), .v (.int .i64 p_), .v (.int .i64 t_), .v (.slice A_ n1_ ca_), .v (.slice B_ n2_ cb_)]⟩)]⟩ ∧ R' = [(161, ⟨2, 1, .slice D_ j_ d_, j_, (v_).map (Value.int .i64)⟩), (160, ⟨2, 1, .slice C_ j_ c_, j_, (u_).map (Value.int .i64)⟩)] ∧ Ge G w.heap.size G' ∧ (0 ≤ i ∧ i ≤ max 0 (min many 2000) ∧ u_ = qL (ms, p, st, ws, hs) j_ ∧ v_ = sL (ms, p, st, ws, hs) j_ ∧ (j_ : Int) = i ∧ itR j_ (ms, p, st, ws, hs) = (m_, p_, t_, W_, H_) ∧ n1_ = W_.length ∧ n2_ = H_.length ∧ n1_ ≤ ca_ ∧ ca_ ≤ maxLen ∧ n2_ ≤ cb_ ∧ cb_ ≤ maxLen ∧ rowAt (D.int .i64) G' A_ W_ ∧ rowAt (D.int .i64) G' B_ H_) ∧ m = (max 0 (min many 2000) - i).toNat) _ ⟨none, none, 0, 0, 0, [], [], 0, ms, p, st, A, B, ca, cb, ws.length, hs.length, ws, hs, rfl, rfl, Ge.refl _ _, ⟨by omega, by omega, rfl, rfl, rfl, rfl, rfl, rfl, hxc, hxm, hyc, hym, hx, hy⟩, rfl⟩ ?_
  rintro m1 s1 R1 G1 ⟨C_, D_, c_, d_, j_, u_, v_, i, m_, p_, t_, A_, B_, ca_, cb_, n1_, n2_, W_, H_, rfl, rfl, hG1, hF1, rfl⟩ J1 hJ1
  replace hx := hx.mono hG1.le
  replace hy := hy.mono hG1.le
  obtain ⟨hi0, hi1, hu, hv, hj, hit, hn1, hn2, hca_, hma_, hcb_, hmb_, hxa_, hyb_⟩ := hF1
  subst hn1 hn2
  simp only [maxLen] at hma_ hmb_
  refine X.run 6 [2, 4, 5, 8, 9, 10] [2] (.code (cA B33 [1, 0, 1, 0, 0, 1, 0])) [.seq (cA B33 [1, 0, 1, 0, 0, 1, 1]), .loop J1, .blk 0, .seq (cA B33 [1, 1])] ⟨26, [(2, .own 2 0), (4, .v (.slice C_ j_ c_)), (5, .v (.slice D_ j_ d_)), (8, .v (.int .i64 (max 0 (min many 2000)))), (9, .v (.int .i64 i)), (10, .v (.bool (decide (i < max 0 (min many 2000)))))], [(2, ⟨71, [.v (.int .i64 m_), .v (.int .i64 p_), .v (.int .i64 t_), .v (.slice A_ W_.length ca_), .v (.slice B_ H_.length cb_)]⟩)]⟩ (by kernel_rfl) ?_
  refine X.split 10 rfl (fun h2 => ?_) (fun h2 => ?_)
  · -- slot 10: decide (i < max 0 (min many 2000)) is True
    replace h2 : i < max 0 (min many 2000) := of_decide_eq_true h2
    refine X.run 6 [2, 4, 5, 8, 9] [2] (.code (cA B33 [1, 0, 1, 0, 0, 1, 1, 0, 0, 0])) [.seq (cA B33 [1, 0, 1, 0, 0, 1, 1, 0, 0, 1]), .blk 1, .seq (cA B33 [1, 0, 1, 0, 0, 1, 1, 1]), .loop J1, .blk 0, .seq (cA B33 [1, 1])] ⟨26, [(2, .own 2 0), (4, .v (.slice C_ j_ c_)), (5, .v (.slice D_ j_ d_)), (8, .v (.int .i64 (max 0 (min many 2000)))), (9, .v (.int .i64 i))], [(2, ⟨71, [.v (.int .i64 m_), .v (.int .i64 p_), .v (.int .i64 t_), .v (.slice A_ W_.length ca_), .v (.slice B_ H_.length cb_)]⟩)]⟩ (by kernel_rfl) ?_
    have hx_d3 := hx
    have hy_d3 := hy
    have hxa__d3 := hxa_
    have hyb__d3 := hyb_
    refine XD.open (id := 3) (arr := aA B33 [1, 0, 1, 0, 0, 1, 1, 0, 0, 0]) 12 [⟨some 2, 2, 71, [.v (.int .i64 m_), .v (.int .i64 p_), .v (.int .i64 t_), .v (.slice A_ W_.length ca_), .v (.slice B_ H_.length cb_)]⟩] [] [] (by kernel_rfl) (by kernel_rfl) (by kernel_rfl) (by kernel_rfl) (by kernel_rfl) ⟨⟨fun _ h => (by cases h; rfl), rfl⟩, trivial⟩ (by intro p hp hn; simp only [List.mem_cons, List.not_mem_nil, or_false] at hp; rcases hp with rfl <;> first | (cases hn; done) | exact absurd _ (Nat.le_of_ble_eq_true rfl)) rfl (fun ρ0 => ?_)
    refine XD.take (i := 0) (l' := (lb 12 1)) (oA B33 [1, 0, 1, 0, 0, 1, 1, 0, 0, 0] 0) (.v (.slice C_ j_ c_)) QOk.ctxG (by kernel_rfl) (by kernel_rfl) (by kernel_rfl) (by kernel_rfl) (by kernel_rfl) ?_
    refine XD.take (i := 1) (l' := (lb 12 3)) (oA B33 [1, 0, 1, 0, 0, 1, 1, 0, 0, 0] 1) (.v (.agg #[.int .i64 m_, .int .i64 p_, .int .i64 t_, .slice A_ W_.length ca_, .slice B_ H_.length cb_])) QOk.ctxG (by kernel_rfl) (by kernel_rfl) (by kernel_rfl) (by kernel_rfl) (by kernel_rfl) ?_
    refine XD.take (i := 5) (l' := (lb 12 35)) (oA B33 [1, 0, 1, 0, 0, 1, 1, 0, 0, 0] 5) (.v (.slice D_ j_ d_)) QOk.ctxG (by kernel_rfl) (by kernel_rfl) (by kernel_rfl) (by kernel_rfl) (by kernel_rfl) ?_
    refine XD.take (i := 6) (l' := (lb 12 99)) (oA B33 [1, 0, 1, 0, 0, 1, 1, 0, 0, 0] 6) (.v (.agg #[.int .i64 m_, .int .i64 p_, .int .i64 t_, .slice A_ W_.length ca_, .slice B_ H_.length cb_])) QOk.ctxG (by kernel_rfl) (by kernel_rfl) (by kernel_rfl) (by kernel_rfl) (by kernel_rfl) ?_
    refine XD.norm [2, 4, 5, 8, 9, 11, 12, 16, 17] [2] ⟨26, [(2, .own 2 0), (4, .v (.slice C_ j_ c_)), (5, .v (.slice D_ j_ d_)), (8, .v (.int .i64 (max 0 (min many 2000)))), (9, .v (.int .i64 i)), (11, .v (.slice C_ j_ c_)), (12, .v (.agg #[.int .i64 m_, .int .i64 p_, .int .i64 t_, .slice A_ W_.length ca_, .slice B_ H_.length cb_])), (16, .v (.slice D_ j_ d_)), (17, .v (.agg #[.int .i64 m_, .int .i64 p_, .int .i64 t_, .slice A_ W_.length ca_, .slice B_ H_.length cb_]))], [(2, ⟨71, [.v (.int .i64 m_), .v (.int .i64 p_), .v (.int .i64 t_), .v (.slice A_ W_.length ca_), .v (.slice B_ H_.length cb_)]⟩)]⟩ (by kernel_rfl) ⟨⟨fun _ h => (by cases h; rfl), rfl⟩, trivial⟩ ?_
    refine XD.one (i := 2) (l' := (lb 12 103)) (oA B33 [1, 0, 1, 0, 0, 1, 1, 0, 0, 0] 2) (by kernel_rfl) (by kernel_rfl) (by kernel_rfl) ?_
    refine X.callG (f := 42) (l := [.v (.agg #[.int .i64 m_, .int .i64 p_, .int .i64 t_, .slice A_ W_.length ca_, .slice B_ H_.length cb_])]) [.agg #[.int .i64 m_, .int .i64 p_, .int .i64 t_, .slice A_ W_.length ca_, .slice B_ H_.length cb_]] 0 (by kernel_rfl) (by kernel_rfl) (by kernel_rfl) (Queue_ok A_ B_ ca_ cb_ m_ p_ t_ W_ H_ _ hxa_ hyb_ hca_ hcb_ hma_ hmb_) ?_
    rintro v4 G4 rows4 hG4 ⟨rfl, rfl⟩
    replace hx := hx.mono hG4.le
    replace hy := hy.mono hG4.le
    replace hxa_ := hxa_.mono hG4.le
    replace hyb_ := hyb_.mono hG4.le
    refine X.back ⟨⟨⟨fun _ h => (by cases h; rfl), rfl⟩, trivial⟩, hG4.le, rfl, ?_⟩
    refine XD.norm [2, 4, 5, 8, 9, 11, 13, 16, 17] [2] ⟨26, [(2, .own 2 0), (4, .v (.slice C_ j_ c_)), (5, .v (.slice D_ j_ d_)), (8, .v (.int .i64 (max 0 (min many 2000)))), (9, .v (.int .i64 i)), (11, .v (.slice C_ j_ c_)), (13, .v (.int .i64 (quI (cP m_ p_ (cN W_)) (cW m_ W_ (cN W_))))), (16, .v (.slice D_ j_ d_)), (17, .v (.agg #[.int .i64 m_, .int .i64 p_, .int .i64 t_, .slice A_ W_.length ca_, .slice B_ H_.length cb_]))], [(2, ⟨71, [.v (.int .i64 m_), .v (.int .i64 p_), .v (.int .i64 t_), .v (.slice A_ W_.length ca_), .v (.slice B_ H_.length cb_)]⟩)]⟩ (by kernel_rfl) ⟨⟨fun _ h => (by cases h; rfl), rfl⟩, trivial⟩ ?_
    refine XD.one (i := 3) (l' := (lb 12 111)) (oA B33 [1, 0, 1, 0, 0, 1, 1, 0, 0, 0] 3) (by kernel_rfl) (by kernel_rfl) (by kernel_rfl) ?_
    refine X.lit 14 2 1 1 [.int .i64 (quI (cP m_ p_ (cN W_)) (cW m_ W_ (cN W_)))] (by kernel_rfl) (fun g => by kernel_rfl) ?_
    intro A5
    refine X.back ⟨⟨⟨fun _ h => (by cases h; rfl), rfl⟩, trivial⟩, hG4.le, rfl, ?_⟩
    refine XD.norm [2, 4, 5, 8, 9, 11, 14, 16, 17] [2] ⟨26, [(2, .own 2 0), (4, .v (.slice C_ j_ c_)), (5, .v (.slice D_ j_ d_)), (8, .v (.int .i64 (max 0 (min many 2000)))), (9, .v (.int .i64 i)), (11, .v (.slice C_ j_ c_)), (14, .v (.slice A5 1 1)), (16, .v (.slice D_ j_ d_)), (17, .v (.agg #[.int .i64 m_, .int .i64 p_, .int .i64 t_, .slice A_ W_.length ca_, .slice B_ H_.length cb_]))], [(2, ⟨71, [.v (.int .i64 m_), .v (.int .i64 p_), .v (.int .i64 t_), .v (.slice A_ W_.length ca_), .v (.slice B_ H_.length cb_)]⟩)]⟩ (by kernel_rfl) ⟨⟨fun _ h => (by cases h; rfl), rfl⟩, trivial⟩ ?_
    refine XD.one (i := 4) (l' := (lb 12 127)) (oA B33 [1, 0, 1, 0, 0, 1, 1, 0, 0, 0] 4) (by kernel_rfl) (by kernel_rfl) (by kernel_rfl) ?_
    refine X.append 160 ⟨2, 1, .slice C_ j_ c_, j_, (u_).map (Value.int .i64)⟩ 22 8 (.int .i64 0) (x := .tmp 11) (y := .tmp 14) (n := j_) (c := c_) (m := 1) (c2 := 1) (A := C_) (B := A5) (news := [.int .i64 (quI (cP m_ p_ (cN W_)) (cW m_ W_ (cN W_)))]) (by kernel_rfl) (by kernel_rfl) (by kernel_rfl) (by kernel_rfl) (by kernel_rfl) rfl (Nat.succ_pos _) (by kernel_rfl) (.inl rfl) rfl rfl (by kernel_rfl) (At.of_row (i := 14) (r := ⟨2, 1, .slice A5 1 1, 1, [.int .i64 (quI (cP m_ p_ (cN W_)) (cW m_ W_ (cN W_)))]⟩) rfl rfl) (fun w hw e => absurd (rowSome (i := 14) (q := ⟨2, 1, .slice A5 1 1, 1, [.int .i64 (quI (cP m_ p_ (cN W_)) (cW m_ W_ (cN W_)))]⟩) rfl rfl (Nat.succ_pos _) w hw) (by rw [e]; decide)) (ones (by kernel_rfl)) (by omega) (by decide) ?_
    intro A6 c6 hc6
    refine X.tellR [160, 14, 161] (R' := [(160, ⟨2, 1, .slice A6 (j_ + 1) c6, j_ + 1, (u_ ++ [quI (cP m_ p_ (cN W_)) (cW m_ W_ (cN W_))]).map (Value.int .i64)⟩), (14, ⟨2, 1, .slice A5 1 1, 1, [.int .i64 (quI (cP m_ p_ (cN W_)) (cW m_ W_ (cN W_)))]⟩), (161, ⟨2, 1, .slice D_ j_ d_, j_, (v_).map (Value.int .i64)⟩)]) (congrArg (fun cs_ => (160, (⟨2, 1, .slice A6 (j_ + 1) c6, j_ + 1, cs_⟩ : Row)) :: [(14, ⟨2, 1, .slice A5 1 1, 1, [.int .i64 (quI (cP m_ p_ (cN W_)) (cW m_ W_ (cN W_)))]⟩), (161, ⟨2, 1, .slice D_ j_ d_, j_, (v_).map (Value.int .i64)⟩)]) (show (u_).map (Value.int .i64) ++ [.int .i64 (quI (cP m_ p_ (cN W_)) (cW m_ W_ (cN W_)))] = (u_ ++ [quI (cP m_ p_ (cN W_)) (cW m_ W_ (cN W_))]).map (Value.int .i64) by simp)) ?_
    refine X.back ⟨⟨⟨fun _ h => (by cases h; rfl), rfl⟩, trivial⟩, hG4.le, rfl, ?_⟩
    refine XD.norm [2, 4, 5, 8, 9, 15, 16, 17] [2] ⟨26, [(2, .own 2 0), (4, .v (.slice C_ j_ c_)), (5, .v (.slice D_ j_ d_)), (8, .v (.int .i64 (max 0 (min many 2000)))), (9, .v (.int .i64 i)), (15, .v (.slice A6 (j_ + 1) c6)), (16, .v (.slice D_ j_ d_)), (17, .v (.agg #[.int .i64 m_, .int .i64 p_, .int .i64 t_, .slice A_ W_.length ca_, .slice B_ H_.length cb_]))], [(2, ⟨71, [.v (.int .i64 m_), .v (.int .i64 p_), .v (.int .i64 t_), .v (.slice A_ W_.length ca_), .v (.slice B_ H_.length cb_)]⟩)]⟩ (by kernel_rfl) ⟨⟨fun _ h => (by cases h; rfl), rfl⟩, trivial⟩ ?_
    refine XD.one (i := 7) (l' := (lb 12 255)) (oA B33 [1, 0, 1, 0, 0, 1, 1, 0, 0, 0] 7) (by kernel_rfl) (by kernel_rfl) (by kernel_rfl) ?_
    refine X.callG (f := 43) (l := [.v (.agg #[.int .i64 m_, .int .i64 p_, .int .i64 t_, .slice A_ W_.length ca_, .slice B_ H_.length cb_])]) [.agg #[.int .i64 m_, .int .i64 p_, .int .i64 t_, .slice A_ W_.length ca_, .slice B_ H_.length cb_]] 0 (by kernel_rfl) (by kernel_rfl) (by kernel_rfl) (Sent_ok A_ B_ ca_ cb_ m_ p_ t_ W_ H_ _ hxa_ hyb_ hca_ hcb_ hma_ hmb_) ?_
    rintro v7 G7 rows7 hG7 ⟨rfl, rfl⟩
    replace hx := hx.mono hG7.le
    replace hy := hy.mono hG7.le
    replace hxa_ := hxa_.mono hG7.le
    replace hyb_ := hyb_.mono hG7.le
    refine X.back ⟨⟨⟨fun _ h => (by cases h; rfl), rfl⟩, trivial⟩, (hG4.trans hG7).le, rfl, ?_⟩
    refine XD.norm [2, 4, 5, 8, 9, 15, 16, 18] [2] ⟨26, [(2, .own 2 0), (4, .v (.slice C_ j_ c_)), (5, .v (.slice D_ j_ d_)), (8, .v (.int .i64 (max 0 (min many 2000)))), (9, .v (.int .i64 i)), (15, .v (.slice A6 (j_ + 1) c6)), (16, .v (.slice D_ j_ d_)), (18, .v (.int .i64 (min (sumI (cW m_ W_ (cN W_))) (cP m_ p_ (cN W_)))))], [(2, ⟨71, [.v (.int .i64 m_), .v (.int .i64 p_), .v (.int .i64 t_), .v (.slice A_ W_.length ca_), .v (.slice B_ H_.length cb_)]⟩)]⟩ (by kernel_rfl) ⟨⟨fun _ h => (by cases h; rfl), rfl⟩, trivial⟩ ?_
    refine XD.one (i := 8) (l' := (lb 12 511)) (oA B33 [1, 0, 1, 0, 0, 1, 1, 0, 0, 0] 8) (by kernel_rfl) (by kernel_rfl) (by kernel_rfl) ?_
    refine X.lit 19 2 1 1 [.int .i64 (min (sumI (cW m_ W_ (cN W_))) (cP m_ p_ (cN W_)))] (by kernel_rfl) (fun g => by kernel_rfl) ?_
    intro A8
    refine X.back ⟨⟨⟨fun _ h => (by cases h; rfl), rfl⟩, trivial⟩, (hG4.trans hG7).le, rfl, ?_⟩
    refine XD.norm [2, 4, 5, 8, 9, 15, 16, 19] [2] ⟨26, [(2, .own 2 0), (4, .v (.slice C_ j_ c_)), (5, .v (.slice D_ j_ d_)), (8, .v (.int .i64 (max 0 (min many 2000)))), (9, .v (.int .i64 i)), (15, .v (.slice A6 (j_ + 1) c6)), (16, .v (.slice D_ j_ d_)), (19, .v (.slice A8 1 1))], [(2, ⟨71, [.v (.int .i64 m_), .v (.int .i64 p_), .v (.int .i64 t_), .v (.slice A_ W_.length ca_), .v (.slice B_ H_.length cb_)]⟩)]⟩ (by kernel_rfl) ⟨⟨fun _ h => (by cases h; rfl), rfl⟩, trivial⟩ ?_
    refine XD.one (i := 9) (l' := (lb 12 1023)) (oA B33 [1, 0, 1, 0, 0, 1, 1, 0, 0, 0] 9) (by kernel_rfl) (by kernel_rfl) (by kernel_rfl) ?_
    refine X.append 161 ⟨2, 1, .slice D_ j_ d_, j_, (v_).map (Value.int .i64)⟩ 22 8 (.int .i64 0) (x := .tmp 16) (y := .tmp 19) (n := j_) (c := d_) (m := 1) (c2 := 1) (A := D_) (B := A8) (news := [.int .i64 (min (sumI (cW m_ W_ (cN W_))) (cP m_ p_ (cN W_)))]) (by kernel_rfl) (by kernel_rfl) (by kernel_rfl) (by kernel_rfl) (by kernel_rfl) rfl (Nat.succ_pos _) (by kernel_rfl) (.inl rfl) rfl rfl (by kernel_rfl) (At.of_row (i := 19) (r := ⟨2, 1, .slice A8 1 1, 1, [.int .i64 (min (sumI (cW m_ W_ (cN W_))) (cP m_ p_ (cN W_)))]⟩) rfl rfl) (fun w hw e => absurd (rowSome (i := 19) (q := ⟨2, 1, .slice A8 1 1, 1, [.int .i64 (min (sumI (cW m_ W_ (cN W_))) (cP m_ p_ (cN W_)))]⟩) rfl rfl (Nat.succ_pos _) w hw) (by rw [e]; decide)) (ones (by kernel_rfl)) (by omega) (by decide) ?_
    intro A9 c9 hc9
    refine X.tellR [161, 19, 160] (R' := [(161, ⟨2, 1, .slice A9 (j_ + 1) c9, j_ + 1, (v_ ++ [min (sumI (cW m_ W_ (cN W_))) (cP m_ p_ (cN W_))]).map (Value.int .i64)⟩), (19, ⟨2, 1, .slice A8 1 1, 1, [.int .i64 (min (sumI (cW m_ W_ (cN W_))) (cP m_ p_ (cN W_)))]⟩), (160, ⟨2, 1, .slice A6 (j_ + 1) c6, j_ + 1, (u_ ++ [quI (cP m_ p_ (cN W_)) (cW m_ W_ (cN W_))]).map (Value.int .i64)⟩)]) (congrArg (fun cs_ => (161, (⟨2, 1, .slice A9 (j_ + 1) c9, j_ + 1, cs_⟩ : Row)) :: [(19, ⟨2, 1, .slice A8 1 1, 1, [.int .i64 (min (sumI (cW m_ W_ (cN W_))) (cP m_ p_ (cN W_)))]⟩), (160, ⟨2, 1, .slice A6 (j_ + 1) c6, j_ + 1, (u_ ++ [quI (cP m_ p_ (cN W_)) (cW m_ W_ (cN W_))]).map (Value.int .i64)⟩)]) (show (v_).map (Value.int .i64) ++ [.int .i64 (min (sumI (cW m_ W_ (cN W_))) (cP m_ p_ (cN W_)))] = (v_ ++ [min (sumI (cW m_ W_ (cN W_))) (cP m_ p_ (cN W_))]).map (Value.int .i64) by simp)) ?_
    refine X.back ⟨⟨⟨fun _ h => (by cases h; rfl), rfl⟩, trivial⟩, (hG4.trans hG7).le, rfl, ?_⟩
    refine XD.take (i := 10) (l' := (lb 12 2047)) (oA B33 [1, 0, 1, 0, 0, 1, 1, 0, 0, 0] 10) (.v (.slice A6 (j_ + 1) c6)) QOk.ctxG (by kernel_rfl) (by kernel_rfl) (by kernel_rfl) (by kernel_rfl) (by kernel_rfl) ?_
    refine XD.take (i := 11) (l' := (lb 12 4095)) (oA B33 [1, 0, 1, 0, 0, 1, 1, 0, 0, 0] 11) (.v (.slice A9 (j_ + 1) c9)) QOk.ctxG (by kernel_rfl) (by kernel_rfl) (by kernel_rfl) (by kernel_rfl) (by kernel_rfl) ?_
    refine XD.done (by kernel_rfl) ?_
    refine X.run 3 [2, 4, 5, 8, 9, 21] [2] (.ops (aA B33 [1, 0, 1, 0, 0, 1, 1, 0, 0, 1]) (oA B33 [1, 0, 1, 0, 0, 1, 1, 0, 0, 1] 1 :: lA B33 [1, 0, 1, 0, 0, 1, 1, 0, 0, 1] 2)) [.blk 1, .seq (cA B33 [1, 0, 1, 0, 0, 1, 1, 1]), .loop J1, .blk 0, .seq (cA B33 [1, 1])] ⟨26, [(2, .own 2 0), (4, .v (.slice A6 (j_ + 1) c6)), (5, .v (.slice A9 (j_ + 1) c9)), (8, .v (.int .i64 (max 0 (min many 2000)))), (9, .v (.int .i64 i)), (21, .v (.agg #[.int .i64 m_, .int .i64 p_, .int .i64 t_, .slice A_ W_.length ca_, .slice B_ H_.length cb_]))], [(2, ⟨71, [.v (.int .i64 m_), .v (.int .i64 p_), .v (.int .i64 t_), .v (.slice A_ W_.length ca_), .v (.slice B_ H_.length cb_)]⟩)]⟩ (by kernel_rfl) ?_
    refine X.callG (f := 44) (l := [.v (.agg #[.int .i64 m_, .int .i64 p_, .int .i64 t_, .slice A_ W_.length ca_, .slice B_ H_.length cb_])]) [.agg #[.int .i64 m_, .int .i64 p_, .int .i64 t_, .slice A_ W_.length ca_, .slice B_ H_.length cb_]] 175 (by kernel_rfl) (by kernel_rfl) (by kernel_rfl) (Next_ok A_ B_ ca_ cb_ m_ p_ t_ W_ H_ _ hxa_ hyb_ hca_ hcb_ hma_ hmb_) ?_
    rintro v10 G10 rows10 hG10 ⟨A10, c10, B10, d10, rfl, rfl⟩
    replace hx := hx.mono hG10.le
    replace hy := hy.mono hG10.le
    replace hxa_ := hxa_.mono hG10.le
    replace hyb_ := hyb_.mono hG10.le
    refine X.asR (R' := [(175, ⟨2, 1, .slice A10 (cN W_) c10, cN W_, (nxW m_ p_ t_ W_ H_).map (Value.int .i64)⟩), (176, ⟨2, 1, .slice B10 (cN W_) d10, cN W_, (nxH m_ p_ t_ W_ H_).map (Value.int .i64)⟩), (161, ⟨2, 1, .slice A9 (j_ + 1) c9, j_ + 1, (v_ ++ [min (sumI (cW m_ W_ (cN W_))) (cP m_ p_ (cN W_))]).map (Value.int .i64)⟩), (19, ⟨2, 1, .slice A8 1 1, 1, [.int .i64 (min (sumI (cW m_ W_ (cN W_))) (cP m_ p_ (cN W_)))]⟩), (160, ⟨2, 1, .slice A6 (j_ + 1) c6, j_ + 1, (u_ ++ [quI (cP m_ p_ (cN W_)) (cW m_ W_ (cN W_))]).map (Value.int .i64)⟩)]) rfl ?_
    refine X.tellR [175, 176, 161, 19, 160] (R' := [(175, ⟨2, 1, .slice A10 (cN W_) c10, cN W_, (nxW m_ p_ t_ W_ H_).map (Value.int .i64)⟩), (176, ⟨2, 1, .slice B10 (cN W_) d10, cN W_, (nxH m_ p_ t_ W_ H_).map (Value.int .i64)⟩), (161, ⟨2, 1, .slice A9 (j_ + 1) c9, j_ + 1, (v_ ++ [min (sumI (cW m_ W_ (cN W_))) (cP m_ p_ (cN W_))]).map (Value.int .i64)⟩), (19, ⟨2, 1, .slice A8 1 1, 1, [.int .i64 (min (sumI (cW m_ W_ (cN W_))) (cP m_ p_ (cN W_)))]⟩), (160, ⟨2, 1, .slice A6 (j_ + 1) c6, j_ + 1, (u_ ++ [quI (cP m_ p_ (cN W_)) (cW m_ W_ (cN W_))]).map (Value.int .i64)⟩)]) rfl ?_
    refine X.capLe (i := 175) (q := ⟨2, 1, .slice A10 (cN W_) c10, cN W_, (nxW m_ p_ t_ W_ H_).map (Value.int .i64)⟩) (n := cN W_) (c := c10) (A := A10) rfl rfl ?_
    intro hle11 hmx11
    refine X.freezeHd (i := 175) (n := cN W_) (c := c10) (A := A10) (kd := .i64) (nxW m_ p_ t_ W_ H_) rfl rfl (fun x_ hx_ => by have h_ := nxW_range x_ hx_; have h2_ := cM_range m_; simp only [IntKind.lo, IntKind.hi]; omega) (by kernel_rfl) (fun _ h => h) ?_
    intro G11 hG11 hr11
    replace hx := hx.mono hG11.le
    replace hy := hy.mono hG11.le
    replace hxa_ := hxa_.mono hG11.le
    replace hyb_ := hyb_.mono hG11.le
    refine X.tellR [176, 161, 19, 160] (R' := [(176, ⟨2, 1, .slice B10 (cN W_) d10, cN W_, (nxH m_ p_ t_ W_ H_).map (Value.int .i64)⟩), (161, ⟨2, 1, .slice A9 (j_ + 1) c9, j_ + 1, (v_ ++ [min (sumI (cW m_ W_ (cN W_))) (cP m_ p_ (cN W_))]).map (Value.int .i64)⟩), (19, ⟨2, 1, .slice A8 1 1, 1, [.int .i64 (min (sumI (cW m_ W_ (cN W_))) (cP m_ p_ (cN W_)))]⟩), (160, ⟨2, 1, .slice A6 (j_ + 1) c6, j_ + 1, (u_ ++ [quI (cP m_ p_ (cN W_)) (cW m_ W_ (cN W_))]).map (Value.int .i64)⟩)]) rfl ?_
    refine X.capLe (i := 176) (q := ⟨2, 1, .slice B10 (cN W_) d10, cN W_, (nxH m_ p_ t_ W_ H_).map (Value.int .i64)⟩) (n := cN W_) (c := d10) (A := B10) rfl rfl ?_
    intro hle12 hmx12
    refine X.freezeHd (i := 176) (n := cN W_) (c := d10) (A := B10) (kd := .i64) (nxH m_ p_ t_ W_ H_) rfl rfl (fun x_ hx_ => by have h_ := nxH_range x_ hx_; have h2_ := cM_range m_; simp only [IntKind.lo, IntKind.hi]; omega) (by kernel_rfl) (fun _ h => h) ?_
    intro G12 hG12 hr12
    replace hx := hx.mono hG12.le
    replace hy := hy.mono hG12.le
    replace hxa_ := hxa_.mono hG12.le
    replace hyb_ := hyb_.mono hG12.le
    replace hr11 := hr11.mono hG12.le
    refine X.run 8 [2, 4, 5, 8, 9] [2] (.ex .normal) [.loop J1, .blk 0, .seq (cA B33 [1, 1])] ⟨26, [(2, .own 2 0), (4, .v (.slice A6 (j_ + 1) c6)), (5, .v (.slice A9 (j_ + 1) c9)), (8, .v (.int .i64 (max 0 (min many 2000)))), (9, .v (.int .i64 (IntKind.i64.wrap (i + 1))))], [(2, ⟨71, [.v (.int .i64 (cM m_)), .v (.int .i64 (cP m_ p_ (cN W_))), .v (.int .i64 (cS t_)), .v (.slice A10 (cN W_) c10), .v (.slice B10 (cN W_) d10)]⟩)]⟩ (by kernel_rfl) ?_
    refine X.tellR [161, 160] (R' := [(161, ⟨2, 1, .slice A9 (j_ + 1) c9, j_ + 1, (v_ ++ [sR (itR j_ (ms, p, st, ws, hs))]).map (Value.int .i64)⟩), (160, ⟨2, 1, .slice A6 (j_ + 1) c6, j_ + 1, (u_ ++ [qR (itR j_ (ms, p, st, ws, hs))]).map (Value.int .i64)⟩)]) (by rw [hit]; rfl) ?_
    -- again (T)
    have e1 : IntKind.i64.wrap (i + 1) = i + 1 := wi64 (by omega) (by omega)
    exact X.again (hJ1 _ _ _ _ ⟨A6, A9, c6, c9, j_ + 1, u_ ++ [qR (itR j_ (ms, p, st, ws, hs))], v_ ++ [sR (itR j_ (ms, p, st, ws, hs))], IntKind.i64.wrap (i + 1), cM m_, cP m_ p_ (cN W_), cS t_, A10, B10, c10, d10, cN W_, cN W_, nxW m_ p_ t_ W_ H_, nxH m_ p_ t_ W_ H_, rfl, rfl, (((((hG1.trans hG4).trans hG7).trans hG10).trans hG11).trans hG12), ⟨by omega, by omega, by rw [hu, qL_succ], by rw [hv, sL_succ], by omega, by show stR (itR j_ _) = _; rw [hit]; rfl, (nxW_len _ _ _ _ _).symm, (nxH_len _ _ _ _ _).symm, hle11, hmx11, hle12, hmx12, hr11, hr12⟩, rfl⟩ (by rw [e1]; omega))
  · -- slot 10: decide (i < max 0 (min many 2000)) is False
    replace h2 : ¬ (i < max 0 (min many 2000)) := of_decide_eq_false h2
    refine X.run 15 [4, 5] [] (.ex .ret) [] ⟨26, [(4, .v (.slice C_ j_ c_)), (5, .v (.slice D_ j_ d_))], []⟩ (by kernel_rfl) ?_
    refine doneG (.inl rfl) [.slice C_ j_ c_, .slice D_ j_ d_] [160, 161] (by kernel_rfl) rfl rfl (hG1) ?_
    -- end 1 (F)
    have hj_ : j_ = (max 0 (min many 2000)).toNat := by omega
    subst hu hv hj_
    exact ⟨C_, c_, D_, d_, rfl, rfl⟩

end Go.Proofs.YthpinlcfcgnilaaX
