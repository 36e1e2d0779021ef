/- leatlaw45.works, words: walked. Printed by a small program of this session. Conditions: none. -/
import Derived.Test.YthpinlcfcgnilaaProg
import Derived.KernelRfl
import Derived.Test.YthpinlcfcgnilaaXBA
namespace Go.Proofs.YthpinlcfcgnilaaX
open Go.RowKit
open Go.Proofs.YthpinlcfcgnilaaW.PrintLast Go.Proofs.YthpinlcfcgnilaaW.PrintWords
set_option linter.unusedVariables false
set_option linter.unusedSimpArgs false
set_option maxRecDepth 100000
theorem Next_okn (A B : Option Addr) (ca cb n1 n2 : Nat) (ms p st : Int) (ws hs : List Int) (G : Mem) (hx : rowAt (D.int .i64) G A ws) (hy : rowAt (D.int .i64) G B hs) (h1 : ws.length = n1) (h2 : hs.length = n2) (hxc : n1 ≤ ca) (hyc : n2 ≤ cb) (hxm : ca ≤ maxLen) (hym : cb ≤ maxLen) : CallsG Try.prog 44 [.agg #[.int .i64 ms, .int .i64 p, .int .i64 st, .slice A n1 ca, .slice B n2 cb]] G (fun _ v rows => ∃ A' c' B' d', v = .agg #[.int .i64 (cM ms), .int .i64 (cP ms p (cN ws)), .int .i64 (cS st), .slice A' (cN ws) c', .slice B' (cN ws) d'] ∧ rows = [⟨2, 1, .slice A' (cN ws) c', cN ws, (nxW ms p st ws hs).map (Value.int .i64)⟩, ⟨2, 1, .slice B' (cN ws) d', cN ws, (nxH ms p st ws hs).map (Value.int .i64)⟩]) := by
  subst h1 h2
  exact Next_ok A B ca cb ms p st ws hs G hx hy hxc hyc hxm hym

/-- What is clean of rounds. -/
def clR (x : RS) : RS := (cM x.1, cP x.1 x.2.1 (cN x.2.2.2.1), cS x.2.2.1, cW x.1 x.2.2.2.1 (cN x.2.2.2.1), cH x.2.2.2.2 (cN x.2.2.2.1))
theorem cM_cM (m : Int) : cM (cM m) = cM m := by unfold cM; omega
theorem cS_cS (m : Int) : cS (cS m) = cS m := by unfold cS; omega
theorem cP_cP (m p : Int) {n : Nat} (h : n ≤ 256) : cP (cM m) (cP m p n) n = cP m p n := by
  have := cP_lo m h
  unfold cP
  rw [cM_cM]
  omega
theorem cW_self {m : Int} {l : List Int} {n : Nat} (hn : l.length = n) (h : ∀ x ∈ l, 2 * cM m ≤ x ∧ x ≤ 1073741824) : cW m l n = l := by
  apply List.ext_getElem
  · rw [cW_len, hn]
  · intro i h1 h2
    have h3 := h _ (List.getElem_mem h2)
    simp only [cW, cw, List.getElem_map, List.getElem_range, List.getD, List.getElem?_eq_getElem h2, Option.getD_some]
    omega
theorem cH_self {l : List Int} {n : Nat} (hn : l.length = n) (h : ∀ x ∈ l, 0 ≤ x ∧ x ≤ 1048576) : cH l n = l := by
  apply List.ext_getElem
  · rw [cH_len, hn]
  · intro i h1 h2
    have h3 := h _ (List.getElem_mem h2)
    simp only [cH, ch, List.getElem_map, List.getElem_range, List.getD, List.getElem?_eq_getElem h2, Option.getD_some]
    omega
theorem cN_of {l : List Int} {n : Nat} (h : l.length = n) (h1 : 1 ≤ n ∧ n ≤ 256) : cN l = n := by
  unfold cN
  omega
theorem clR_st (x : RS) : clR (stR x) = stR x := by
  obtain ⟨m, p, t, ws, hs⟩ := x
  have hn := cN_range ws
  have e1 : cN (nxW m p t ws hs) = cN ws := cN_of (nxW_len _ _ _ _ _) hn
  simp only [clR, stR, e1, cM_cM, cS_cS, cP_cP m p hn.2]
  rw [cW_self (nxW_len _ _ _ _ _) (by rw [cM_cM]; exact nxW_range), cH_self (nxH_len _ _ _ _ _) nxH_range]
theorem clR_ok (x : RS) : (1 ≤ (clR x).1 ∧ (clR x).1 ≤ 65536) ∧ (0 ≤ (clR x).2.1 ∧ (clR x).2.1 ≤ 1073741824) ∧ (∀ y ∈ (clR x).2.2.2.1, 2 * (clR x).1 ≤ y ∧ y ≤ 1073741824) ∧ (∀ y ∈ (clR x).2.2.2.2, 0 ≤ y ∧ y ≤ 1048576) ∧ (clR x).2.2.2.1.length ≤ 256 ∧ (clR x).2.2.2.2.length = (clR x).2.2.2.1.length ∧ 1 ≤ (clR x).2.2.2.1.length ∧ 2 * (clR x).1 * ((clR x).2.2.2.1.length : Int) ≤ (clR x).2.1 := by
  obtain ⟨m, p, t, ws, hs⟩ := x
  have hn := cN_range ws
  refine ⟨cM_range m, cP_range _ _ hn.2, cW_range, cH_range, ?_, ?_, ?_, ?_⟩
  · simp only [clR, cW_len]; exact hn.2
  · simp only [clR, cW_len, cH_len]
  · simp only [clR, cW_len]; exact hn.1
  · simp only [clR, cW_len]; unfold cP; omega
theorem itR_cl (x : RS) (k : Nat) : clR (itR (k + 1) x) = itR (k + 1) x := clR_st _
theorem itR_next (x : RS) (k : Nat) {m p t : Int} {W H : List Int} (h : (m, p, t, W, H) = clR (itR k x)) : (m, p, t, nextW (mkd p t W) m W H W.length, nextH (mkd p t W) H W.length) = clR (itR (k + 1) x) := by
  rw [itR_cl]
  show _ = stR (itR k x)
  generalize itR k x = y at h
  obtain ⟨m0, p0, t0, ws, hs⟩ := y
  simp only [clR, Prod.mk.injEq] at h
  obtain ⟨rfl, rfl, rfl, rfl, rfl⟩ := h
  rw [cW_len]
  rfl
theorem qR_of {x : RS} {m p t : Int} {W H : List Int} (h : (m, p, t, W, H) = clR x) : qR x = quI p W := by
  show quI (clR x).2.1 (clR x).2.2.2.1 = _
  rw [← h]
theorem sR_of {x : RS} {m p t : Int} {W H : List Int} (h : (m, p, t, W, H) = clR x) : sR x = min (sumI W) p := by
  show min (sumI (clR x).2.2.2.1) (clR x).2.1 = _
  rw [← h]
theorem sum_clR (x : RS) : 0 ≤ sumI (clR x).2.2.2.1 ∧ sumI (clR x).2.2.2.1 ≤ 274877906944 := by
  obtain ⟨h1, _, h3, _, h5, _⟩ := clR_ok x
  have := sumI_bounds (l := (clR x).2.2.2.1) (fun y hy => by have := h3 y hy; omega)
  omega
theorem qR_range (x : RS) : 0 ≤ qR x ∧ qR x ≤ 274877906944 := by
  have h1 := sum_clR x
  have h2 := (clR_ok x).2.1
  have e : qR x = quI (clR x).2.1 (clR x).2.2.2.1 := rfl
  rw [e]
  unfold quI
  omega
theorem sR_range (x : RS) : 0 ≤ sR x ∧ sR x ≤ 1073741824 := by
  have h1 := sum_clR x
  have h2 := (clR_ok x).2.1
  have e : sR x = min (sumI (clR x).2.2.2.1) (clR x).2.1 := rfl
  rw [e]
  omega
theorem qL_range {x : RS} {n : Nat} : ∀ y ∈ qL x n, IntKind.lo .i64 ≤ y ∧ y ≤ IntKind.hi .i64 := by
  intro y hy
  obtain ⟨j, _, rfl⟩ := List.mem_map.mp hy
  have := qR_range (itR j x)
  simp only [IntKind.lo, IntKind.hi]
  omega
theorem sL_range {x : RS} {n : Nat} : ∀ y ∈ sL x n, IntKind.lo .i64 ≤ y ∧ y ≤ IntKind.hi .i64 := by
  intro y hy
  obtain ⟨j, _, rfl⟩ := List.mem_map.mp hy
  have := sR_range (itR j x)
  simp only [IntKind.lo, IntKind.hi]
  omega
theorem qL_at {x : RS} {n j : Nat} (h : j < n) : (qL x n).getD j 0 = qR (itR j x) := by simp [qL, List.getD, h]
theorem sL_at {x : RS} {n j : Nat} (h : j < n) : (sL x n).getD j 0 = sR (itR j x) := by simp [sL, List.getD, h]
theorem ram_eq {p mn : Int} (hp : 0 ≤ p ∧ p ≤ 1073741824) (hm : 1 ≤ mn ∧ mn ≤ 16777216) : IntKind.i64.wrap (Int.tdiv (p + mn - 1) mn) = ramI p mn := by
  rw [Int.tdiv_eq_ediv_of_nonneg (by omega)]
  have h1 : (p + mn - 1) / mn ≤ p + mn - 1 := Int.ediv_le_self _ (by omega)
  have h2 := Int.ediv_nonneg (show 0 ≤ p + mn - 1 by omega) (show 0 ≤ mn by omega)
  rw [wi64 (by omega) (by omega)]
  rfl

theorem nextW_range {mk : Bool} {m : Int} {ws hs : List Int} {n : Nat} (hm : 1 ≤ m ∧ m ≤ 65536) (hb : ∀ x ∈ ws, 2 * m ≤ x ∧ x ≤ 1073741824) (hh : ∀ x ∈ hs, 0 ≤ x ∧ x ≤ 1048576) (h1 : ws.length = n) (h2 : hs.length = n) : ∀ x ∈ nextW mk m ws hs n, 2 * m ≤ x ∧ x ≤ 1073741824 := by
  intro x hx
  obtain ⟨j, hj, rfl⟩ := mem_getD hx
  rw [nextW_len] at hj
  rw [nextW_at hj]
  exact nW_range hm (hb _ (getD_memI (by omega))) (nH_range (hh _ (getD_memI (by omega))))
theorem nextH_range {mk : Bool} {hs : List Int} {n : Nat} (hh : ∀ x ∈ hs, 0 ≤ x ∧ x ≤ 1048576) (h2 : hs.length = n) : ∀ x ∈ nextH mk hs n, 0 ≤ x ∧ x ≤ 1048576 := by
  intro x hx
  obtain ⟨j, hj, rfl⟩ := mem_getD hx
  rw [nextH_len] at hj
  rw [nextH_at hj]
  exact nH_range (hh _ (getD_memI (by omega)))

/-- leat/leatlaw45.works -/
noncomputable def B38 : Code := bodyOf Try.f38
set_option maxHeartbeats 1000000 in
theorem Works_ok (G : Mem) : CallsG Try.prog 38 [] G (fun _ v rows => v = .bool true ∧ rows = []) := by
  have hN1_ : cN [10000] = 1 := rfl
  have hN2_ : cN (nxW 1000 10000 0 [10000] [1048576]) = 1 := by kernel_rfl
  have hl1_ : (nxW 1000 10000 0 [10000] [1048576]).length = 1 := by rw [nxW_len]; rfl
  have hl2_ : (nxW (cM 1000) (cP 1000 10000 (cN [10000])) (cS 0) (nxW 1000 10000 0 [10000] [1048576]) (nxH 1000 10000 0 [10000] [1048576])).length = 1 := by rw [nxW_len]; exact hN2_
  refine CallsG.enter Try.func38 rfl rfl ?_
  intro w
  refine X.run 7 [0] [] (.ops (aA B38 [1, 0]) (oA B38 [1, 0] 0 :: lA B38 [1, 0] 1)) [.seq (cA B38 [1, 1])] ⟨42, [(0, .v (.bool false))], []⟩ (by kernel_rfl) ?_
  refine X.lit 4 2 1 1 [.int .i64 10000] (by kernel_rfl) (fun g => by kernel_rfl) ?_
  intro A1
  refine X.tellR [4] (R' := [(4, ⟨2, 1, .slice A1 1 1, 1, [.int .i64 10000]⟩)]) rfl ?_
  refine X.capLe (i := 4) (q := ⟨2, 1, .slice A1 1 1, 1, [.int .i64 10000]⟩) (n := 1) (c := 1) (A := A1) rfl rfl ?_
  intro hle2 hmx2
  refine X.freezeHd (i := 4) (n := 1) (c := 1) (A := A1) (kd := .i64) ([10000]) rfl rfl (by intro x_ hx_; simp at hx_; subst hx_; decide) (by kernel_rfl) (fun _ h => h) ?_
  intro G2 hG2 hr2
  refine X.lit 5 2 1 1 [.int .i64 1048576] (by kernel_rfl) (fun g => by kernel_rfl) ?_
  intro A3
  refine X.tellR [5] (R' := [(5, ⟨2, 1, .slice A3 1 1, 1, [.int .i64 1048576]⟩)]) rfl ?_
  refine X.capLe (i := 5) (q := ⟨2, 1, .slice A3 1 1, 1, [.int .i64 1048576]⟩) (n := 1) (c := 1) (A := A3) rfl rfl ?_
  intro hle4 hmx4
  refine X.freezeHd (i := 5) (n := 1) (c := 1) (A := A3) (kd := .i64) ([1048576]) rfl rfl (by intro x_ hx_; simp at hx_; subst hx_; decide) (by kernel_rfl) (fun _ h => h) ?_
  intro G4 hG4 hr4
  replace hr2 := hr2.mono hG4.le
  refine X.run 8 [0, 7] [] (.ops (aA B38 [1, 1, 0]) (oA B38 [1, 1, 0] 1 :: lA B38 [1, 1, 0] 2)) [.seq (cA B38 [1, 1, 1])] ⟨42, [(0, .v (.bool false)), (7, .v (.agg #[.int .i64 1000, .int .i64 10000, .int .i64 0, .slice A1 1 1, .slice A3 1 1]))], []⟩ (by kernel_rfl) ?_
  refine X.callG (f := 44) (l := [.v (.agg #[.int .i64 1000, .int .i64 10000, .int .i64 0, .slice A1 1 1, .slice A3 1 1])]) [.agg #[.int .i64 1000, .int .i64 10000, .int .i64 0, .slice A1 1 1, .slice A3 1 1]] 175 (by kernel_rfl) (by kernel_rfl) (by kernel_rfl) (Next_okn A1 A3 1 1 1 1 1000 10000 0 [10000] [1048576] _ hr2 hr4 rfl rfl hle2 hle4 hmx2 hmx4) ?_
  rintro v5 G5 rows5 hG5 ⟨A5, c5, B5, d5, rfl, rfl⟩
  replace hr2 := hr2.mono hG5.le
  replace hr4 := hr4.mono hG5.le
  refine X.asR (R' := [(175, ⟨2, 1, .slice A5 (cN [10000]) c5, cN [10000], (nxW 1000 10000 0 [10000] [1048576]).map (Value.int .i64)⟩), (176, ⟨2, 1, .slice B5 (cN [10000]) d5, cN [10000], (nxH 1000 10000 0 [10000] [1048576]).map (Value.int .i64)⟩)]) rfl ?_
  refine X.tellR [175, 176] (R' := [(175, ⟨2, 1, .slice A5 (cN [10000]) c5, cN [10000], (nxW 1000 10000 0 [10000] [1048576]).map (Value.int .i64)⟩), (176, ⟨2, 1, .slice B5 (cN [10000]) d5, cN [10000], (nxH 1000 10000 0 [10000] [1048576]).map (Value.int .i64)⟩)]) rfl ?_
  refine X.capLe (i := 175) (q := ⟨2, 1, .slice A5 (cN [10000]) c5, cN [10000], (nxW 1000 10000 0 [10000] [1048576]).map (Value.int .i64)⟩) (n := cN [10000]) (c := c5) (A := A5) rfl rfl ?_
  intro hle6 hmx6
  refine X.freezeHd (i := 175) (n := cN [10000]) (c := c5) (A := A5) (kd := .i64) (nxW 1000 10000 0 [10000] [1048576]) rfl rfl (fun x_ hx_ => by have h_ := nxW_range x_ hx_; have h2_ := cM_range 1000; simp only [IntKind.lo, IntKind.hi]; omega) (by kernel_rfl) (fun _ h => h) ?_
  intro G6 hG6 hr6
  replace hr2 := hr2.mono hG6.le
  replace hr4 := hr4.mono hG6.le
  refine X.tellR [176] (R' := [(176, ⟨2, 1, .slice B5 (cN [10000]) d5, cN [10000], (nxH 1000 10000 0 [10000] [1048576]).map (Value.int .i64)⟩)]) rfl ?_
  refine X.capLe (i := 176) (q := ⟨2, 1, .slice B5 (cN [10000]) d5, cN [10000], (nxH 1000 10000 0 [10000] [1048576]).map (Value.int .i64)⟩) (n := cN [10000]) (c := d5) (A := B5) rfl rfl ?_
  intro hle7 hmx7
  refine X.freezeHd (i := 176) (n := cN [10000]) (c := d5) (A := B5) (kd := .i64) (nxH 1000 10000 0 [10000] [1048576]) rfl rfl (fun x_ hx_ => by have h_ := nxH_range x_ hx_; simp only [IntKind.lo, IntKind.hi]; omega) (by kernel_rfl) (fun _ h => h) ?_
  intro G7 hG7 hr7
  replace hr2 := hr2.mono hG7.le
  replace hr4 := hr4.mono hG7.le
  replace hr6 := hr6.mono hG7.le
  refine X.run 7 [0, 2, 9] [2] (.ops (aA B38 [1, 1, 1, 0]) (oA B38 [1, 1, 1, 0] 1 :: lA B38 [1, 1, 1, 0] 2)) [.seq (cA B38 [1, 1, 1, 1])] ⟨42, [(0, .v (.bool false)), (2, .own 2 0), (9, .v (.agg #[.int .i64 (cM 1000), .int .i64 (cP 1000 10000 (cN [10000])), .int .i64 (cS 0), .slice A5 (cN [10000]) c5, .slice B5 (cN [10000]) d5]))], [(2, ⟨71, [.v (.int .i64 (cM 1000)), .v (.int .i64 (cP 1000 10000 (cN [10000]))), .v (.int .i64 (cS 0)), .v (.slice A5 (cN [10000]) c5), .v (.slice B5 (cN [10000]) d5)]⟩)]⟩ (by kernel_rfl) ?_
  refine X.callG (f := 44) (l := [.v (.agg #[.int .i64 (cM 1000), .int .i64 (cP 1000 10000 (cN [10000])), .int .i64 (cS 0), .slice A5 (cN [10000]) c5, .slice B5 (cN [10000]) d5])]) [.agg #[.int .i64 (cM 1000), .int .i64 (cP 1000 10000 (cN [10000])), .int .i64 (cS 0), .slice A5 (cN [10000]) c5, .slice B5 (cN [10000]) d5]] 175 (by kernel_rfl) (by kernel_rfl) (by kernel_rfl) (Next_okn A5 B5 c5 d5 (cN [10000]) (cN [10000]) (cM 1000) (cP 1000 10000 (cN [10000])) (cS 0) (nxW 1000 10000 0 [10000] [1048576]) (nxH 1000 10000 0 [10000] [1048576]) _ hr6 hr7 (nxW_len _ _ _ _ _) (nxH_len _ _ _ _ _) hle6 hle7 hmx6 hmx7) ?_
  rintro v8 G8 rows8 hG8 ⟨A8, c8, B8, d8, rfl, rfl⟩
  replace hr2 := hr2.mono hG8.le
  replace hr4 := hr4.mono hG8.le
  replace hr6 := hr6.mono hG8.le
  replace hr7 := hr7.mono hG8.le
  refine X.asR (R' := [(175, ⟨2, 1, .slice A8 (cN (nxW 1000 10000 0 [10000] [1048576])) c8, cN (nxW 1000 10000 0 [10000] [1048576]), (nxW (cM 1000) (cP 1000 10000 (cN [10000])) (cS 0) (nxW 1000 10000 0 [10000] [1048576]) (nxH 1000 10000 0 [10000] [1048576])).map (Value.int .i64)⟩), (176, ⟨2, 1, .slice B8 (cN (nxW 1000 10000 0 [10000] [1048576])) d8, cN (nxW 1000 10000 0 [10000] [1048576]), (nxH (cM 1000) (cP 1000 10000 (cN [10000])) (cS 0) (nxW 1000 10000 0 [10000] [1048576]) (nxH 1000 10000 0 [10000] [1048576])).map (Value.int .i64)⟩)]) rfl ?_
  refine X.tellR [175, 176] (R' := [(175, ⟨2, 1, .slice A8 (cN (nxW 1000 10000 0 [10000] [1048576])) c8, cN (nxW 1000 10000 0 [10000] [1048576]), (nxW (cM 1000) (cP 1000 10000 (cN [10000])) (cS 0) (nxW 1000 10000 0 [10000] [1048576]) (nxH 1000 10000 0 [10000] [1048576])).map (Value.int .i64)⟩), (176, ⟨2, 1, .slice B8 (cN (nxW 1000 10000 0 [10000] [1048576])) d8, cN (nxW 1000 10000 0 [10000] [1048576]), (nxH (cM 1000) (cP 1000 10000 (cN [10000])) (cS 0) (nxW 1000 10000 0 [10000] [1048576]) (nxH 1000 10000 0 [10000] [1048576])).map (Value.int .i64)⟩)]) rfl ?_
  refine X.capLe (i := 175) (q := ⟨2, 1, .slice A8 (cN (nxW 1000 10000 0 [10000] [1048576])) c8, cN (nxW 1000 10000 0 [10000] [1048576]), (nxW (cM 1000) (cP 1000 10000 (cN [10000])) (cS 0) (nxW 1000 10000 0 [10000] [1048576]) (nxH 1000 10000 0 [10000] [1048576])).map (Value.int .i64)⟩) (n := cN (nxW 1000 10000 0 [10000] [1048576])) (c := c8) (A := A8) rfl rfl ?_
  intro hle9 hmx9
  refine X.freezeHd (i := 175) (n := cN (nxW 1000 10000 0 [10000] [1048576])) (c := c8) (A := A8) (kd := .i64) (nxW (cM 1000) (cP 1000 10000 (cN [10000])) (cS 0) (nxW 1000 10000 0 [10000] [1048576]) (nxH 1000 10000 0 [10000] [1048576])) rfl rfl (fun x_ hx_ => by have h_ := nxW_range x_ hx_; have h2_ := cM_range (cM 1000); simp only [IntKind.lo, IntKind.hi]; omega) (by kernel_rfl) (fun _ h => h) ?_
  intro G9 hG9 hr9
  replace hr2 := hr2.mono hG9.le
  replace hr4 := hr4.mono hG9.le
  replace hr6 := hr6.mono hG9.le
  replace hr7 := hr7.mono hG9.le
  refine X.tellR [176] (R' := [(176, ⟨2, 1, .slice B8 (cN (nxW 1000 10000 0 [10000] [1048576])) d8, cN (nxW 1000 10000 0 [10000] [1048576]), (nxH (cM 1000) (cP 1000 10000 (cN [10000])) (cS 0) (nxW 1000 10000 0 [10000] [1048576]) (nxH 1000 10000 0 [10000] [1048576])).map (Value.int .i64)⟩)]) rfl ?_
  refine X.capLe (i := 176) (q := ⟨2, 1, .slice B8 (cN (nxW 1000 10000 0 [10000] [1048576])) d8, cN (nxW 1000 10000 0 [10000] [1048576]), (nxH (cM 1000) (cP 1000 10000 (cN [10000])) (cS 0) (nxW 1000 10000 0 [10000] [1048576]) (nxH 1000 10000 0 [10000] [1048576])).map (Value.int .i64)⟩) (n := cN (nxW 1000 10000 0 [10000] [1048576])) (c := d8) (A := B8) rfl rfl ?_
  intro hle10 hmx10
  refine X.freezeHd (i := 176) (n := cN (nxW 1000 10000 0 [10000] [1048576])) (c := d8) (A := B8) (kd := .i64) (nxH (cM 1000) (cP 1000 10000 (cN [10000])) (cS 0) (nxW 1000 10000 0 [10000] [1048576]) (nxH 1000 10000 0 [10000] [1048576])) rfl rfl (fun x_ hx_ => by have h_ := nxH_range x_ hx_; simp only [IntKind.lo, IntKind.hi]; omega) (by kernel_rfl) (fun _ h => h) ?_
  intro G10 hG10 hr10
  replace hr2 := hr2.mono hG10.le
  replace hr4 := hr4.mono hG10.le
  replace hr6 := hr6.mono hG10.le
  replace hr7 := hr7.mono hG10.le
  replace hr9 := hr9.mono hG10.le
  refine X.run 11 [0, 2, 3, 15] [2, 3] (.ops (aA B38 [1, 1, 1, 1, 0]) (oA B38 [1, 1, 1, 1, 0] 5 :: lA B38 [1, 1, 1, 1, 0] 6)) [.seq (cA B38 [1, 1, 1, 1, 1])] ⟨42, [(0, .v (.bool false)), (2, .own 2 0), (3, .own 3 0), (15, .v (.bool (((cN [10000] : Nat) : Int) == 1)))], [(2, ⟨71, [.v (.int .i64 (cM 1000)), .v (.int .i64 (cP 1000 10000 (cN [10000]))), .v (.int .i64 (cS 0)), .v (.slice A5 (cN [10000]) c5), .v (.slice B5 (cN [10000]) d5)]⟩), (3, ⟨71, [.v (.int .i64 (cM (cM 1000))), .v (.int .i64 (cP (cM 1000) (cP 1000 10000 (cN [10000])) (cN (nxW 1000 10000 0 [10000] [1048576])))), .v (.int .i64 (cS (cS 0))), .v (.slice A8 (cN (nxW 1000 10000 0 [10000] [1048576])) c8), .v (.slice B8 (cN (nxW 1000 10000 0 [10000] [1048576])) d8)]⟩)]⟩ (by kernel_rfl) ?_
  refine X.isTrue 15 rfl (by rw [hN1_]; rfl) ?_
  refine X.run 2 [0, 3, 15, 17] [3] (.ops (aA B38 [1, 1, 1, 1, 0]) (oA B38 [1, 1, 1, 1, 0] 7 :: lA B38 [1, 1, 1, 1, 0] 8)) [.seq (cA B38 [1, 1, 1, 1, 1])] ⟨42, [(0, .v (.bool false)), (3, .own 3 0), (15, .v (.bool true)), (17, .v (.slice A5 (cN [10000]) c5))], [(3, ⟨71, [.v (.int .i64 (cM (cM 1000))), .v (.int .i64 (cP (cM 1000) (cP 1000 10000 (cN [10000])) (cN (nxW 1000 10000 0 [10000] [1048576])))), .v (.int .i64 (cS (cS 0))), .v (.slice A8 (cN (nxW 1000 10000 0 [10000] [1048576])) c8), .v (.slice B8 (cN (nxW 1000 10000 0 [10000] [1048576])) d8)]⟩)]⟩ (by kernel_rfl) ?_
  have b11 : (0 : Int) ≤ 0 := by omega
  have b12 : 0 < ((cN [10000] : Nat) : Int) := by omega
  refine X.index (t := 22) (e := 2) (sz := 1) (A := A5) (n := cN [10000]) (c := c5) (ki := .i64) (i := 0) (x := .tmp 17) (ix := .const (.int .i64 0)) (by kernel_rfl) (by kernel_rfl) (by kernel_rfl) (by kernel_rfl) (by kernel_rfl) (by kernel_rfl) b11 b12 (fun _ _ => rowAt.so hr6 (by omega)) ?_
  obtain ⟨at13, lo13, hi13⟩ := At.int [] hr6 0 (by omega)
  simp only [IntKind.lo, IntKind.hi] at lo13 hi13
  refine X.run 0 [0, 3, 15, 18] [3] (.ops (aA B38 [1, 1, 1, 1, 0]) (oA B38 [1, 1, 1, 1, 0] 8 :: lA B38 [1, 1, 1, 1, 0] 9)) [.seq (cA B38 [1, 1, 1, 1, 1])] ⟨42, [(0, .v (.bool false)), (3, .own 3 0), (15, .v (.bool true)), (18, .v (elt A5 (0 * 1)))], [(3, ⟨71, [.v (.int .i64 (cM (cM 1000))), .v (.int .i64 (cP (cM 1000) (cP 1000 10000 (cN [10000])) (cN (nxW 1000 10000 0 [10000] [1048576])))), .v (.int .i64 (cS (cS 0))), .v (.slice A8 (cN (nxW 1000 10000 0 [10000] [1048576])) c8), .v (.slice B8 (cN (nxW 1000 10000 0 [10000] [1048576])) d8)]⟩)]⟩ (by kernel_rfl) ?_
  refine X.load (t := 2) (A := A5) (j := 0 * 1) (x := .tmp 18) (z := .int .i64 ((nxW 1000 10000 0 [10000] [1048576]).getD 0 0)) [.int .i64 ((nxW 1000 10000 0 [10000] [1048576]).getD 0 0)] (by kernel_rfl) (by kernel_rfl) at13 (by kernel_rfl) (by kernel_rfl) ?_
  refine X.run 3 [0, 3, 22] [3] (.ops (aA B38 [1, 1, 1, 1, 0]) (oA B38 [1, 1, 1, 1, 0] 12 :: lA B38 [1, 1, 1, 1, 0] 13)) [.seq (cA B38 [1, 1, 1, 1, 1])] ⟨42, [(0, .v (.bool false)), (3, .own 3 0), (22, .v (.bool (((nxW 1000 10000 0 [10000] [1048576]).getD 0 0) == 11000)))], [(3, ⟨71, [.v (.int .i64 (cM (cM 1000))), .v (.int .i64 (cP (cM 1000) (cP 1000 10000 (cN [10000])) (cN (nxW 1000 10000 0 [10000] [1048576])))), .v (.int .i64 (cS (cS 0))), .v (.slice A8 (cN (nxW 1000 10000 0 [10000] [1048576])) c8), .v (.slice B8 (cN (nxW 1000 10000 0 [10000] [1048576])) d8)]⟩)]⟩ (by kernel_rfl) ?_
  refine X.isTrue 22 rfl (by kernel_rfl) ?_
  refine X.run 6 [0, 3, 28] [3] (.ops (aA B38 [1, 1, 1, 1, 0]) (oA B38 [1, 1, 1, 1, 0] 18 :: lA B38 [1, 1, 1, 1, 0] 19)) [.seq (cA B38 [1, 1, 1, 1, 1])] ⟨42, [(0, .v (.bool false)), (3, .own 3 0), (28, .v (.bool (((cN (nxW 1000 10000 0 [10000] [1048576]) : Nat) : Int) == 1)))], [(3, ⟨71, [.v (.int .i64 (cM (cM 1000))), .v (.int .i64 (cP (cM 1000) (cP 1000 10000 (cN [10000])) (cN (nxW 1000 10000 0 [10000] [1048576])))), .v (.int .i64 (cS (cS 0))), .v (.slice A8 (cN (nxW 1000 10000 0 [10000] [1048576])) c8), .v (.slice B8 (cN (nxW 1000 10000 0 [10000] [1048576])) d8)]⟩)]⟩ (by kernel_rfl) ?_
  refine X.isTrue 28 rfl (by rw [hN2_]; rfl) ?_
  refine X.run 2 [0, 3, 28, 30] [3] (.ops (aA B38 [1, 1, 1, 1, 0]) (oA B38 [1, 1, 1, 1, 0] 20 :: lA B38 [1, 1, 1, 1, 0] 21)) [.seq (cA B38 [1, 1, 1, 1, 1])] ⟨42, [(0, .v (.bool false)), (3, .own 3 0), (28, .v (.bool true)), (30, .v (.slice A8 (cN (nxW 1000 10000 0 [10000] [1048576])) c8))], [(3, ⟨71, [.v (.int .i64 (cM (cM 1000))), .v (.int .i64 (cP (cM 1000) (cP 1000 10000 (cN [10000])) (cN (nxW 1000 10000 0 [10000] [1048576])))), .v (.int .i64 (cS (cS 0))), .v (.slice A8 (cN (nxW 1000 10000 0 [10000] [1048576])) c8), .v (.slice B8 (cN (nxW 1000 10000 0 [10000] [1048576])) d8)]⟩)]⟩ (by kernel_rfl) ?_
  have b14 : (0 : Int) ≤ 0 := by omega
  have b15 : 0 < ((cN (nxW 1000 10000 0 [10000] [1048576]) : Nat) : Int) := by omega
  refine X.index (t := 22) (e := 2) (sz := 1) (A := A8) (n := cN (nxW 1000 10000 0 [10000] [1048576])) (c := c8) (ki := .i64) (i := 0) (x := .tmp 30) (ix := .const (.int .i64 0)) (by kernel_rfl) (by kernel_rfl) (by kernel_rfl) (by kernel_rfl) (by kernel_rfl) (by kernel_rfl) b14 b15 (fun _ _ => rowAt.so hr9 (by omega)) ?_
  obtain ⟨at16, lo16, hi16⟩ := At.int [] hr9 0 (by omega)
  simp only [IntKind.lo, IntKind.hi] at lo16 hi16
  refine X.run 0 [0, 3, 28, 31] [3] (.ops (aA B38 [1, 1, 1, 1, 0]) (oA B38 [1, 1, 1, 1, 0] 21 :: lA B38 [1, 1, 1, 1, 0] 22)) [.seq (cA B38 [1, 1, 1, 1, 1])] ⟨42, [(0, .v (.bool false)), (3, .own 3 0), (28, .v (.bool true)), (31, .v (elt A8 (0 * 1)))], [(3, ⟨71, [.v (.int .i64 (cM (cM 1000))), .v (.int .i64 (cP (cM 1000) (cP 1000 10000 (cN [10000])) (cN (nxW 1000 10000 0 [10000] [1048576])))), .v (.int .i64 (cS (cS 0))), .v (.slice A8 (cN (nxW 1000 10000 0 [10000] [1048576])) c8), .v (.slice B8 (cN (nxW 1000 10000 0 [10000] [1048576])) d8)]⟩)]⟩ (by kernel_rfl) ?_
  refine X.load (t := 2) (A := A8) (j := 0 * 1) (x := .tmp 31) (z := .int .i64 ((nxW (cM 1000) (cP 1000 10000 (cN [10000])) (cS 0) (nxW 1000 10000 0 [10000] [1048576]) (nxH 1000 10000 0 [10000] [1048576])).getD 0 0)) [.int .i64 ((nxW (cM 1000) (cP 1000 10000 (cN [10000])) (cS 0) (nxW 1000 10000 0 [10000] [1048576]) (nxH 1000 10000 0 [10000] [1048576])).getD 0 0)] (by kernel_rfl) (by kernel_rfl) at16 (by kernel_rfl) (by kernel_rfl) ?_
  refine X.run 3 [0, 3, 35] [3] (.ops (aA B38 [1, 1, 1, 1, 0]) (oA B38 [1, 1, 1, 1, 0] 25 :: lA B38 [1, 1, 1, 1, 0] 26)) [.seq (cA B38 [1, 1, 1, 1, 1])] ⟨42, [(0, .v (.bool false)), (3, .own 3 0), (35, .v (.bool (decide (((nxW (cM 1000) (cP 1000 10000 (cN [10000])) (cS 0) (nxW 1000 10000 0 [10000] [1048576]) (nxH 1000 10000 0 [10000] [1048576])).getD 0 0) < 6000))))], [(3, ⟨71, [.v (.int .i64 (cM (cM 1000))), .v (.int .i64 (cP (cM 1000) (cP 1000 10000 (cN [10000])) (cN (nxW 1000 10000 0 [10000] [1048576])))), .v (.int .i64 (cS (cS 0))), .v (.slice A8 (cN (nxW 1000 10000 0 [10000] [1048576])) c8), .v (.slice B8 (cN (nxW 1000 10000 0 [10000] [1048576])) d8)]⟩)]⟩ (by kernel_rfl) ?_
  refine X.isTrue 35 rfl (by kernel_rfl) ?_
  refine X.run 2 [0, 35, 37] [] (.ops (aA B38 [1, 1, 1, 1, 0]) (oA B38 [1, 1, 1, 1, 0] 27 :: lA B38 [1, 1, 1, 1, 0] 28)) [.seq (cA B38 [1, 1, 1, 1, 1])] ⟨42, [(0, .v (.bool false)), (35, .v (.bool true)), (37, .v (.slice A8 (cN (nxW 1000 10000 0 [10000] [1048576])) c8))], []⟩ (by kernel_rfl) ?_
  have b17 : (0 : Int) ≤ 0 := by omega
  have b18 : 0 < ((cN (nxW 1000 10000 0 [10000] [1048576]) : Nat) : Int) := by omega
  refine X.index (t := 22) (e := 2) (sz := 1) (A := A8) (n := cN (nxW 1000 10000 0 [10000] [1048576])) (c := c8) (ki := .i64) (i := 0) (x := .tmp 37) (ix := .const (.int .i64 0)) (by kernel_rfl) (by kernel_rfl) (by kernel_rfl) (by kernel_rfl) (by kernel_rfl) (by kernel_rfl) b17 b18 (fun _ _ => rowAt.so hr9 (by omega)) ?_
  obtain ⟨at19, lo19, hi19⟩ := At.int [] hr9 0 (by omega)
  simp only [IntKind.lo, IntKind.hi] at lo19 hi19
  refine X.run 0 [0, 35, 38] [] (.ops (aA B38 [1, 1, 1, 1, 0]) (oA B38 [1, 1, 1, 1, 0] 28 :: lA B38 [1, 1, 1, 1, 0] 29)) [.seq (cA B38 [1, 1, 1, 1, 1])] ⟨42, [(0, .v (.bool false)), (35, .v (.bool true)), (38, .v (elt A8 (0 * 1)))], []⟩ (by kernel_rfl) ?_
  refine X.load (t := 2) (A := A8) (j := 0 * 1) (x := .tmp 38) (z := .int .i64 ((nxW (cM 1000) (cP 1000 10000 (cN [10000])) (cS 0) (nxW 1000 10000 0 [10000] [1048576]) (nxH 1000 10000 0 [10000] [1048576])).getD 0 0)) [.int .i64 ((nxW (cM 1000) (cP 1000 10000 (cN [10000])) (cS 0) (nxW 1000 10000 0 [10000] [1048576]) (nxH 1000 10000 0 [10000] [1048576])).getD 0 0)] (by kernel_rfl) (by kernel_rfl) at19 (by kernel_rfl) (by kernel_rfl) ?_
  refine X.run 6 [0] [] (.ex .ret) [] ⟨42, [(0, .v (.bool (decide (((nxW (cM 1000) (cP 1000 10000 (cN [10000])) (cS 0) (nxW 1000 10000 0 [10000] [1048576]) (nxH 1000 10000 0 [10000] [1048576])).getD 0 0) > 5000))))], []⟩ (by kernel_rfl) ?_
  refine doneG (.inl rfl) [.bool (decide (((nxW (cM 1000) (cP 1000 10000 (cN [10000])) (cS 0) (nxW 1000 10000 0 [10000] [1048576]) (nxH 1000 10000 0 [10000] [1048576])).getD 0 0) > 5000))] [] (by kernel_rfl) rfl rfl ((((((((hG2.trans hG4).trans hG5).trans hG6).trans hG7).trans hG8).trans hG9).trans hG10)) ?_
  -- end 1 ()
  exact ⟨congrArg Value.bool (by kernel_rfl), rfl⟩

end Go.Proofs.YthpinlcfcgnilaaX
