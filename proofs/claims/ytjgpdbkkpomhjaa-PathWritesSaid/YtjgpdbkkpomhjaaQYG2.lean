/- A part of a law's proof. Conditions: none. -/
import Derived.Test.YtjgpdbkkpomhjaaProg
import Derived.KernelRfl
import Derived.Test.YtjgpdbkkpomhjaaQYGW
import Derived.Test.YtjgpdbkkpomhjaaQYT
namespace Go.Proofs.YtjgpdbkkpomhjaaX
open Go.RowKit
open Go.Proofs.YtjgpdbkkpomhjaaW.PrintLast
set_option linter.unusedVariables false
set_option linter.unusedSimpArgs false
set_option maxRecDepth 100000
noncomputable def B66 : Code := bodyOf Try.f66
set_option maxHeartbeats 4000000 in
theorem SegEnc_ok (a : Ad) (h : Hd) (A : Option Addr) (c : Nat) (xs : List Opt) (d : ByteArray) (G : Mem) (ha : a.ok) (hh : h.ok) (hr : rowAt optD G A xs) (hle : xs.length ≤ c) (hmx : c ≤ maxLen) : CallsG Try.prog 66 [.agg #[.int .u8 a.a0, .int .u8 a.a1, .int .u8 a.a2, .int .u8 a.a3], .agg #[.int .u8 a.b0, .int .u8 a.b1, .int .u8 a.b2, .int .u8 a.b3], .agg #[.int .u16 h.s0, .int .u16 h.s1, .int .u32 h.s2, .int .u32 h.s3, .int .u8 h.s4, .int .u8 h.s5, .int .u8 h.s6, .int .u16 h.s7, .int .u16 h.s8, .int .u16 h.s9, .slice A xs.length c, .string d]] G (fun _ v rows => ∃ A' c', v = .tuple #[.slice A' (encS a h xs d).1.length c', .int .i64 (encS a h xs d).2] ∧ rows = [⟨5, 1, .slice A' (encS a h xs d).1.length c', (encS a h xs d).1.length, (encS a h xs d).1.map (Value.int .u8)⟩]) := by
 simp only [maxLen] at hmx
 have hpl_ := printO_len xs
 have hof_ := offS_range xs
 obtain ⟨hh0, hh1, hh2, hh3, hh4, hh5, hh6, hh7, hh8, hh9⟩ := hh
 have hh : h.ok := ⟨hh0, hh1, hh2, hh3, hh4, hh5, hh6, hh7, hh8, hh9⟩
 refine CallsG.enter Try.func66 rfl rfl ?_
 intro w
 refine Rn 13 (Qo B66 6 2) [Qs B66 7] ⟨70, [(3, .own 3 0), (4, .own 4 0), (5, .own 5 0), (6, VL none 0 0), (7, I6 0), (15, VL A xs.length c)], [(3, ⟨55, [I8 a.a0, I8 a.a1, I8 a.a2, I8 a.a3]⟩), (4, ⟨55, [I8 a.b0, I8 a.b1, I8 a.b2, I8 a.b3]⟩), (5, ⟨82, [I1 h.s0, I1 h.s1, I3 h.s2, I3 h.s3, I8 h.s4, I8 h.s5, I8 h.s6, I1 h.s7, I1 h.s8, I1 h.s9, VL A xs.length c, VT d]⟩)]⟩ ?_
 refine Cg 49 [.slice A xs.length c] 321 (Print_ok A c xs _ hr hle hmx) ?_
 rintro v1 G1 rows1 hG1 ⟨A1, c1, rfl, rfl⟩
 replace hr := hr.mono hG1.le
 refine Tr [321] ?_
 refine X.capLe (i := 321) rfl rfl ?_
 intro hle2 hmx2
 refine X.freezeHd (i := 321) (n := (printO xs).length) (c := c1) (A := A1) (kd := .u8) (printO xs) rfl rfl (fun x_ hx_ => by have h_ := printO_range _ x_ hx_; simp only [IntKind.lo, IntKind.hi]; omega) (by kernel_rfl) (fun _ h => h) ?_
 intro G2 hG2 hr2
 replace hr := hr.mono hG2.le
 refine Ra 16 (Qc B66 57) 1 [.blk 0, Qs B66 15] [(8, VL A1 ((printO xs).length) c1), (9, I6 (errO xs)), (19, VB ((errO xs) != 0))] ?_
 refine Sn 19 rfl ?_ ?_ <;> intro h3
 ·
  have he_ := h3
  refine X.nilRow 390 5 1 rfl ?_
  refine Rn 11 (.ex .ret) [] ⟨70, [(6, VL none 0 0), (7, I6 (errO xs))], []⟩ ?_
  refine Dg (.inl rfl) [.slice none 0 0, N6 (errO xs)] [390] rfl ((hG1.trans hG2)) ?_
  rw [encS_err he_]
  exact ⟨none, 0, rfl, rfl⟩
 ·
  have he_ := h3
  refine Rc 10 (Qc B66 231) 0 [] [(23, VB (decide ((d.size : Int) > 65000)))] [19] ?_
  refine Sd 23 rfl ?_ ?_ <;> intro h4
  ·
   have hl_ :  65000 < d.size := by omega
   refine X.nilRow 390 5 1 rfl ?_
   refine Rn 10 (.ex .ret) [] ⟨70, [(6, VL none 0 0), (7, I6 4)], []⟩ ?_
   refine Dg (.inl rfl) [.slice none 0 0, N6 4] [390] rfl ((hG1.trans hG2)) ?_
   rw [encS_long he_ hl_]
   exact ⟨none, 0, rfl, rfl⟩
  ·
   have hl_ : ¬ 65000 < d.size := by omega
   refine Rb 19 (Qo B66 62 5) 2 [Qs B66 63] [(10, .own 10 0), (34, I8 (IntKind.u8.wrap (IntKind.i64.wrap (5 + (IntKind.i64.wrap (Int.tdiv (((printO xs).length : Nat) : Int) 4))))))] [23] [(10, ⟨31, [I1 h.s0, I1 h.s1, I3 h.s2, I3 h.s3, I8 h.s4, I8 h.s5, I8 h.s6, I1 h.s7, I1 h.s8, I1 h.s9]⟩)] [] ?_
   refine Kn 34 .u8 (offS xs) rfl (off_u8 (by omega)) ?_
   refine Rb 9 (Qo B66 126 1) 1 [Qs B66 127] [(38, .v (.agg #[N1 h.s0, N1 h.s1, N3 h.s2, N3 h.s3, N8 (offS xs), N8 h.s5, N8 h.s6, N1 h.s7, N1 0, N1 h.s9]))] [] [] [10] ?_
   refine Cg 32 [.agg #[N1 h.s0, N1 h.s1, N3 h.s2, N3 h.s3, N8 (offS xs), N8 h.s5, N8 h.s6, N1 h.s7, N1 0, N1 h.s9]] 330 (Enc11_ok h.s0 h.s1 h.s2 h.s3 (offS xs) h.s5 h.s6 h.s7 0 h.s9 _) ?_
   rintro v5 G5 rows5 hG5 ⟨he5, hx5⟩
   replace hr := hr.mono hG5.le
   replace hr2 := hr2.mono hG5.le
   by_cases hfc_ : h.s5 ≤ 7 ∧ h.s6 ≤ 63
   ·
    obtain ⟨A5, c5, rfl, hc5, rfl⟩ := he5 ⟨by omega, by omega, hfc_.1, hfc_.2⟩
    refine Rb 23 (Qo B66 510 4) 1 [Qs B66 511] [(11, VL A5 20 c5), (45, VL A5 20 c5), (46, VL A1 ((printO xs).length) c1), (48, VT d)] [8, 9] [] [5] ?_
    refine X.ofStr (src := 9) (dst := 22) (e := 5) (b := d) (x := .tmp 48) (by kernel_rfl) (by kernel_rfl) (by kernel_rfl) (by kernel_rfl) (by kernel_rfl) (by simp only [maxLen]; omega) (by kernel_rfl) ?_
    intro A6 c6 G6 hG6 hle6 hmx6 hr6 hs6
    replace hr := hr.mono hG6.le
    replace hr2 := hr2.mono hG6.le
    refine Ra 0 (Qo B66 510 5) 0 [] [(49, VL A6 d.size c6)] ?_
    refine Tr [330] ?_
    refine X.capLe (i := 330) rfl rfl ?_
    intro hle7 hmx7
    refine X.freezeHd (i := 330) (n := 20) (c := c5) (A := A5) (kd := .u8) (enc11 h.s0 h.s1 h.s2 h.s3 (offS xs) h.s5 h.s6 h.s7 0 h.s9) rfl rfl ((fun x_ hx_ => by have h_ := rawS_bytes hh xs d (n := 0) (by omega) hfc_.1 hfc_.2 x_ (List.mem_append.2 (.inl (List.mem_append.2 (.inl hx_)))); simp only [IntKind.lo, IntKind.hi]; omega)) (by kernel_rfl) (fun _ h => h) ?_
    intro G7 hG7 hr7
    replace hr := hr.mono hG7.le
    replace hr2 := hr2.mono hG7.le
    replace hr6 := hr6.mono hG7.le
    refine Lt 50 22 1 3 [.slice A5 20 c5, .slice A1 ((printO xs).length) c1, .slice A6 d.size c6] ?_
    intro A8
    refine Ra 0 (Qo B66 510 6) 0 [] [(50, VL A8 3 3)] ?_
    refine Tr [50] ?_
    refine X.freezeT (d := D.slice (D.int .u8)) (i := 50) (q := (RR 22 1 A8 3 3 [.slice A5 20 c5, .slice A1 ((printO xs).length) c1, .slice A6 d.size c6])) (n := 3) (c := 3) (A := A8) [enc11 h.s0 h.s1 h.s2 h.s3 (offS xs) h.s5 h.s6 h.s7 0 h.s9, printO xs, bytesL d] rfl (by decide) (fun G_ hl_ => ⟨_, _, rfl, rep_sliceN rfl hle7 hmx7 (hr7.mono hl_), ⟨_, _, rfl, rep_sliceN rfl hle2 hmx2 (hr2.mono hl_), ⟨_, _, rfl, rep_sliceN (bytesL_length _) hle6 hmx6 (hr6.mono hl_), rfl⟩⟩⟩) (by kernel_rfl) (fun _ h => h) ?_
    intro G9 hG9 hr9
    replace hr := hr.mono hG9.le
    replace hr2 := hr2.mono hG9.le
    replace hr6 := hr6.mono hG9.le
    replace hr7 := hr7.mono hG9.le
    have hfl10 : flen [enc11 h.s0 h.s1 h.s2 h.s3 (offS xs) h.s5 h.s6 h.s7 0 h.s9, printO xs, bytesL d] = 20 + (printO xs).length + d.size := by
     simp only [flen, List.flatten_cons, List.flatten_nil, List.append_nil, List.length_append, bytesL_length]
     show 20 + _ = _
     omega
    refine Cg 105 [.slice A8 3 3] 350 (Concat_ok A8 3 [enc11 h.s0 h.s1 h.s2 h.s3 (offS xs) h.s5 h.s6 h.s7 0 h.s9, printO xs, bytesL d] _ hr9 (by simp) (by omega)) ?_
    rintro v10 G10 rows10 hG10 ⟨A10, c10, rfl, rfl⟩
    replace hr := hr.mono hG10.le
    replace hr2 := hr2.mono hG10.le
    replace hr6 := hr6.mono hG10.le
    replace hr7 := hr7.mono hG10.le
    have hcat10 : ([enc11 h.s0 h.s1 h.s2 h.s3 (offS xs) h.s5 h.s6 h.s7 0 h.s9, printO xs, bytesL d]).flatten = rawS h xs d 0 := by simp only [List.flatten_cons, List.flatten_nil, List.append_nil, rawS, List.append_assoc]
    have hcl10 : ([enc11 h.s0 h.s1 h.s2 h.s3 (offS xs) h.s5 h.s6 h.s7 0 h.s9, printO xs, bytesL d]).flatten.length = 20 + (printO xs).length + d.size := hfl10
    rw [hcl10, hcat10]
    refine Rb 9 (Qo B66 1022 4) 1 [Qs B66 1023] [(11, VL A10 (20 + (printO xs).length + d.size) c10), (52, .v (.agg #[N8 a.a0, N8 a.a1, N8 a.a2, N8 a.a3])), (53, .v (.agg #[N8 a.b0, N8 a.b1, N8 a.b2, N8 a.b3])), (55, I6 ((20 + (printO xs).length + d.size : Nat) : Int))] [] [] [3, 4] ?_
    refine Cg 46 [.agg #[N8 a.a0, N8 a.a1, N8 a.a2, N8 a.a3], .agg #[N8 a.b0, N8 a.b1, N8 a.b2, N8 a.b3], N8 6, N6 ((20 + (printO xs).length + d.size : Nat) : Int)] 340 (Pseudo_ok a.a0 a.a1 a.a2 a.a3 a.b0 a.b1 a.b2 a.b3 6 ((20 + (printO xs).length + d.size : Nat) : Int) (by obtain ⟨q0_, q1_, q2_, q3_, q4_, q5_, q6_, q7_⟩ := ha; exact ⟨q0_, q1_, q2_, q3_, q4_, q5_, q6_, q7_⟩) (by decide) (by omega) _) ?_
    rintro v11 G11 rows11 hG11 ⟨A11, c11, rfl, hc11, rfl⟩
    replace hr := hr.mono hG11.le
    replace hr2 := hr2.mono hG11.le
    replace hr6 := hr6.mono hG11.le
    replace hr7 := hr7.mono hG11.le
    refine Tr [340, 350] ?_
    refine X.capLe (i := 340) rfl rfl ?_
    intro hle12 hmx12
    refine X.freezeHd (i := 340) (n := 12) (c := c11) (A := A11) (kd := .u8) (psd a (20 + (printO xs).length + d.size)) rfl rfl (fun x_ hx_ => by have h_ := psd_bytes ha _ x_ hx_; simp only [IntKind.lo, IntKind.hi]; omega) (by kernel_rfl) (fun _ h => h) ?_
    intro G12 hG12 hr12
    replace hr := hr.mono hG12.le
    replace hr2 := hr2.mono hG12.le
    replace hr6 := hr6.mono hG12.le
    replace hr7 := hr7.mono hG12.le
    refine Ra 1 (Qo B66 1022 6) 0 [] [(56, VL A11 12 c11), (57, VL A10 (20 + (printO xs).length + d.size) c10)] ?_
    refine Lt 58 22 1 2 [.slice A11 12 c11, .slice A10 (20 + (printO xs).length + d.size) c10] ?_
    intro A13
    refine Ra 0 (Qo B66 1022 7) 0 [] [(58, VL A13 2 2)] ?_
    refine X.capLe (i := 350) rfl rfl ?_
    intro hle14 hmx14
    refine X.callV (f := 28) (l := [VL A13 2 2]) (Q := fun v_ => v_ = N1 (cks ([psd a (20 + (printO xs).length + d.size), rawS h xs d 0]).flatten)) [.slice A13 2 2] (by kernel_rfl) (by kernel_rfl) (by kernel_rfl) (fun G1_ hl_ hr_ => (Sum_ok _ _ [psd a (20 + (printO xs).length + d.size), rawS h xs d 0] G1_ (rowLit (hr_ 58 _ rfl) (⟨_, _, rfl, rep_sliceN rfl hle12 hmx12 (hr12.mono hl_), ⟨_, _, rfl, rep_sliceN (rawS_len _ _ _ _) hle14 hmx14 (rowLit (hr_ 350 _ rfl) (reps_ints (fun x_ hx_ => by have h_ := rawS_bytes hh xs d (n := 0) (by omega) hfc_.1 hfc_.2 x_ hx_; simp only [IntKind.lo, IntKind.hi]; omega)) (by decide)), rfl⟩⟩) (by decide)) (by simp) (by rw [List.flatten_cons, List.flatten_cons, List.flatten_nil, List.append_nil]; have h_ := wsum_le (l := psd a (20 + (printO xs).length + d.size) ++ rawS h xs d 0) (fun x_ hx_ => by rcases List.mem_append.1 hx_ with h1_ | h1_; exact psd_bytes ha _ x_ h1_; exact rawS_bytes hh xs d (by omega) hfc_.1 hfc_.2 x_ h1_) 70000 (by rw [List.length_append, rawS_len]; show 12 + _ ≤ _; omega); omega)).mono (fun _ _ _ _ h_ => h_.1)) ?_
    rintro _ rfl
    refine X.known 59 (y := I1 (sumS a h xs d)) rfl (by unfold sumS; simp only [List.flatten_cons, List.flatten_nil, List.append_nil]) ?_
    have hsr_ := sumS_range ha hh xs d hfc_.1 hfc_.2
    have hrl_ := rawS_len h xs d 0
    refine Ra 12 (Qo B66 2046 7) 1 [Qs B66 2047] [(60, VL A10 (20 + (printO xs).length + d.size) c10), (61, VL A10 (20 + (printO xs).length + d.size) c10), (64, I8 (IntKind.u8.wrap (bshr .u16 (sumS a h xs d) 8))), (66, I8 (IntKind.u8.wrap (sumS a h xs d)))] ?_
    refine Ix 22 5 1 A10 (20 + (printO xs).length + d.size) c10 .i64 16 (.tmp 60) (.const (N6 16)) (by omega) (by omega) (rowSome (i := 350) (q := (RR 5 1 A10 (20 + (printO xs).length + d.size) c10 ((rawS h xs d 0).map (Value.int .u8)))) rfl rfl (by simp only [List.length_map, List.length_set, (rawS_len _ _ _ _)]; omega)) ?_
    refine Ra 0 (Qo B66 2046 8) 0 [] [(67, .v (elt A10 (16 * 1)))] ?_
    refine X.storeElem (i := 350) (t := 5) (j := 16 * 1) (n := 20 + (printO xs).length + d.size) (c := c10) (q := (RR 5 1 A10 (20 + (printO xs).length + d.size) c10 ((rawS h xs d 0).map (Value.int .u8)))) (A := A10) (x := .tmp 67) (y := .tmp 64) (z := N8 (IntKind.u8.wrap (bshr .u16 (sumS a h xs d) 8))) (by kernel_rfl) (by kernel_rfl) (by kernel_rfl) rfl rfl (by kernel_rfl) (by show _ + 1 ≤ _; simp; omega) (by kernel_rfl) (Nat.succ_pos _) (by kernel_rfl) ?_
    refine Tc [58] (splice_ints1 (kd := .u8) (l := (rawS h xs d 0)) (j := 16) (x := (IntKind.u8.wrap (bshr .u16 (sumS a h xs d) 8))) (by (try simp only [List.length_set]); omega)) ?_
    refine Rn 0 (Qo B66 2046 9) [Qs B66 2047] ⟨70, [(6, VL none 0 0), (7, I6 0), (11, VL A10 (20 + (printO xs).length + d.size) c10), (61, VL A10 (20 + (printO xs).length + d.size) c10), (66, I8 (IntKind.u8.wrap (sumS a h xs d)))], []⟩ ?_
    refine Ix 22 5 1 A10 (20 + (printO xs).length + d.size) c10 .i64 17 (.tmp 61) (.const (N6 17)) (by omega) (by omega) (rowSome (i := 350) (q := (RR 5 1 A10 (20 + (printO xs).length + d.size) c10 (((rawS h xs d 0).set 16 (IntKind.u8.wrap (bshr .u16 (sumS a h xs d) 8))).map (Value.int .u8)))) rfl rfl (by simp only [List.length_map, List.length_set, (rawS_len _ _ _ _)]; omega)) ?_
    refine Ra 0 (Qo B66 2046 10) 0 [] [(68, .v (elt A10 (17 * 1)))] ?_
    refine X.storeElem (i := 350) (t := 5) (j := 17 * 1) (n := 20 + (printO xs).length + d.size) (c := c10) (q := (RR 5 1 A10 (20 + (printO xs).length + d.size) c10 (((rawS h xs d 0).set 16 (IntKind.u8.wrap (bshr .u16 (sumS a h xs d) 8))).map (Value.int .u8)))) (A := A10) (x := .tmp 68) (y := .tmp 66) (z := N8 (IntKind.u8.wrap (sumS a h xs d))) (by kernel_rfl) (by kernel_rfl) (by kernel_rfl) rfl rfl (by kernel_rfl) (by show _ + 1 ≤ _; simp; omega) (by kernel_rfl) (Nat.succ_pos _) (by kernel_rfl) ?_
    refine Tc [58] (splice_ints1 (kd := .u8) (l := ((rawS h xs d 0).set 16 (IntKind.u8.wrap (bshr .u16 (sumS a h xs d) 8)))) (j := 17) (x := (IntKind.u8.wrap (sumS a h xs d))) (by (try simp only [List.length_set]); omega)) ?_
    refine Rn 10 (.ex .ret) [] ⟨70, [(6, VL A10 (20 + (printO xs).length + d.size) c10), (7, I6 0)], []⟩ ?_
    refine Dg (.inl rfl) [.slice A10 (20 + (printO xs).length + d.size) c10, N6 0] [350] rfl (((((((((hG1.trans hG2).trans hG5).trans hG6).trans hG7).trans hG9).trans hG10).trans hG11).trans hG12)) ?_
    rw [encS_fine he_ hl_ hfc_]
    simp only [rawS_len, rawS_set h xs d hsr_]
    exact ⟨_, _, rfl, rfl⟩
   ·
    obtain ⟨rfl, rfl⟩ := hx5 (fun h_ => hfc_ ⟨h_.2.2.1, h_.2.2.2⟩)
    refine X.nilRow 390 5 1 rfl ?_
    refine Rn 24 (.ex .ret) [] ⟨70, [(6, VL none 0 0), (7, I6 2)], []⟩ ?_
    refine Dg (.inl rfl) [.slice none 0 0, N6 2] [390] rfl (((hG1.trans hG2).trans hG5)) ?_
    rw [encS_form he_ hl_ hfc_]
    exact ⟨none, 0, rfl, rfl⟩
end Go.Proofs.YtjgpdbkkpomhjaaX
