/- A part of a law's proof. Conditions: none. -/
import Derived.Test.YtjgpdbkkpomhjaaProg
import Derived.KernelRfl
import Derived.Test.YtjgpdbkkpomhjaaQYG5
import Derived.Test.YtjgpdbkkpomhjaaQYV8
import Derived.Test.YtjgpdbkkpomhjaaQXF
import Derived.Test.YtjgpdbkkpomhjaaQYT
namespace Go.Proofs.YtjgpdbkkpomhjaaX
open Go.RowKit
open Go.Proofs.YtjgpdbkkpomhjaaW.PrintLast
set_option linter.unusedVariables false
set_option linter.unusedSimpArgs false
set_option maxRecDepth 100000
noncomputable def B67 : Code := bodyOf Try.f67
set_option maxHeartbeats 4000000 in
theorem RSegEnc_ok (a : Ad) (h : Hd) (A : Option Addr) (c : Nat) (xs : List Opt) (d : ByteArray) (G : Mem) (ha : a.ok) (hh : h.ok) (hr : rowAt optD G A xs) (hle : xs.length ≤ c) (hmx : c ≤ maxLen) (hlen : xs.length ≤ 12) (hq : ∀ o ∈ xs, o.2.1.length ≤ 12 ∧ o.2.2.size ≤ 60) : CallsG Try.prog 67 [.agg #[.int .u8 a.a0, .int .u8 a.a1, .int .u8 a.a2, .int .u8 a.a3], .agg #[.int .u8 a.b0, .int .u8 a.b1, .int .u8 a.b2, .int .u8 a.b3], .agg #[.int .u16 h.s0, .int .u16 h.s1, .int .u32 h.s2, .int .u32 h.s3, .int .u8 h.s4, .int .u8 h.s5, .int .u8 h.s6, .int .u16 h.s7, .int .u16 h.s8, .int .u16 h.s9, .slice A xs.length c, .string d]] G (fun _ v rows => ∃ A' c', v = .tuple #[.slice A' (encS a h xs d).1.length c', .int .i64 (encS a h xs d).2] ∧ rows = [⟨5, 1, .slice A' (encS a h xs d).1.length c', (encS a h xs d).1.length, (encS a h xs d).1.map (Value.int .u8)⟩]) := by
 simp only [maxLen] at hmx
 have hpl_ := printO_len xs
 have hof_ := offS_range xs
 obtain ⟨hh0, hh1, hh2, hh3, hh4, hh5, hh6, hh7, hh8, hh9⟩ := hh
 have hh : h.ok := ⟨hh0, hh1, hh2, hh3, hh4, hh5, hh6, hh7, hh8, hh9⟩
 refine CallsG.enter Try.func67 rfl rfl ?_
 intro w
 refine Rn 13 (Qo B67 6 2) [Qs B67 7] ⟨68, [(3, .own 3 0), (4, .own 4 0), (5, .own 5 0), (6, VL none 0 0), (7, I6 0), (14, VL A xs.length c)], [(3, ⟨55, [I8 a.a0, I8 a.a1, I8 a.a2, I8 a.a3]⟩), (4, ⟨55, [I8 a.b0, I8 a.b1, I8 a.b2, I8 a.b3]⟩), (5, ⟨82, [I1 h.s0, I1 h.s1, I3 h.s2, I3 h.s3, I8 h.s4, I8 h.s5, I8 h.s6, I1 h.s7, I1 h.s8, I1 h.s9, VL A xs.length c, VT d]⟩)]⟩ ?_
 refine Cg 50 [.slice A xs.length c] 322 (rPrint_ok A c xs _ hr hle hmx hlen hq) ?_
 rintro v1 G1 rows1 hG1 ⟨A1, c1, rfl, rfl⟩
 replace hr := hr.mono hG1.le
 refine Tr [322] ?_
 refine X.capLe (i := 322) rfl rfl ?_
 intro hle2 hmx2
 refine X.freezeHd (i := 322) (n := (printO xs).length) (c := c1) (A := A1) (kd := .u8) (printO xs) rfl rfl (fun x_ hx_ => by have h_ := printO_range _ x_ hx_; simp only [IntKind.lo, IntKind.hi]; omega) (by kernel_rfl) (fun _ h => h) ?_
 intro G2 hG2 hr2
 replace hr := hr.mono hG2.le
 refine Ra 14 (Qc B67 29) 1 [Qs B67 15] [(8, VL A1 ((printO xs).length) c1), (9, I6 (errO xs)), (19, VB ((errO xs) != 0))] ?_
 refine Sn 19 rfl ?_ ?_ <;> intro h3
 ·
  have he_ := h3
  refine X.nilRow 390 5 1 rfl ?_
  refine Rn 10 (.ex .ret) [] ⟨68, [(6, VL none 0 0), (7, I6 (errO xs))], []⟩ ?_
  refine Dg (.inl rfl) [.slice none 0 0, N6 (errO xs)] [390] rfl ((hG1.trans hG2)) ?_
  rw [encS_err he_]
  exact ⟨none, 0, rfl, rfl⟩
 ·
  have he_ := h3
  refine Ra 12 (Qc B67 61) 1 [Qs B67 31] [(24, VB (decide ((d.size : Int) > 65000)))] ?_
  refine Sd 24 rfl ?_ ?_ <;> intro h4
  ·
   have hl_ :  65000 < d.size := by omega
   refine X.nilRow 390 5 1 rfl ?_
   refine Rn 9 (.ex .ret) [] ⟨68, [(6, VL none 0 0), (7, I6 4)], []⟩ ?_
   refine Dg (.inl rfl) [.slice none 0 0, N6 4] [390] rfl ((hG1.trans hG2)) ?_
   rw [encS_long he_ hl_]
   exact ⟨none, 0, rfl, rfl⟩
  ·
   have hl_ : ¬ 65000 < d.size := by omega
   refine Rb 18 (Qo B67 126 5) 1 [Qs B67 127] [(10, .own 10 0), (31, I8 (IntKind.u8.wrap (IntKind.i64.wrap (5 + (IntKind.i64.wrap (Int.tdiv (((printO xs).length : Nat) : Int) 4))))))] [] [(10, ⟨31, [I1 h.s0, I1 h.s1, I3 h.s2, I3 h.s3, I8 h.s4, I8 h.s5, I8 h.s6, I1 h.s7, I1 h.s8, I1 h.s9]⟩)] [] ?_
   refine Kn 31 .u8 (offS xs) rfl (off_u8 (by omega)) ?_
   refine Rb 13 (Qo B67 510 1) 1 [Qs B67 511] [(35, .v (.agg #[N1 h.s0, N1 h.s1, N3 h.s2, N3 h.s3, N8 (offS xs), N8 h.s5, N8 h.s6, N1 h.s7, N1 0, N1 h.s9]))] [] [(10, ⟨31, [I1 h.s0, I1 h.s1, I3 h.s2, I3 h.s3, I8 (offS xs), I8 h.s5, I8 h.s6, I1 h.s7, I1 0, I1 h.s9]⟩)] [] ?_
   refine Cg 33 [.agg #[N1 h.s0, N1 h.s1, N3 h.s2, N3 h.s3, N8 (offS xs), N8 h.s5, N8 h.s6, N1 h.s7, N1 0, N1 h.s9]] 331 (Ref11_ok h.s0 h.s1 h.s2 h.s3 (offS xs) h.s5 h.s6 h.s7 0 h.s9 _) ?_
   rintro v5 G5 rows5 hG5 ⟨he5, hx5⟩
   replace hr := hr.mono hG5.le
   replace hr2 := hr2.mono hG5.le
   by_cases hfc_ : h.s5 ≤ 7 ∧ h.s6 ≤ 63
   ·
    obtain ⟨A5, c5, rfl, rfl⟩ := he5 ⟨by omega, by omega, hfc_.1, hfc_.2⟩
    refine Rc 18 (Qc B67 2046) 1 [Qs B67 2047] [(11, VL A5 20 c5)] [9] ?_
    have hr_d6 := hr
    have hr2_d6 := hr2
    refine Oh 12 B67 2046 7 [⟨some 5, 5, 82, [I1 h.s0, I1 h.s1, I3 h.s2, I3 h.s3, I8 h.s4, I8 h.s5, I8 h.s6, I1 h.s7, I1 h.s8, I1 h.s9, VL A xs.length c, VT d]⟩] [] [] ⟨P1, trivial⟩ Mt (fun ρ0 => ?_)
    refine Td [0, 1, 3, 4] 7 27 3 QOk.ctxG [(42, VL A5 20 c5), (43, VL A1 ((printO xs).length) c1), (46, VT d)] ⟨P1, trivial⟩ ?_
    refine Do 2 7 31 B67 2046 ?_
    refine Aw 331 _ 22 1 (N8 0) (.tmp 42) (.tmp 43) 20 c5 ((printO xs).length) c1 A5 A1 ((printO xs).map (Value.int .u8)) (.inl rfl) (by simp) (at_ints [(331, RR 5 1 A5 20 c5 ((ref11 h.s0 h.s1 h.s2 h.s3 (offS xs) h.s5 h.s6 h.s7 0 h.s9).map (Value.int .u8)))] hr2) (fun _ _ e => rowAt.none hr2 e) ones_ints (by omega) ?_
    intro A7 c7 hc7
    refine Tc [] (show (ref11 h.s0 h.s1 h.s2 h.s3 (offS xs) h.s5 h.s6 h.s7 0 h.s9).map (Value.int .u8) ++ ((printO xs).map (Value.int .u8)) = (ref11 h.s0 h.s1 h.s2 h.s3 (offS xs) h.s5 h.s6 h.s7 0 h.s9 ++ (printO xs)).map (Value.int .u8) by simp) ?_
    refine X.back ⟨⟨P1, trivial⟩, Le.refl _, by kernel_rfl, ?_⟩
    refine Dn ⟨68, [(3, .own 3 0), (4, .own 4 0), (5, .own 5 0), (6, VL none 0 0), (7, I6 0), (8, VL A1 ((printO xs).length) c1), (10, .own 10 0), (11, VL A5 20 c5), (44, VL A7 (20 + (printO xs).length) c7), (46, VT d)], [(3, ⟨55, [I8 a.a0, I8 a.a1, I8 a.a2, I8 a.a3]⟩), (4, ⟨55, [I8 a.b0, I8 a.b1, I8 a.b2, I8 a.b3]⟩), (5, ⟨82, [I1 h.s0, I1 h.s1, I3 h.s2, I3 h.s3, I8 h.s4, I8 h.s5, I8 h.s6, I1 h.s7, I1 h.s8, I1 h.s9, VL A xs.length c, VT d]⟩), (10, ⟨31, [I1 h.s0, I1 h.s1, I3 h.s2, I3 h.s3, I8 (offS xs), I8 h.s5, I8 h.s6, I1 h.s7, I1 0, I1 h.s9]⟩)]⟩ ⟨P1, trivial⟩ ?_
    refine Do 5 7 63 B67 2046 ?_
    refine X.appendStr 331 (RR 5 1 A7 (20 + (printO xs).length) c7 ((ref11 h.s0 h.s1 h.s2 h.s3 (offS xs) h.s5 h.s6 h.s7 0 h.s9 ++ (printO xs)).map (Value.int .u8))) 22 9 (x := .tmp 44) (y := .tmp 46) (n := 20 + (printO xs).length) (c := c7) (A := A7) (b := d) (by kernel_rfl) (by kernel_rfl) (by kernel_rfl) (by kernel_rfl) (by kernel_rfl) (by kernel_rfl) rfl (by kernel_rfl) (.inl rfl) rfl rfl (by omega) ?_
    intro A8 c8 hc8
    refine Tc [] (show (ref11 h.s0 h.s1 h.s2 h.s3 (offS xs) h.s5 h.s6 h.s7 0 h.s9 ++ (printO xs)).map (Value.int .u8) ++ (bytesL d).map (Value.int .u8) = ((ref11 h.s0 h.s1 h.s2 h.s3 (offS xs) h.s5 h.s6 h.s7 0 h.s9 ++ (printO xs)) ++ bytesL d).map (Value.int .u8) by simp) ?_
    refine Tr [331] ?_
    refine X.tellR [331] (R' := [(331, RR 5 1 A8 (20 + (printO xs).length + d.size) c8 ((rawS h xs d 0).map (Value.int .u8)))]) (congrArg (fun ns_ : List Int => (331, (RR 5 1 A8 (20 + (printO xs).length + d.size) c8 (ns_.map (Value.int .u8)) : Row)) :: []) (show (ref11 h.s0 h.s1 h.s2 h.s3 (offS xs) h.s5 h.s6 h.s7 0 h.s9 ++ (printO xs)) ++ bytesL d = rawS h xs d 0 by unfold rawS; rw [(encEq h.s0 h.s1 h.s2 h.s3 (offS xs) h.s5 h.s6 h.s7 0 h.s9 hh0 hh1 hh2 hh3 (by omega) hh5 hh6 hh7 (by omega) hh9 ⟨by omega, by omega, hfc_.1, hfc_.2⟩)])) ?_
    refine Tr [331] ?_
    refine X.capLe (i := 331) rfl rfl ?_
    intro hle9 hmx9
    refine X.freezeHd (i := 331) (n := 20 + (printO xs).length + d.size) (c := c8) (A := A8) (kd := .u8) (rawS h xs d 0) rfl rfl (fun x_ hx_ => by have h_ := rawS_bytes hh xs d (n := 0) (by omega) hfc_.1 hfc_.2 x_ hx_; simp only [IntKind.lo, IntKind.hi]; omega) (by kernel_rfl) (fun _ h => h) ?_
    intro G9 hG9 hr9
    replace hr := hr.mono hG9.le
    replace hr2 := hr2.mono hG9.le
    refine X.back ⟨⟨P1, trivial⟩, hG9.le, rfl, ?_⟩
    refine Ts [6] 7 127 0 1 QOk.ctxG ?_
    refine XD.done (by kernel_rfl) ?_
    refine Rn 7 (Qo B67 4094 4) [Qs B67 4095] ⟨68, [(5, .own 5 0), (6, VL none 0 0), (7, I6 0), (8, VL A1 ((printO xs).length) c1), (10, .own 10 0), (11, VL A8 (20 + (printO xs).length + d.size) c8), (48, .v (.agg #[N8 a.a0, N8 a.a1, N8 a.a2, N8 a.a3])), (49, .v (.agg #[N8 a.b0, N8 a.b1, N8 a.b2, N8 a.b3])), (51, I6 ((20 + (printO xs).length + d.size : Nat) : Int))], [(5, ⟨82, [I1 h.s0, I1 h.s1, I3 h.s2, I3 h.s3, I8 h.s4, I8 h.s5, I8 h.s6, I1 h.s7, I1 h.s8, I1 h.s9, VL A xs.length c, VT d]⟩), (10, ⟨31, [I1 h.s0, I1 h.s1, I3 h.s2, I3 h.s3, I8 (offS xs), I8 h.s5, I8 h.s6, I1 h.s7, I1 0, I1 h.s9]⟩)]⟩ ?_
    refine Cg 47 [.agg #[N8 a.a0, N8 a.a1, N8 a.a2, N8 a.a3], .agg #[N8 a.b0, N8 a.b1, N8 a.b2, N8 a.b3], N8 6, N6 ((20 + (printO xs).length + d.size : Nat) : Int)] 345 (RefPseudo_ok a.a0 a.a1 a.a2 a.a3 a.b0 a.b1 a.b2 a.b3 6 ((20 + (printO xs).length + d.size : Nat) : Int)  (by omega) _) ?_
    rintro v10 G10 rows10 hG10 ⟨A10, rfl, rfl⟩
    replace hr := hr.mono hG10.le
    replace hr2 := hr2.mono hG10.le
    replace hr9 := hr9.mono hG10.le
    refine Ra 1 (Qo B67 4094 6) 0 [] [(52, VL A10 12 12), (53, VL A8 (20 + (printO xs).length + d.size) c8)] ?_
    refine Aw 345 _ 22 1 (N8 0) (.tmp 52) (.tmp 53) 12 12 (20 + (printO xs).length + d.size) c8 A10 A8 ((rawS h xs d 0).map (Value.int .u8)) (.inl rfl) (by rw [List.length_map, (rawS_len _ _ _ _), Nat.mul_one]) (at_ints [(345, RR 5 1 A10 12 12 ((psd a (20 + (printO xs).length + d.size)).map (Value.int .u8)))] hr9) (fun _ _ e => Eq.trans (Eq.symm (rawS_len _ _ _ _)) (rowAt.none hr9 e)) ones_ints (by omega) ?_
    intro A11 c11 hc11
    refine Tc [] (show (psd a (20 + (printO xs).length + d.size)).map (Value.int .u8) ++ ((rawS h xs d 0).map (Value.int .u8)) = (psd a (20 + (printO xs).length + d.size) ++ (rawS h xs d 0)).map (Value.int .u8) by simp) ?_
    refine Ra 0 (Qo B67 4094 7) 0 [] [(54, VL A11 (12 + (20 + (printO xs).length + d.size)) c11)] ?_
    refine Tr [345] ?_
    refine X.capLe (i := 345) rfl rfl ?_
    intro hle12 hmx12
    refine X.freezeHd (i := 345) (n := 12 + (20 + (printO xs).length + d.size)) (c := c11) (A := A11) (kd := .u8) (psd a (20 + (printO xs).length + d.size) ++ (rawS h xs d 0)) rfl rfl ((fun x_ hx_ => by rcases List.mem_append.1 hx_ with h1_ | h1_; have h_ := psd_bytes ha _ x_ h1_; simp only [IntKind.lo, IntKind.hi]; omega; have h_ := rawS_bytes hh xs d (n := 0) (by omega) hfc_.1 hfc_.2 x_ h1_; simp only [IntKind.lo, IntKind.hi]; omega)) (by kernel_rfl) (fun _ h => h) ?_
    intro G12 hG12 hr12
    replace hr := hr.mono hG12.le
    replace hr2 := hr2.mono hG12.le
    replace hr9 := hr9.mono hG12.le
    have hsn_ := SumRef_ok A11 c11 (psd a (20 + (printO xs).length + d.size) ++ (rawS h xs d 0)) G12 hr12 (by simp only [List.length_append, rawS_len, show (psd a (20 + (printO xs).length + d.size)).length = 12 from rfl]; omega) hmx12 (by simp only [List.length_append, rawS_len, show (psd a (20 + (printO xs).length + d.size)).length = 12 from rfl]; omega)
    rw [show (psd a (20 + (printO xs).length + d.size) ++ (rawS h xs d 0)).length = 12 + (20 + (printO xs).length + d.size) from (by rw [List.length_append, rawS_len]; rfl)] at hsn_
    refine Cg 29 [.slice A11 (12 + (20 + (printO xs).length + d.size)) c11] 0 hsn_ ?_
    rintro v13 G13 rows13 hG13 ⟨rfl, rfl⟩
    replace hr := hr.mono hG13.le
    replace hr2 := hr2.mono hG13.le
    replace hr9 := hr9.mono hG13.le
    replace hr12 := hr12.mono hG13.le
    have hsr_ := sumS_range ha hh xs d hfc_.1 hfc_.2
    refine Rb 7 (Qo B67 8190 1) 1 [Qs B67 8191] [(58, .v (.agg #[N1 h.s0, N1 h.s1, N3 h.s2, N3 h.s3, N8 (offS xs), N8 h.s5, N8 h.s6, N1 h.s7, N1 (sumS a h xs d), N1 h.s9]))] [] [] [10] ?_
    refine Cg 33 [.agg #[N1 h.s0, N1 h.s1, N3 h.s2, N3 h.s3, N8 (offS xs), N8 h.s5, N8 h.s6, N1 h.s7, N1 (sumS a h xs d), N1 h.s9]] 331 (Ref11_ok h.s0 h.s1 h.s2 h.s3 (offS xs) h.s5 h.s6 h.s7 (sumS a h xs d) h.s9 _) ?_
    rintro v14 G14 rows14 hG14 ⟨he14, hx14⟩
    replace hr := hr.mono hG14.le
    replace hr2 := hr2.mono hG14.le
    replace hr9 := hr9.mono hG14.le
    replace hr12 := hr12.mono hG14.le
    obtain ⟨A14, c14, rfl, rfl⟩ := he14 ⟨by omega, by omega, hfc_.1, hfc_.2⟩
    refine Ra 7 (Qc B67 16382) 1 [Qs B67 16383] [(11, VL A14 20 c14)] ?_
    have hr_d15 := hr
    have hr2_d15 := hr2
    have hr9_d15 := hr9
    have hr12_d15 := hr12
    refine Oh 15 B67 16382 8 [⟨some 5, 5, 82, [I1 h.s0, I1 h.s1, I3 h.s2, I3 h.s3, I8 h.s4, I8 h.s5, I8 h.s6, I1 h.s7, I1 h.s8, I1 h.s9, VL A xs.length c, VT d]⟩] [] [] ⟨P1, trivial⟩ Mt (fun ρ0 => ?_)
    refine Td [0, 1, 3, 4] 8 27 4 QOk.ctxG [(62, VL A14 20 c14), (63, VL A1 ((printO xs).length) c1), (66, VT d)] ⟨P1, trivial⟩ ?_
    refine Do 2 8 31 B67 16382 ?_
    refine Aw 331 _ 22 1 (N8 0) (.tmp 62) (.tmp 63) 20 c14 ((printO xs).length) c1 A14 A1 ((printO xs).map (Value.int .u8)) (.inl rfl) (by simp) (at_ints [(331, RR 5 1 A14 20 c14 ((ref11 h.s0 h.s1 h.s2 h.s3 (offS xs) h.s5 h.s6 h.s7 (sumS a h xs d) h.s9).map (Value.int .u8)))] hr2) (fun _ _ e => rowAt.none hr2 e) ones_ints (by omega) ?_
    intro A16 c16 hc16
    refine Tc [] (show (ref11 h.s0 h.s1 h.s2 h.s3 (offS xs) h.s5 h.s6 h.s7 (sumS a h xs d) h.s9).map (Value.int .u8) ++ ((printO xs).map (Value.int .u8)) = (ref11 h.s0 h.s1 h.s2 h.s3 (offS xs) h.s5 h.s6 h.s7 (sumS a h xs d) h.s9 ++ (printO xs)).map (Value.int .u8) by simp) ?_
    refine X.back ⟨⟨P1, trivial⟩, Le.refl _, by kernel_rfl, ?_⟩
    refine Dn ⟨68, [(5, .own 5 0), (6, VL none 0 0), (7, I6 0), (64, VL A16 (20 + (printO xs).length) c16), (66, VT d)], [(5, ⟨82, [I1 h.s0, I1 h.s1, I3 h.s2, I3 h.s3, I8 h.s4, I8 h.s5, I8 h.s6, I1 h.s7, I1 h.s8, I1 h.s9, VL A xs.length c, VT d]⟩)]⟩ ⟨P1, trivial⟩ ?_
    refine Do 5 8 63 B67 16382 ?_
    refine X.appendStr 331 (RR 5 1 A16 (20 + (printO xs).length) c16 ((ref11 h.s0 h.s1 h.s2 h.s3 (offS xs) h.s5 h.s6 h.s7 (sumS a h xs d) h.s9 ++ (printO xs)).map (Value.int .u8))) 22 9 (x := .tmp 64) (y := .tmp 66) (n := 20 + (printO xs).length) (c := c16) (A := A16) (b := d) (by kernel_rfl) (by kernel_rfl) (by kernel_rfl) (by kernel_rfl) (by kernel_rfl) (by kernel_rfl) rfl (by kernel_rfl) (.inl rfl) rfl rfl (by omega) ?_
    intro A17 c17 hc17
    refine Tc [] (show (ref11 h.s0 h.s1 h.s2 h.s3 (offS xs) h.s5 h.s6 h.s7 (sumS a h xs d) h.s9 ++ (printO xs)).map (Value.int .u8) ++ (bytesL d).map (Value.int .u8) = ((ref11 h.s0 h.s1 h.s2 h.s3 (offS xs) h.s5 h.s6 h.s7 (sumS a h xs d) h.s9 ++ (printO xs)) ++ bytesL d).map (Value.int .u8) by simp) ?_
    refine Tr [331] ?_
    refine X.tellR [331] (R' := [(331, RR 5 1 A17 (20 + (printO xs).length + d.size) c17 ((rawS h xs d (sumS a h xs d)).map (Value.int .u8)))]) (congrArg (fun ns_ : List Int => (331, (RR 5 1 A17 (20 + (printO xs).length + d.size) c17 (ns_.map (Value.int .u8)) : Row)) :: []) (show (ref11 h.s0 h.s1 h.s2 h.s3 (offS xs) h.s5 h.s6 h.s7 (sumS a h xs d) h.s9 ++ (printO xs)) ++ bytesL d = rawS h xs d (sumS a h xs d) by unfold rawS; rw [(encEq h.s0 h.s1 h.s2 h.s3 (offS xs) h.s5 h.s6 h.s7 (sumS a h xs d) h.s9 hh0 hh1 hh2 hh3 (by omega) hh5 hh6 hh7 (by omega) hh9 ⟨by omega, by omega, hfc_.1, hfc_.2⟩)])) ?_
    refine X.back ⟨⟨P1, trivial⟩, Le.refl _, by kernel_rfl, ?_⟩
    refine Ts [6, 7] 8 255 0 2 QOk.ctxG ?_
    refine XD.done (by kernel_rfl) ?_
    refine Rn 2 (.ex .ret) [] ⟨68, [(6, VL A17 (20 + (printO xs).length + d.size) c17), (7, I6 0)], []⟩ ?_
    refine Dg (.inl rfl) [.slice A17 (20 + (printO xs).length + d.size) c17, N6 0] [331] rfl ((((((((hG1.trans hG2).trans hG5).trans hG9).trans hG10).trans hG12).trans hG13).trans hG14)) ?_
    rw [encS_fine he_ hl_ hfc_]
    simp only [rawS_len]
    exact ⟨_, _, rfl, rfl⟩
   ·
    obtain ⟨rfl, rfl⟩ := hx5 (fun h_ => hfc_ ⟨h_.2.2.1, h_.2.2.2⟩)
    refine X.nilRow 390 5 1 rfl ?_
    refine Rn 24 (.ex .ret) [] ⟨68, [(6, VL none 0 0), (7, I6 2)], []⟩ ?_
    refine Dg (.inl rfl) [.slice none 0 0, N6 2] [390] rfl (((hG1.trans hG2).trans hG5)) ?_
    rw [encS_form he_ hl_ hfc_]
    exact ⟨none, 0, rfl, rfl⟩
end Go.Proofs.YtjgpdbkkpomhjaaX
