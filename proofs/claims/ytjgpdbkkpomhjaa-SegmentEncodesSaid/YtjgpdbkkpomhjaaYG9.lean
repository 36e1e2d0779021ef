/- leatref13.Encode, leatlaw13.SegmentEncodes. Walked; printed by a small program of this session. Conditions: none. -/
import Derived.Test.YtjgpdbkkpomhjaaProg
import Derived.KernelRfl
import Derived.Test.YtjgpdbkkpomhjaaYG5
import Derived.Test.YtjgpdbkkpomhjaaYE1
import Derived.Test.YtjgpdbkkpomhjaaXF
namespace Go.Proofs.YtjgpdbkkpomhjaaX
open Go.RowKit
open Go.Proofs.YtjgpdbkkpomhjaaW.PrintLast
set_option linter.unusedVariables false
set_option linter.unusedSimpArgs false
set_option maxRecDepth 100000
/-- leat/leatref13.Encode -/
noncomputable def B67 : Code := bodyOf Try.f67
set_option maxHeartbeats 4000000 in
theorem RSegEnc_ok (a : Ad) (h : Hd) (A : Option Addr) (c : Nat) (xs : List Opt) (d : ByteArray) (G : Mem) (ha : a.ok) (hh : h.ok) (hr : rowAt optD G A xs) (hle : xs.length ≤ c) (hmx : c ≤ maxLen) (hlen : xs.length ≤ 12) (hq : ∀ o ∈ xs, o.2.1.length ≤ 12 ∧ o.2.2.size ≤ 60) : CallsG Try.prog 67 [.agg #[.int .u8 a.a0, .int .u8 a.a1, .int .u8 a.a2, .int .u8 a.a3], .agg #[.int .u8 a.b0, .int .u8 a.b1, .int .u8 a.b2, .int .u8 a.b3], .agg #[.int .u16 h.s0, .int .u16 h.s1, .int .u32 h.s2, .int .u32 h.s3, .int .u8 h.s4, .int .u8 h.s5, .int .u8 h.s6, .int .u16 h.s7, .int .u16 h.s8, .int .u16 h.s9, .slice A xs.length c, .string d]] G (fun _ v rows => ∃ A' c', v = .tuple #[.slice A' (encS a h xs d).1.length c', .int .i64 (encS a h xs d).2] ∧ rows = [⟨5, 1, .slice A' (encS a h xs d).1.length c', (encS a h xs d).1.length, (encS a h xs d).1.map (Value.int .u8)⟩]) := by
 simp only [maxLen] at hmx
 have hpl_ := printO_len xs
 have hof_ := offS_range xs
 obtain ⟨hh0, hh1, hh2, hh3, hh4, hh5, hh6, hh7, hh8, hh9⟩ := hh
 have hh : h.ok := ⟨hh0, hh1, hh2, hh3, hh4, hh5, hh6, hh7, hh8, hh9⟩
 refine CallsG.enter Try.func67 rfl rfl ?_
 intro w
 refine Rn 13 (Qo B67 6 2) [Qs B67 7] ⟨68, [(3, .own 3 0), (4, .own 4 0), (5, .own 5 0), (6, VL none 0 0), (7, I6 0), (14, VL A xs.length c)], [(3, ⟨55, [I8 a.a0, I8 a.a1, I8 a.a2, I8 a.a3]⟩), (4, ⟨55, [I8 a.b0, I8 a.b1, I8 a.b2, I8 a.b3]⟩), (5, ⟨82, [I1 h.s0, I1 h.s1, I3 h.s2, I3 h.s3, I8 h.s4, I8 h.s5, I8 h.s6, I1 h.s7, I1 h.s8, I1 h.s9, VL A xs.length c, VT d]⟩)]⟩ ?_
 refine Cg 50 [.slice A xs.length c] 322 (rPrint_ok A c xs _ hr hle hmx hlen hq) ?_
 rintro v1 G1 rows1 hG1 ⟨A1, c1, rfl, rfl⟩
 replace hr := hr.mono hG1.le
 refine X.asR (R' := [(322, RR 5 1 A1 ((printO xs).length) c1 ((printO xs).map (Value.int .u8)))]) rfl ?_
 refine X.tellR [322] (R' := [(322, RR 5 1 A1 ((printO xs).length) c1 ((printO xs).map (Value.int .u8)))]) rfl ?_
 refine X.capLe (i := 322) (q := (RR 5 1 A1 ((printO xs).length) c1 ((printO xs).map (Value.int .u8)))) (n := (printO xs).length) (c := c1) (A := A1) rfl rfl ?_
 intro hle2 hmx2
 refine X.freezeHd (i := 322) (n := (printO xs).length) (c := c1) (A := A1) (kd := .u8) (printO xs) rfl rfl (fun x_ hx_ => by have h_ := printO_range _ x_ hx_; simp only [IntKind.lo, IntKind.hi]; omega) (by kernel_rfl) (fun _ h => h) ?_
 intro G2 hG2 hr2
 replace hr := hr.mono hG2.le
 refine Rn 14 (Qc B67 29) [Qs B67 15] ⟨68, [(3, .own 3 0), (4, .own 4 0), (5, .own 5 0), (6, VL none 0 0), (7, I6 0), (8, VL A1 ((printO xs).length) c1), (9, I6 (errO xs)), (19, VB ((errO xs) != 0))], [(3, ⟨55, [I8 a.a0, I8 a.a1, I8 a.a2, I8 a.a3]⟩), (4, ⟨55, [I8 a.b0, I8 a.b1, I8 a.b2, I8 a.b3]⟩), (5, ⟨82, [I1 h.s0, I1 h.s1, I3 h.s2, I3 h.s3, I8 h.s4, I8 h.s5, I8 h.s6, I1 h.s7, I1 h.s8, I1 h.s9, VL A xs.length c, VT d]⟩)]⟩ ?_
 refine X.split 19 rfl (fun h3 => ?_) (fun h3 => ?_)
 ·
  replace h3 : (errO xs) ≠ 0 := by simpa using h3
  have he_ := h3
  refine X.nilRow 390 5 1 rfl ?_
  refine Rn 10 (.ex .ret) [] ⟨68, [(6, VL none 0 0), (7, I6 (errO xs))], []⟩ ?_
  refine Dg (.inl rfl) [.slice none 0 0, N6 (errO xs)] [390] rfl ((hG1.trans hG2)) ?_
  rw [encS_err he_]
  exact ⟨none, 0, rfl, rfl⟩
 ·
  replace h3 : (errO xs) = 0 := by simpa using h3
  have he_ := h3
  refine Rn 12 (Qc B67 61) [Qs B67 31] ⟨68, [(3, .own 3 0), (4, .own 4 0), (5, .own 5 0), (6, VL none 0 0), (7, I6 0), (8, VL A1 ((printO xs).length) c1), (9, I6 (errO xs)), (24, VB (decide ((d.size : Int) > 65000)))], [(3, ⟨55, [I8 a.a0, I8 a.a1, I8 a.a2, I8 a.a3]⟩), (4, ⟨55, [I8 a.b0, I8 a.b1, I8 a.b2, I8 a.b3]⟩), (5, ⟨82, [I1 h.s0, I1 h.s1, I3 h.s2, I3 h.s3, I8 h.s4, I8 h.s5, I8 h.s6, I1 h.s7, I1 h.s8, I1 h.s9, VL A xs.length c, VT d]⟩)]⟩ ?_
  refine X.split 24 rfl (fun h4 => ?_) (fun h4 => ?_)
  ·
   replace h4 : (d.size : Int) > 65000 := of_decide_eq_true h4
   have hl_ :  65000 < d.size := by omega
   refine X.nilRow 390 5 1 rfl ?_
   refine Rn 9 (.ex .ret) [] ⟨68, [(6, VL none 0 0), (7, I6 4)], []⟩ ?_
   refine Dg (.inl rfl) [.slice none 0 0, N6 4] [390] rfl ((hG1.trans hG2)) ?_
   rw [encS_long he_ hl_]
   exact ⟨none, 0, rfl, rfl⟩
  ·
   replace h4 : ¬ ((d.size : Int) > 65000) := of_decide_eq_false h4
   have hl_ : ¬ 65000 < d.size := by omega
   refine Rn 18 (Qo B67 126 5) [Qs B67 127] ⟨68, [(3, .own 3 0), (4, .own 4 0), (5, .own 5 0), (6, VL none 0 0), (7, I6 0), (8, VL A1 ((printO xs).length) c1), (9, I6 (errO xs)), (10, .own 10 0), (31, I8 (IntKind.u8.wrap (IntKind.i64.wrap (5 + (IntKind.i64.wrap (Int.tdiv (((printO xs).length : Nat) : Int) 4))))))], [(3, ⟨55, [I8 a.a0, I8 a.a1, I8 a.a2, I8 a.a3]⟩), (4, ⟨55, [I8 a.b0, I8 a.b1, I8 a.b2, I8 a.b3]⟩), (5, ⟨82, [I1 h.s0, I1 h.s1, I3 h.s2, I3 h.s3, I8 h.s4, I8 h.s5, I8 h.s6, I1 h.s7, I1 h.s8, I1 h.s9, VL A xs.length c, VT d]⟩), (10, ⟨31, [I1 h.s0, I1 h.s1, I3 h.s2, I3 h.s3, I8 h.s4, I8 h.s5, I8 h.s6, I1 h.s7, I1 h.s8, I1 h.s9]⟩)]⟩ ?_
   refine Kn 31 .u8 (offS xs) rfl (off_u8 (by omega)) ?_
   refine Rn 13 (Qo B67 510 1) [Qs B67 511] ⟨68, [(3, .own 3 0), (4, .own 4 0), (5, .own 5 0), (6, VL none 0 0), (7, I6 0), (8, VL A1 ((printO xs).length) c1), (9, I6 (errO xs)), (10, .own 10 0), (35, .v (.agg #[N1 h.s0, N1 h.s1, N3 h.s2, N3 h.s3, N8 (offS xs), N8 h.s5, N8 h.s6, N1 h.s7, N1 0, N1 h.s9]))], [(3, ⟨55, [I8 a.a0, I8 a.a1, I8 a.a2, I8 a.a3]⟩), (4, ⟨55, [I8 a.b0, I8 a.b1, I8 a.b2, I8 a.b3]⟩), (5, ⟨82, [I1 h.s0, I1 h.s1, I3 h.s2, I3 h.s3, I8 h.s4, I8 h.s5, I8 h.s6, I1 h.s7, I1 h.s8, I1 h.s9, VL A xs.length c, VT d]⟩), (10, ⟨31, [I1 h.s0, I1 h.s1, I3 h.s2, I3 h.s3, I8 (offS xs), I8 h.s5, I8 h.s6, I1 h.s7, I1 0, I1 h.s9]⟩)]⟩ ?_
   refine Cg 33 [.agg #[N1 h.s0, N1 h.s1, N3 h.s2, N3 h.s3, N8 (offS xs), N8 h.s5, N8 h.s6, N1 h.s7, N1 0, N1 h.s9]] 331 (Ref11_ok h.s0 h.s1 h.s2 h.s3 (offS xs) h.s5 h.s6 h.s7 0 h.s9 _) ?_
   rintro v5 G5 rows5 hG5 ⟨he5, hx5⟩
   replace hr := hr.mono hG5.le
   replace hr2 := hr2.mono hG5.le
   by_cases hfc_ : h.s5 ≤ 7 ∧ h.s6 ≤ 63
   ·
    obtain ⟨A5, c5, rfl, rfl⟩ := he5 ⟨by omega, by omega, hfc_.1, hfc_.2⟩
    refine X.asR (R' := [(331, RR 5 1 A5 20 c5 ((ref11 h.s0 h.s1 h.s2 h.s3 (offS xs) h.s5 h.s6 h.s7 0 h.s9).map (Value.int .u8)))]) rfl ?_
    refine Rn 18 (Qc B67 2046) [Qs B67 2047] ⟨68, [(3, .own 3 0), (4, .own 4 0), (5, .own 5 0), (6, VL none 0 0), (7, I6 0), (8, VL A1 ((printO xs).length) c1), (10, .own 10 0), (11, VL A5 20 c5)], [(3, ⟨55, [I8 a.a0, I8 a.a1, I8 a.a2, I8 a.a3]⟩), (4, ⟨55, [I8 a.b0, I8 a.b1, I8 a.b2, I8 a.b3]⟩), (5, ⟨82, [I1 h.s0, I1 h.s1, I3 h.s2, I3 h.s3, I8 h.s4, I8 h.s5, I8 h.s6, I1 h.s7, I1 h.s8, I1 h.s9, VL A xs.length c, VT d]⟩), (10, ⟨31, [I1 h.s0, I1 h.s1, I3 h.s2, I3 h.s3, I8 (offS xs), I8 h.s5, I8 h.s6, I1 h.s7, I1 0, I1 h.s9]⟩)]⟩ ?_
    have hr_d6 := hr
    have hr2_d6 := hr2
    refine Og 12 B67 2046 7 [⟨some 5, 5, 82, [I1 h.s0, I1 h.s1, I3 h.s2, I3 h.s3, I8 h.s4, I8 h.s5, I8 h.s6, I1 h.s7, I1 h.s8, I1 h.s9, VL A xs.length c, VT d]⟩] [] [] ⟨⟨fun _ h => (by cases h; rfl), rfl⟩, trivial⟩ (by intro p hp hn; simp only [List.mem_cons, List.not_mem_nil, or_false] at hp; rcases hp with rfl <;> first | (cases hn; done) | exact absurd _ (Nat.le_of_ble_eq_true rfl)) (fun ρ0 => ?_)
    refine Ts [0, 1, 3, 4] 7 27 3 7 QOk.ctxG ?_
    refine Dn ⟨68, [(3, .own 3 0), (4, .own 4 0), (5, .own 5 0), (6, VL none 0 0), (7, I6 0), (8, VL A1 ((printO xs).length) c1), (10, .own 10 0), (11, VL A5 20 c5), (42, VL A5 20 c5), (43, VL A1 ((printO xs).length) c1), (46, VT d)], [(3, ⟨55, [I8 a.a0, I8 a.a1, I8 a.a2, I8 a.a3]⟩), (4, ⟨55, [I8 a.b0, I8 a.b1, I8 a.b2, I8 a.b3]⟩), (5, ⟨82, [I1 h.s0, I1 h.s1, I3 h.s2, I3 h.s3, I8 h.s4, I8 h.s5, I8 h.s6, I1 h.s7, I1 h.s8, I1 h.s9, VL A xs.length c, VT d]⟩), (10, ⟨31, [I1 h.s0, I1 h.s1, I3 h.s2, I3 h.s3, I8 (offS xs), I8 h.s5, I8 h.s6, I1 h.s7, I1 0, I1 h.s9]⟩)]⟩ ⟨⟨fun _ h => (by cases h; rfl), rfl⟩, trivial⟩ ?_
    refine Do 2 7 31 B67 2046 ?_
    refine Aw 331 (RR 5 1 A5 20 c5 ((ref11 h.s0 h.s1 h.s2 h.s3 (offS xs) h.s5 h.s6 h.s7 0 h.s9).map (Value.int .u8))) 22 1 (N8 0) (.tmp 42) (.tmp 43) 20 c5 ((printO xs).length) c1 A5 A1 ((printO xs).map (Value.int .u8)) (.inl rfl) (by simp) (at_ints [(331, RR 5 1 A5 20 c5 ((ref11 h.s0 h.s1 h.s2 h.s3 (offS xs) h.s5 h.s6 h.s7 0 h.s9).map (Value.int .u8)))] hr2) (fun _ _ e => rowAt.none hr2 e) ones_ints (by omega) ?_
    intro A7 c7 hc7
    refine X.tellR [331] (R' := [(331, RR 5 1 A7 (20 + (printO xs).length) c7 ((ref11 h.s0 h.s1 h.s2 h.s3 (offS xs) h.s5 h.s6 h.s7 0 h.s9 ++ (printO xs)).map (Value.int .u8)))]) (congrArg (fun cs_ => (331, (RR 5 1 A7 (20 + (printO xs).length) c7 cs_ : Row)) :: []) (show (ref11 h.s0 h.s1 h.s2 h.s3 (offS xs) h.s5 h.s6 h.s7 0 h.s9).map (Value.int .u8) ++ ((printO xs).map (Value.int .u8)) = (ref11 h.s0 h.s1 h.s2 h.s3 (offS xs) h.s5 h.s6 h.s7 0 h.s9 ++ (printO xs)).map (Value.int .u8) by simp)) ?_
    refine X.back ⟨⟨⟨fun _ h => (by cases h; rfl), rfl⟩, trivial⟩, Le.refl _, rfl, ?_⟩
    refine Dn ⟨68, [(3, .own 3 0), (4, .own 4 0), (5, .own 5 0), (6, VL none 0 0), (7, I6 0), (8, VL A1 ((printO xs).length) c1), (10, .own 10 0), (11, VL A5 20 c5), (44, VL A7 (20 + (printO xs).length) c7), (46, VT d)], [(3, ⟨55, [I8 a.a0, I8 a.a1, I8 a.a2, I8 a.a3]⟩), (4, ⟨55, [I8 a.b0, I8 a.b1, I8 a.b2, I8 a.b3]⟩), (5, ⟨82, [I1 h.s0, I1 h.s1, I3 h.s2, I3 h.s3, I8 h.s4, I8 h.s5, I8 h.s6, I1 h.s7, I1 h.s8, I1 h.s9, VL A xs.length c, VT d]⟩), (10, ⟨31, [I1 h.s0, I1 h.s1, I3 h.s2, I3 h.s3, I8 (offS xs), I8 h.s5, I8 h.s6, I1 h.s7, I1 0, I1 h.s9]⟩)]⟩ ⟨⟨fun _ h => (by cases h; rfl), rfl⟩, trivial⟩ ?_
    refine Do 5 7 63 B67 2046 ?_
    refine X.appendStr 331 (RR 5 1 A7 (20 + (printO xs).length) c7 ((ref11 h.s0 h.s1 h.s2 h.s3 (offS xs) h.s5 h.s6 h.s7 0 h.s9 ++ (printO xs)).map (Value.int .u8))) 22 9 (x := .tmp 44) (y := .tmp 46) (n := 20 + (printO xs).length) (c := c7) (A := A7) (b := d) (by kernel_rfl) (by kernel_rfl) (by kernel_rfl) (by kernel_rfl) (by kernel_rfl) (by kernel_rfl) rfl (by kernel_rfl) (.inl rfl) rfl rfl (by omega) ?_
    intro A8 c8 hc8
    refine X.tellR [331] (R' := [(331, RR 5 1 A8 (20 + (printO xs).length + d.size) c8 (((ref11 h.s0 h.s1 h.s2 h.s3 (offS xs) h.s5 h.s6 h.s7 0 h.s9 ++ (printO xs)) ++ bytesL d).map (Value.int .u8)))]) (congrArg (fun cs_ => (331, (RR 5 1 A8 (20 + (printO xs).length + d.size) c8 cs_ : Row)) :: []) (show (ref11 h.s0 h.s1 h.s2 h.s3 (offS xs) h.s5 h.s6 h.s7 0 h.s9 ++ (printO xs)).map (Value.int .u8) ++ (bytesL d).map (Value.int .u8) = ((ref11 h.s0 h.s1 h.s2 h.s3 (offS xs) h.s5 h.s6 h.s7 0 h.s9 ++ (printO xs)) ++ bytesL d).map (Value.int .u8) by simp)) ?_
    refine X.tellR [331] (R' := [(331, RR 5 1 A8 (20 + (printO xs).length + d.size) c8 (((ref11 h.s0 h.s1 h.s2 h.s3 (offS xs) h.s5 h.s6 h.s7 0 h.s9 ++ (printO xs)) ++ bytesL d).map (Value.int .u8)))]) rfl ?_
    refine X.tellR [331] (R' := [(331, RR 5 1 A8 (20 + (printO xs).length + d.size) c8 ((rawS h xs d 0).map (Value.int .u8)))]) (congrArg (fun ns_ : List Int => (331, (RR 5 1 A8 (20 + (printO xs).length + d.size) c8 (ns_.map (Value.int .u8)) : Row)) :: []) (show (ref11 h.s0 h.s1 h.s2 h.s3 (offS xs) h.s5 h.s6 h.s7 0 h.s9 ++ (printO xs)) ++ bytesL d = rawS h xs d 0 by unfold rawS; rw [(encEq h.s0 h.s1 h.s2 h.s3 (offS xs) h.s5 h.s6 h.s7 0 h.s9 hh0 hh1 hh2 hh3 (by omega) hh5 hh6 hh7 (by omega) hh9 ⟨by omega, by omega, hfc_.1, hfc_.2⟩)])) ?_
    refine X.tellR [331] (R' := [(331, RR 5 1 A8 (20 + (printO xs).length + d.size) c8 ((rawS h xs d 0).map (Value.int .u8)))]) rfl ?_
    refine X.capLe (i := 331) (q := (RR 5 1 A8 (20 + (printO xs).length + d.size) c8 ((rawS h xs d 0).map (Value.int .u8)))) (n := 20 + (printO xs).length + d.size) (c := c8) (A := A8) rfl rfl ?_
    intro hle9 hmx9
    refine X.freezeHd (i := 331) (n := 20 + (printO xs).length + d.size) (c := c8) (A := A8) (kd := .u8) (rawS h xs d 0) rfl rfl (fun x_ hx_ => by have h_ := rawS_bytes hh xs d (n := 0) (by omega) hfc_.1 hfc_.2 x_ hx_; simp only [IntKind.lo, IntKind.hi]; omega) (by kernel_rfl) (fun _ h => h) ?_
    intro G9 hG9 hr9
    replace hr := hr.mono hG9.le
    replace hr2 := hr2.mono hG9.le
    refine X.back ⟨⟨⟨fun _ h => (by cases h; rfl), rfl⟩, trivial⟩, hG9.le, rfl, ?_⟩
    refine Ts [6] 7 127 0 1 QOk.ctxG ?_
    refine XD.done (by kernel_rfl) ?_
    refine Rn 7 (Qo B67 4094 4) [Qs B67 4095] ⟨68, [(5, .own 5 0), (6, VL none 0 0), (7, I6 0), (8, VL A1 ((printO xs).length) c1), (10, .own 10 0), (11, VL A8 (20 + (printO xs).length + d.size) c8), (48, .v (.agg #[N8 a.a0, N8 a.a1, N8 a.a2, N8 a.a3])), (49, .v (.agg #[N8 a.b0, N8 a.b1, N8 a.b2, N8 a.b3])), (51, I6 ((20 + (printO xs).length + d.size : Nat) : Int))], [(5, ⟨82, [I1 h.s0, I1 h.s1, I3 h.s2, I3 h.s3, I8 h.s4, I8 h.s5, I8 h.s6, I1 h.s7, I1 h.s8, I1 h.s9, VL A xs.length c, VT d]⟩), (10, ⟨31, [I1 h.s0, I1 h.s1, I3 h.s2, I3 h.s3, I8 (offS xs), I8 h.s5, I8 h.s6, I1 h.s7, I1 0, I1 h.s9]⟩)]⟩ ?_
    refine Cg 47 [.agg #[N8 a.a0, N8 a.a1, N8 a.a2, N8 a.a3], .agg #[N8 a.b0, N8 a.b1, N8 a.b2, N8 a.b3], N8 6, N6 ((20 + (printO xs).length + d.size : Nat) : Int)] 345 (RefPseudo_ok a.a0 a.a1 a.a2 a.a3 a.b0 a.b1 a.b2 a.b3 6 ((20 + (printO xs).length + d.size : Nat) : Int)  (by omega) _) ?_
    rintro v10 G10 rows10 hG10 ⟨A10, rfl, rfl⟩
    replace hr := hr.mono hG10.le
    replace hr2 := hr2.mono hG10.le
    replace hr9 := hr9.mono hG10.le
    refine X.asR (R' := [(345, RR 5 1 A10 12 12 ((psd a (20 + (printO xs).length + d.size)).map (Value.int .u8)))]) rfl ?_
    refine Rn 1 (Qo B67 4094 6) [Qs B67 4095] ⟨68, [(5, .own 5 0), (6, VL none 0 0), (7, I6 0), (8, VL A1 ((printO xs).length) c1), (10, .own 10 0), (11, VL A8 (20 + (printO xs).length + d.size) c8), (52, VL A10 12 12), (53, VL A8 (20 + (printO xs).length + d.size) c8)], [(5, ⟨82, [I1 h.s0, I1 h.s1, I3 h.s2, I3 h.s3, I8 h.s4, I8 h.s5, I8 h.s6, I1 h.s7, I1 h.s8, I1 h.s9, VL A xs.length c, VT d]⟩), (10, ⟨31, [I1 h.s0, I1 h.s1, I3 h.s2, I3 h.s3, I8 (offS xs), I8 h.s5, I8 h.s6, I1 h.s7, I1 0, I1 h.s9]⟩)]⟩ ?_
    refine Aw 345 (RR 5 1 A10 12 12 ((psd a (20 + (printO xs).length + d.size)).map (Value.int .u8))) 22 1 (N8 0) (.tmp 52) (.tmp 53) 12 12 (20 + (printO xs).length + d.size) c8 A10 A8 ((rawS h xs d 0).map (Value.int .u8)) (.inl rfl) (by rw [List.length_map, (rawS_len _ _ _ _), Nat.mul_one]) (at_ints [(345, RR 5 1 A10 12 12 ((psd a (20 + (printO xs).length + d.size)).map (Value.int .u8)))] hr9) (fun _ _ e => Eq.trans (Eq.symm (rawS_len _ _ _ _)) (rowAt.none hr9 e)) ones_ints (by omega) ?_
    intro A11 c11 hc11
    refine X.tellR [345] (R' := [(345, RR 5 1 A11 (12 + (20 + (printO xs).length + d.size)) c11 ((psd a (20 + (printO xs).length + d.size) ++ (rawS h xs d 0)).map (Value.int .u8)))]) (congrArg (fun cs_ => (345, (RR 5 1 A11 (12 + (20 + (printO xs).length + d.size)) c11 cs_ : Row)) :: []) (show (psd a (20 + (printO xs).length + d.size)).map (Value.int .u8) ++ ((rawS h xs d 0).map (Value.int .u8)) = (psd a (20 + (printO xs).length + d.size) ++ (rawS h xs d 0)).map (Value.int .u8) by simp)) ?_
    refine Rn 0 (Qo B67 4094 7) [Qs B67 4095] ⟨68, [(5, .own 5 0), (6, VL none 0 0), (7, I6 0), (8, VL A1 ((printO xs).length) c1), (10, .own 10 0), (11, VL A8 (20 + (printO xs).length + d.size) c8), (54, VL A11 (12 + (20 + (printO xs).length + d.size)) c11)], [(5, ⟨82, [I1 h.s0, I1 h.s1, I3 h.s2, I3 h.s3, I8 h.s4, I8 h.s5, I8 h.s6, I1 h.s7, I1 h.s8, I1 h.s9, VL A xs.length c, VT d]⟩), (10, ⟨31, [I1 h.s0, I1 h.s1, I3 h.s2, I3 h.s3, I8 (offS xs), I8 h.s5, I8 h.s6, I1 h.s7, I1 0, I1 h.s9]⟩)]⟩ ?_
    refine X.tellR [345] (R' := [(345, RR 5 1 A11 (12 + (20 + (printO xs).length + d.size)) c11 ((psd a (20 + (printO xs).length + d.size) ++ (rawS h xs d 0)).map (Value.int .u8)))]) rfl ?_
    refine X.capLe (i := 345) (q := (RR 5 1 A11 (12 + (20 + (printO xs).length + d.size)) c11 ((psd a (20 + (printO xs).length + d.size) ++ (rawS h xs d 0)).map (Value.int .u8)))) (n := 12 + (20 + (printO xs).length + d.size)) (c := c11) (A := A11) rfl rfl ?_
    intro hle12 hmx12
    refine X.freezeHd (i := 345) (n := 12 + (20 + (printO xs).length + d.size)) (c := c11) (A := A11) (kd := .u8) (psd a (20 + (printO xs).length + d.size) ++ (rawS h xs d 0)) rfl rfl ((fun x_ hx_ => by rcases List.mem_append.1 hx_ with h1_ | h1_; have h_ := psd_bytes ha _ x_ h1_; simp only [IntKind.lo, IntKind.hi]; omega; have h_ := rawS_bytes hh xs d (n := 0) (by omega) hfc_.1 hfc_.2 x_ h1_; simp only [IntKind.lo, IntKind.hi]; omega)) (by kernel_rfl) (fun _ h => h) ?_
    intro G12 hG12 hr12
    replace hr := hr.mono hG12.le
    replace hr2 := hr2.mono hG12.le
    replace hr9 := hr9.mono hG12.le
    have hsn_ := SumRef_ok A11 c11 (psd a (20 + (printO xs).length + d.size) ++ (rawS h xs d 0)) G12 hr12 (by simp only [List.length_append, rawS_len, show (psd a (20 + (printO xs).length + d.size)).length = 12 from rfl]; omega) hmx12 (by simp only [List.length_append, rawS_len, show (psd a (20 + (printO xs).length + d.size)).length = 12 from rfl]; omega)
    rw [show (psd a (20 + (printO xs).length + d.size) ++ (rawS h xs d 0)).length = 12 + (20 + (printO xs).length + d.size) from (by rw [List.length_append, rawS_len]; rfl)] at hsn_
    refine Cg 29 [.slice A11 (12 + (20 + (printO xs).length + d.size)) c11] 0 hsn_ ?_
    rintro v13 G13 rows13 hG13 ⟨rfl, rfl⟩
    replace hr := hr.mono hG13.le
    replace hr2 := hr2.mono hG13.le
    replace hr9 := hr9.mono hG13.le
    replace hr12 := hr12.mono hG13.le
    have hsr_ := sumS_range ha hh xs d hfc_.1 hfc_.2
    refine Rn 7 (Qo B67 8190 1) [Qs B67 8191] ⟨68, [(5, .own 5 0), (6, VL none 0 0), (7, I6 0), (8, VL A1 ((printO xs).length) c1), (11, VL A8 (20 + (printO xs).length + d.size) c8), (58, .v (.agg #[N1 h.s0, N1 h.s1, N3 h.s2, N3 h.s3, N8 (offS xs), N8 h.s5, N8 h.s6, N1 h.s7, N1 (sumS a h xs d), N1 h.s9]))], [(5, ⟨82, [I1 h.s0, I1 h.s1, I3 h.s2, I3 h.s3, I8 h.s4, I8 h.s5, I8 h.s6, I1 h.s7, I1 h.s8, I1 h.s9, VL A xs.length c, VT d]⟩)]⟩ ?_
    refine Cg 33 [.agg #[N1 h.s0, N1 h.s1, N3 h.s2, N3 h.s3, N8 (offS xs), N8 h.s5, N8 h.s6, N1 h.s7, N1 (sumS a h xs d), N1 h.s9]] 331 (Ref11_ok h.s0 h.s1 h.s2 h.s3 (offS xs) h.s5 h.s6 h.s7 (sumS a h xs d) h.s9 _) ?_
    rintro v14 G14 rows14 hG14 ⟨he14, hx14⟩
    replace hr := hr.mono hG14.le
    replace hr2 := hr2.mono hG14.le
    replace hr9 := hr9.mono hG14.le
    replace hr12 := hr12.mono hG14.le
    obtain ⟨A14, c14, rfl, rfl⟩ := he14 ⟨by omega, by omega, hfc_.1, hfc_.2⟩
    refine X.asR (R' := [(331, RR 5 1 A14 20 c14 ((ref11 h.s0 h.s1 h.s2 h.s3 (offS xs) h.s5 h.s6 h.s7 (sumS a h xs d) h.s9).map (Value.int .u8)))]) rfl ?_
    refine Rn 7 (Qc B67 16382) [Qs B67 16383] ⟨68, [(5, .own 5 0), (6, VL none 0 0), (7, I6 0), (8, VL A1 ((printO xs).length) c1), (11, VL A14 20 c14)], [(5, ⟨82, [I1 h.s0, I1 h.s1, I3 h.s2, I3 h.s3, I8 h.s4, I8 h.s5, I8 h.s6, I1 h.s7, I1 h.s8, I1 h.s9, VL A xs.length c, VT d]⟩)]⟩ ?_
    have hr_d15 := hr
    have hr2_d15 := hr2
    have hr9_d15 := hr9
    have hr12_d15 := hr12
    refine Og 15 B67 16382 8 [⟨some 5, 5, 82, [I1 h.s0, I1 h.s1, I3 h.s2, I3 h.s3, I8 h.s4, I8 h.s5, I8 h.s6, I1 h.s7, I1 h.s8, I1 h.s9, VL A xs.length c, VT d]⟩] [] [] ⟨⟨fun _ h => (by cases h; rfl), rfl⟩, trivial⟩ (by intro p hp hn; simp only [List.mem_cons, List.not_mem_nil, or_false] at hp; rcases hp with rfl <;> first | (cases hn; done) | exact absurd _ (Nat.le_of_ble_eq_true rfl)) (fun ρ0 => ?_)
    refine Ts [0, 1, 3, 4] 8 27 4 8 QOk.ctxG ?_
    refine Dn ⟨68, [(5, .own 5 0), (6, VL none 0 0), (7, I6 0), (62, VL A14 20 c14), (63, VL A1 ((printO xs).length) c1), (66, VT d)], [(5, ⟨82, [I1 h.s0, I1 h.s1, I3 h.s2, I3 h.s3, I8 h.s4, I8 h.s5, I8 h.s6, I1 h.s7, I1 h.s8, I1 h.s9, VL A xs.length c, VT d]⟩)]⟩ ⟨⟨fun _ h => (by cases h; rfl), rfl⟩, trivial⟩ ?_
    refine Do 2 8 31 B67 16382 ?_
    refine Aw 331 (RR 5 1 A14 20 c14 ((ref11 h.s0 h.s1 h.s2 h.s3 (offS xs) h.s5 h.s6 h.s7 (sumS a h xs d) h.s9).map (Value.int .u8))) 22 1 (N8 0) (.tmp 62) (.tmp 63) 20 c14 ((printO xs).length) c1 A14 A1 ((printO xs).map (Value.int .u8)) (.inl rfl) (by simp) (at_ints [(331, RR 5 1 A14 20 c14 ((ref11 h.s0 h.s1 h.s2 h.s3 (offS xs) h.s5 h.s6 h.s7 (sumS a h xs d) h.s9).map (Value.int .u8)))] hr2) (fun _ _ e => rowAt.none hr2 e) ones_ints (by omega) ?_
    intro A16 c16 hc16
    refine X.tellR [331] (R' := [(331, RR 5 1 A16 (20 + (printO xs).length) c16 ((ref11 h.s0 h.s1 h.s2 h.s3 (offS xs) h.s5 h.s6 h.s7 (sumS a h xs d) h.s9 ++ (printO xs)).map (Value.int .u8)))]) (congrArg (fun cs_ => (331, (RR 5 1 A16 (20 + (printO xs).length) c16 cs_ : Row)) :: []) (show (ref11 h.s0 h.s1 h.s2 h.s3 (offS xs) h.s5 h.s6 h.s7 (sumS a h xs d) h.s9).map (Value.int .u8) ++ ((printO xs).map (Value.int .u8)) = (ref11 h.s0 h.s1 h.s2 h.s3 (offS xs) h.s5 h.s6 h.s7 (sumS a h xs d) h.s9 ++ (printO xs)).map (Value.int .u8) by simp)) ?_
    refine X.back ⟨⟨⟨fun _ h => (by cases h; rfl), rfl⟩, trivial⟩, Le.refl _, rfl, ?_⟩
    refine Dn ⟨68, [(5, .own 5 0), (6, VL none 0 0), (7, I6 0), (64, VL A16 (20 + (printO xs).length) c16), (66, VT d)], [(5, ⟨82, [I1 h.s0, I1 h.s1, I3 h.s2, I3 h.s3, I8 h.s4, I8 h.s5, I8 h.s6, I1 h.s7, I1 h.s8, I1 h.s9, VL A xs.length c, VT d]⟩)]⟩ ⟨⟨fun _ h => (by cases h; rfl), rfl⟩, trivial⟩ ?_
    refine Do 5 8 63 B67 16382 ?_
    refine X.appendStr 331 (RR 5 1 A16 (20 + (printO xs).length) c16 ((ref11 h.s0 h.s1 h.s2 h.s3 (offS xs) h.s5 h.s6 h.s7 (sumS a h xs d) h.s9 ++ (printO xs)).map (Value.int .u8))) 22 9 (x := .tmp 64) (y := .tmp 66) (n := 20 + (printO xs).length) (c := c16) (A := A16) (b := d) (by kernel_rfl) (by kernel_rfl) (by kernel_rfl) (by kernel_rfl) (by kernel_rfl) (by kernel_rfl) rfl (by kernel_rfl) (.inl rfl) rfl rfl (by omega) ?_
    intro A17 c17 hc17
    refine X.tellR [331] (R' := [(331, RR 5 1 A17 (20 + (printO xs).length + d.size) c17 (((ref11 h.s0 h.s1 h.s2 h.s3 (offS xs) h.s5 h.s6 h.s7 (sumS a h xs d) h.s9 ++ (printO xs)) ++ bytesL d).map (Value.int .u8)))]) (congrArg (fun cs_ => (331, (RR 5 1 A17 (20 + (printO xs).length + d.size) c17 cs_ : Row)) :: []) (show (ref11 h.s0 h.s1 h.s2 h.s3 (offS xs) h.s5 h.s6 h.s7 (sumS a h xs d) h.s9 ++ (printO xs)).map (Value.int .u8) ++ (bytesL d).map (Value.int .u8) = ((ref11 h.s0 h.s1 h.s2 h.s3 (offS xs) h.s5 h.s6 h.s7 (sumS a h xs d) h.s9 ++ (printO xs)) ++ bytesL d).map (Value.int .u8) by simp)) ?_
    refine X.tellR [331] (R' := [(331, RR 5 1 A17 (20 + (printO xs).length + d.size) c17 (((ref11 h.s0 h.s1 h.s2 h.s3 (offS xs) h.s5 h.s6 h.s7 (sumS a h xs d) h.s9 ++ (printO xs)) ++ bytesL d).map (Value.int .u8)))]) rfl ?_
    refine X.tellR [331] (R' := [(331, RR 5 1 A17 (20 + (printO xs).length + d.size) c17 ((rawS h xs d (sumS a h xs d)).map (Value.int .u8)))]) (congrArg (fun ns_ : List Int => (331, (RR 5 1 A17 (20 + (printO xs).length + d.size) c17 (ns_.map (Value.int .u8)) : Row)) :: []) (show (ref11 h.s0 h.s1 h.s2 h.s3 (offS xs) h.s5 h.s6 h.s7 (sumS a h xs d) h.s9 ++ (printO xs)) ++ bytesL d = rawS h xs d (sumS a h xs d) by unfold rawS; rw [(encEq h.s0 h.s1 h.s2 h.s3 (offS xs) h.s5 h.s6 h.s7 (sumS a h xs d) h.s9 hh0 hh1 hh2 hh3 (by omega) hh5 hh6 hh7 (by omega) hh9 ⟨by omega, by omega, hfc_.1, hfc_.2⟩)])) ?_
    refine X.back ⟨⟨⟨fun _ h => (by cases h; rfl), rfl⟩, trivial⟩, Le.refl _, rfl, ?_⟩
    refine Ts [6, 7] 8 255 0 2 QOk.ctxG ?_
    refine XD.done (by kernel_rfl) ?_
    refine Rn 2 (.ex .ret) [] ⟨68, [(6, VL A17 (20 + (printO xs).length + d.size) c17), (7, I6 0)], []⟩ ?_
    refine Dg (.inl rfl) [.slice A17 (20 + (printO xs).length + d.size) c17, N6 0] [331] rfl ((((((((hG1.trans hG2).trans hG5).trans hG9).trans hG10).trans hG12).trans hG13).trans hG14)) ?_
    rw [encS_fine he_ hl_ hfc_]
    simp only [rawS_len]
    exact ⟨_, _, rfl, rfl⟩
   ·
    obtain ⟨rfl, rfl⟩ := hx5 (fun h_ => hfc_ ⟨h_.2.2.1, h_.2.2.2⟩)
    refine X.asR (R' := []) rfl ?_
    refine X.nilRow 390 5 1 rfl ?_
    refine Rn 24 (.ex .ret) [] ⟨68, [(6, VL none 0 0), (7, I6 2)], []⟩ ?_
    refine Dg (.inl rfl) [.slice none 0 0, N6 2] [390] rfl (((hG1.trans hG2).trans hG5)) ?_
    rw [encS_form he_ hl_ hfc_]
    exact ⟨none, 0, rfl, rfl⟩
/-- leat/leatlaw13.SegmentEncodes -/
noncomputable def B18 : Code := bodyOf Try.f18
set_option maxHeartbeats 1000000 in
theorem SegmentEncodes_ok (a : Ad) (h : Hd) (A : Option Addr) (c : Nat) (xs : List Opt) (d : ByteArray) (G : Mem) (ha : a.ok) (hh : h.ok) (hr : rowAt optD G A xs) (hle : xs.length ≤ c) (hmx : c ≤ maxLen) (hd : d.size ≤ maxLen) : CallsG Try.prog 18 [.agg #[.int .u8 a.a0, .int .u8 a.a1, .int .u8 a.a2, .int .u8 a.a3, .int .u8 a.b0, .int .u8 a.b1, .int .u8 a.b2, .int .u8 a.b3], .agg #[.int .u16 h.s0, .int .u16 h.s1, .int .u32 h.s2, .int .u32 h.s3, .int .u8 h.s4, .int .u8 h.s5, .int .u8 h.s6, .int .u16 h.s7, .int .u16 h.s8, .int .u16 h.s9, .slice A xs.length c, .string d]] G (fun _ v rows => v = .bool true ∧ rows = []) := by
 simp only [maxLen] at hmx hd
 have hh6 := hh.h6
 refine CallsG.enter Try.func18 rfl rfl ?_
 intro w
 refine Rn 10 (Qo B18 6 1) [Qs B18 7] ⟨65, [(2, .own 2 0), (3, .own 3 0), (4, VB false), (10, .v (.agg #[N1 h.s0, N1 h.s1, N3 h.s2, N3 h.s3, N8 h.s4, N8 h.s5, N8 h.s6, N1 h.s7, N1 h.s8, N1 h.s9, .slice A xs.length c, .string d]))], [(2, ⟨56, [I8 a.a0, I8 a.a1, I8 a.a2, I8 a.a3, I8 a.b0, I8 a.b1, I8 a.b2, I8 a.b3]⟩), (3, ⟨82, [I1 h.s0, I1 h.s1, I3 h.s2, I3 h.s3, I8 h.s4, I8 h.s5, I8 h.s6, I1 h.s7, I1 h.s8, I1 h.s9, VL A xs.length c, VT d]⟩)]⟩ ?_
 refine Cg 65 [.agg #[N1 h.s0, N1 h.s1, N3 h.s2, N3 h.s3, N8 h.s4, N8 h.s5, N8 h.s6, N1 h.s7, N1 h.s8, N1 h.s9, .slice A xs.length c, .string d]] 420 (few_ok h A c xs d _ hr hle hmx (by simp only [maxLen]; omega)) ?_
 rintro v1 G1 rows1 hG1 ⟨A1, c1, cs1, rfl, rfl, hcs1⟩
 replace hr := hr.mono hG1.le
 refine X.asR (R' := [(420, RR 65 3 A1 ((fewO xs).length) c1 cs1)]) rfl ?_
 refine X.tellR [420] (R' := [(420, RR 65 3 A1 ((fewO xs).length) c1 cs1)]) rfl ?_
 refine X.capLe (i := 420) (q := (RR 65 3 A1 ((fewO xs).length) c1 cs1)) (n := (fewO xs).length) (c := c1) (A := A1) rfl rfl ?_
 intro hle2 hmx2
 refine X.freezeD (d := optD) (i := 420) (n := (fewO xs).length) (c := c1) (A := A1) (fewO xs) rfl hcs1 (by decide) (by kernel_rfl) (fun _ h => h) ?_
 intro G2 hG2 hr2
 replace hr := hr.mono hG2.le
 have hfz_ := fewD_size d
 refine Rn 10 (Qo B18 14 5) [Qs B18 15] ⟨65, [(2, .own 2 0), (3, .own 3 0), (4, VB false), (14, .v (.agg #[N8 a.a0, N8 a.a1, N8 a.a2, N8 a.a3])), (16, .v (.agg #[N8 a.b0, N8 a.b1, N8 a.b2, N8 a.b3])), (17, .v (.agg #[N1 h.s0, N1 h.s1, N3 h.s2, N3 h.s3, N8 h.s4, N8 h.s5, N8 h.s6, N1 h.s7, N1 h.s8, N1 h.s9, .slice A1 ((fewO xs).length) c1, .string (fewD d)]))], [(2, ⟨56, [I8 a.a0, I8 a.a1, I8 a.a2, I8 a.a3, I8 a.b0, I8 a.b1, I8 a.b2, I8 a.b3]⟩), (3, ⟨82, [I1 h.s0, I1 h.s1, I3 h.s2, I3 h.s3, I8 h.s4, I8 h.s5, I8 h.s6, I1 h.s7, I1 h.s8, I1 h.s9, VL A1 ((fewO xs).length) c1, VT (fewD d)]⟩)]⟩ ?_
 refine Cg 66 [.agg #[N8 a.a0, N8 a.a1, N8 a.a2, N8 a.a3], .agg #[N8 a.b0, N8 a.b1, N8 a.b2, N8 a.b3], .agg #[N1 h.s0, N1 h.s1, N3 h.s2, N3 h.s3, N8 h.s4, N8 h.s5, N8 h.s6, N1 h.s7, N1 h.s8, N1 h.s9, .slice A1 ((fewO xs).length) c1, .string (fewD d)]] 400 (SegEnc_ok a h A1 c1 (fewO xs) (fewD d) _ ha hh hr2 hle2 hmx2) ?_
 rintro v3 G3 rows3 hG3 ⟨A3, c3, rfl, rfl⟩
 replace hr := hr.mono hG3.le
 replace hr2 := hr2.mono hG3.le
 refine X.asR (R' := [(400, RR 5 1 A3 ((encS a h (fewO xs) (fewD d)).1.length) c3 (((encS a h (fewO xs) (fewD d)).1).map (Value.int .u8)))]) rfl ?_
 refine X.tellR [400] (R' := [(400, RR 5 1 A3 ((encS a h (fewO xs) (fewD d)).1.length) c3 (((encS a h (fewO xs) (fewD d)).1).map (Value.int .u8)))]) rfl ?_
 refine X.capLe (i := 400) (q := (RR 5 1 A3 ((encS a h (fewO xs) (fewD d)).1.length) c3 (((encS a h (fewO xs) (fewD d)).1).map (Value.int .u8)))) (n := (encS a h (fewO xs) (fewD d)).1.length) (c := c3) (A := A3) rfl rfl ?_
 intro hle4 hmx4
 refine X.freezeHd (i := 400) (n := (encS a h (fewO xs) (fewD d)).1.length) (c := c3) (A := A3) (kd := .u8) ((encS a h (fewO xs) (fewD d)).1) rfl rfl (fun x_ hx_ => by have h_ := encS_bytes ha hh x_ hx_; simp only [IntKind.lo, IntKind.hi]; omega) (by kernel_rfl) (fun _ h => h) ?_
 intro G4 hG4 hr4
 replace hr := hr.mono hG4.le
 replace hr2 := hr2.mono hG4.le
 refine Rn 14 (Qo B18 30 5) [Qs B18 31] ⟨65, [(3, .own 3 0), (4, VB false), (5, VL A3 ((encS a h (fewO xs) (fewD d)).1.length) c3), (6, I6 ((encS a h (fewO xs) (fewD d)).2)), (23, .v (.agg #[N8 a.a0, N8 a.a1, N8 a.a2, N8 a.a3])), (25, .v (.agg #[N8 a.b0, N8 a.b1, N8 a.b2, N8 a.b3])), (26, .v (.agg #[N1 h.s0, N1 h.s1, N3 h.s2, N3 h.s3, N8 h.s4, N8 h.s5, N8 h.s6, N1 h.s7, N1 h.s8, N1 h.s9, .slice A1 ((fewO xs).length) c1, .string (fewD d)]))], [(3, ⟨82, [I1 h.s0, I1 h.s1, I3 h.s2, I3 h.s3, I8 h.s4, I8 h.s5, I8 h.s6, I1 h.s7, I1 h.s8, I1 h.s9, VL A1 ((fewO xs).length) c1, VT (fewD d)]⟩)]⟩ ?_
 refine Cg 67 [.agg #[N8 a.a0, N8 a.a1, N8 a.a2, N8 a.a3], .agg #[N8 a.b0, N8 a.b1, N8 a.b2, N8 a.b3], .agg #[N1 h.s0, N1 h.s1, N3 h.s2, N3 h.s3, N8 h.s4, N8 h.s5, N8 h.s6, N1 h.s7, N1 h.s8, N1 h.s9, .slice A1 ((fewO xs).length) c1, .string (fewD d)]] 405 (RSegEnc_ok a h A1 c1 (fewO xs) (fewD d) _ ha hh hr2 hle2 hmx2 (fewO_len _) (fewO_small _)) ?_
 rintro v5 G5 rows5 hG5 ⟨A5, c5, rfl, rfl⟩
 replace hr := hr.mono hG5.le
 replace hr2 := hr2.mono hG5.le
 replace hr4 := hr4.mono hG5.le
 refine X.asR (R' := [(405, RR 5 1 A5 ((encS a h (fewO xs) (fewD d)).1.length) c5 (((encS a h (fewO xs) (fewD d)).1).map (Value.int .u8)))]) rfl ?_
 refine X.tellR [405] (R' := [(405, RR 5 1 A5 ((encS a h (fewO xs) (fewD d)).1.length) c5 (((encS a h (fewO xs) (fewD d)).1).map (Value.int .u8)))]) rfl ?_
 refine X.capLe (i := 405) (q := (RR 5 1 A5 ((encS a h (fewO xs) (fewD d)).1.length) c5 (((encS a h (fewO xs) (fewD d)).1).map (Value.int .u8)))) (n := (encS a h (fewO xs) (fewD d)).1.length) (c := c5) (A := A5) rfl rfl ?_
 intro hle6 hmx6
 refine X.freezeHd (i := 405) (n := (encS a h (fewO xs) (fewD d)).1.length) (c := c5) (A := A5) (kd := .u8) ((encS a h (fewO xs) (fewD d)).1) rfl rfl (fun x_ hx_ => by have h_ := encS_bytes ha hh x_ hx_; simp only [IntKind.lo, IntKind.hi]; omega) (by kernel_rfl) (fun _ h => h) ?_
 intro G6 hG6 hr6
 replace hr := hr.mono hG6.le
 replace hr2 := hr2.mono hG6.le
 replace hr4 := hr4.mono hG6.le
 refine Rn 16 (Qo B18 62 7) [Qs B18 63] ⟨65, [(3, .own 3 0), (4, VB false), (5, VL A3 ((encS a h (fewO xs) (fewD d)).1.length) c3), (6, I6 ((encS a h (fewO xs) (fewD d)).2)), (7, VL A5 ((encS a h (fewO xs) (fewD d)).1.length) c5), (8, I6 ((encS a h (fewO xs) (fewD d)).2)), (32, I6 ((fewD d).size : Int)), (36, I8 (Int.tmod h.s6 2))], [(3, ⟨82, [I1 h.s0, I1 h.s1, I3 h.s2, I3 h.s3, I8 h.s4, I8 h.s5, I8 h.s6, I1 h.s7, I1 h.s8, I1 h.s9, VL A1 ((fewO xs).length) c1, VT (fewD d)]⟩)]⟩ ?_
 refine Kn 36 .u8 (h.s6 % 2) rfl (Int.tmod_eq_emod_of_nonneg (by omega)) ?_
 refine Rn 1 (Qo B18 62 8) [Qs B18 63] ⟨65, [(3, .own 3 0), (4, VB false), (5, VL A3 ((encS a h (fewO xs) (fewD d)).1.length) c3), (6, I6 ((encS a h (fewO xs) (fewD d)).2)), (7, VL A5 ((encS a h (fewO xs) (fewD d)).1.length) c5), (8, I6 ((encS a h (fewO xs) (fewD d)).2)), (32, I6 ((fewD d).size : Int)), (37, I6 (IntKind.i64.wrap (h.s6 % 2)))], [(3, ⟨82, [I1 h.s0, I1 h.s1, I3 h.s2, I3 h.s3, I8 h.s4, I8 h.s5, I8 h.s6, I1 h.s7, I1 h.s8, I1 h.s9, VL A1 ((fewO xs).length) c1, VT (fewD d)]⟩)]⟩ ?_
 refine Kn 37 .i64 (h.s6 % 2) rfl (wi64 (by omega) (by omega)) ?_
 refine Rn 1 (Qo B18 62 9) [Qs B18 63] ⟨65, [(3, .own 3 0), (4, VB false), (5, VL A3 ((encS a h (fewO xs) (fewD d)).1.length) c3), (6, I6 ((encS a h (fewO xs) (fewD d)).2)), (7, VL A5 ((encS a h (fewO xs) (fewD d)).1.length) c5), (8, I6 ((encS a h (fewO xs) (fewD d)).2)), (38, I6 (IntKind.i64.wrap (((fewD d).size : Int) + (h.s6 % 2))))], [(3, ⟨82, [I1 h.s0, I1 h.s1, I3 h.s2, I3 h.s3, I8 h.s4, I8 h.s5, I8 h.s6, I1 h.s7, I1 h.s8, I1 h.s9, VL A1 ((fewO xs).length) c1, VT (fewD d)]⟩)]⟩ ?_
 refine Kn 38 .i64 (((fewD d).size : Int) + (h.s6 % 2)) rfl (wi64 (by omega) (by omega)) ?_
 refine Rn 4 (Qo B18 62 13) [Qs B18 63] ⟨65, [(3, .own 3 0), (4, VB false), (5, VL A3 ((encS a h (fewO xs) (fewD d)).1.length) c3), (6, I6 ((encS a h (fewO xs) (fewD d)).2)), (7, VL A5 ((encS a h (fewO xs) (fewD d)).1.length) c5), (8, I6 ((encS a h (fewO xs) (fewD d)).2)), (38, I6 (((fewD d).size : Int) + (h.s6 % 2))), (42, I8 (IntKind.u8.wrap (Int.tdiv h.s6 2)))], [(3, ⟨82, [I1 h.s0, I1 h.s1, I3 h.s2, I3 h.s3, I8 h.s4, I8 h.s5, I8 h.s6, I1 h.s7, I1 h.s8, I1 h.s9, VL A1 ((fewO xs).length) c1, VT (fewD d)]⟩)]⟩ ?_
 refine Kn 42 .u8 (h.s6 / 2) rfl (wdiv_u8 (by omega) (by omega) (by omega)) ?_
 refine Rn 1 (Qo B18 62 14) [Qs B18 63] ⟨65, [(3, .own 3 0), (4, VB false), (5, VL A3 ((encS a h (fewO xs) (fewD d)).1.length) c3), (6, I6 ((encS a h (fewO xs) (fewD d)).2)), (7, VL A5 ((encS a h (fewO xs) (fewD d)).1.length) c5), (8, I6 ((encS a h (fewO xs) (fewD d)).2)), (38, I6 (((fewD d).size : Int) + (h.s6 % 2))), (43, I8 (Int.tmod (h.s6 / 2) 2))], [(3, ⟨82, [I1 h.s0, I1 h.s1, I3 h.s2, I3 h.s3, I8 h.s4, I8 h.s5, I8 h.s6, I1 h.s7, I1 h.s8, I1 h.s9, VL A1 ((fewO xs).length) c1, VT (fewD d)]⟩)]⟩ ?_
 refine Kn 43 .u8 ((h.s6 / 2) % 2) rfl (Int.tmod_eq_emod_of_nonneg (by omega)) ?_
 refine Rn 1 (Qo B18 62 15) [Qs B18 63] ⟨65, [(3, .own 3 0), (4, VB false), (5, VL A3 ((encS a h (fewO xs) (fewD d)).1.length) c3), (6, I6 ((encS a h (fewO xs) (fewD d)).2)), (7, VL A5 ((encS a h (fewO xs) (fewD d)).1.length) c5), (8, I6 ((encS a h (fewO xs) (fewD d)).2)), (38, I6 (((fewD d).size : Int) + (h.s6 % 2))), (44, I6 (IntKind.i64.wrap ((h.s6 / 2) % 2)))], [(3, ⟨82, [I1 h.s0, I1 h.s1, I3 h.s2, I3 h.s3, I8 h.s4, I8 h.s5, I8 h.s6, I1 h.s7, I1 h.s8, I1 h.s9, VL A1 ((fewO xs).length) c1, VT (fewD d)]⟩)]⟩ ?_
 refine Kn 44 .i64 ((h.s6 / 2) % 2) rfl (wi64 (by omega) (by omega)) ?_
 refine Rn 1 (Qo B18 62 16) [Qs B18 63] ⟨65, [(3, .own 3 0), (4, VB false), (5, VL A3 ((encS a h (fewO xs) (fewD d)).1.length) c3), (6, I6 ((encS a h (fewO xs) (fewD d)).2)), (7, VL A5 ((encS a h (fewO xs) (fewD d)).1.length) c5), (8, I6 ((encS a h (fewO xs) (fewD d)).2)), (45, I6 (IntKind.i64.wrap ((((fewD d).size : Int) + (h.s6 % 2)) + ((h.s6 / 2) % 2))))], [(3, ⟨82, [I1 h.s0, I1 h.s1, I3 h.s2, I3 h.s3, I8 h.s4, I8 h.s5, I8 h.s6, I1 h.s7, I1 h.s8, I1 h.s9, VL A1 ((fewO xs).length) c1, VT (fewD d)]⟩)]⟩ ?_
 refine Kn 45 .i64 ((((fewD d).size : Int) + (h.s6 % 2)) + ((h.s6 / 2) % 2)) rfl (wi64 (by omega) (by omega)) ?_
 refine Rn 6 (Qo B18 126 1) [Qs B18 127] ⟨65, [(3, .own 3 0), (4, VB false), (6, I6 ((encS a h (fewO xs) (fewD d)).2)), (7, VL A5 ((encS a h (fewO xs) (fewD d)).1.length) c5), (8, I6 ((encS a h (fewO xs) (fewD d)).2)), (9, I6 ((((fewD d).size : Int) + (h.s6 % 2)) + ((h.s6 / 2) % 2))), (46, VL A3 ((encS a h (fewO xs) (fewD d)).1.length) c3)], [(3, ⟨82, [I1 h.s0, I1 h.s1, I3 h.s2, I3 h.s3, I8 h.s4, I8 h.s5, I8 h.s6, I1 h.s7, I1 h.s8, I1 h.s9, VL A1 ((fewO xs).length) c1, VT (fewD d)]⟩)]⟩ ?_
 refine X.toStrW (src := 22) (dst := 9) (e := 5) (n := (encS a h (fewO xs) (fewD d)).1.length) (c := c3) (A := A3) (x := .tmp 46) ((encS a h (fewO xs) (fewD d)).1) (by kernel_rfl) (by kernel_rfl) (by kernel_rfl) (by kernel_rfl) (by kernel_rfl) rfl (at_ints [] hr4) (fun w hw e => rowAt.none hr4 e) (by kernel_rfl) ?_
 refine Rn 1 (Qo B18 126 3) [Qs B18 127] ⟨65, [(3, .own 3 0), (4, VB false), (6, I6 ((encS a h (fewO xs) (fewD d)).2)), (8, I6 ((encS a h (fewO xs) (fewD d)).2)), (9, I6 ((((fewD d).size : Int) + (h.s6 % 2)) + ((h.s6 / 2) % 2))), (47, VT (strOf ((encS a h (fewO xs) (fewD d)).1))), (48, VL A5 ((encS a h (fewO xs) (fewD d)).1.length) c5)], [(3, ⟨82, [I1 h.s0, I1 h.s1, I3 h.s2, I3 h.s3, I8 h.s4, I8 h.s5, I8 h.s6, I1 h.s7, I1 h.s8, I1 h.s9, VL A1 ((fewO xs).length) c1, VT (fewD d)]⟩)]⟩ ?_
 refine X.toStrW (src := 22) (dst := 9) (e := 5) (n := (encS a h (fewO xs) (fewD d)).1.length) (c := c5) (A := A5) (x := .tmp 48) ((encS a h (fewO xs) (fewD d)).1) (by kernel_rfl) (by kernel_rfl) (by kernel_rfl) (by kernel_rfl) (by kernel_rfl) rfl (at_ints [] hr6) (fun w hw e => rowAt.none hr6 e) (by kernel_rfl) ?_
 refine Rn 2 (Qo B18 126 6) [Qs B18 127] ⟨65, [(3, .own 3 0), (4, VB false), (6, I6 ((encS a h (fewO xs) (fewD d)).2)), (8, I6 ((encS a h (fewO xs) (fewD d)).2)), (9, I6 ((((fewD d).size : Int) + (h.s6 % 2)) + ((h.s6 / 2) % 2))), (51, VB ((strOf ((encS a h (fewO xs) (fewD d)).1)).toList == (strOf ((encS a h (fewO xs) (fewD d)).1)).toList))], [(3, ⟨82, [I1 h.s0, I1 h.s1, I3 h.s2, I3 h.s3, I8 h.s4, I8 h.s5, I8 h.s6, I1 h.s7, I1 h.s8, I1 h.s9, VL A1 ((fewO xs).length) c1, VT (fewD d)]⟩)]⟩ ?_
 refine X.isTrue 51 rfl (by simp) ?_
 refine Rn 5 (Qo B18 126 11) [Qs B18 127] ⟨65, [(3, .own 3 0), (4, VB false), (9, I6 ((((fewD d).size : Int) + (h.s6 % 2)) + ((h.s6 / 2) % 2))), (56, VB (((encS a h (fewO xs) (fewD d)).2) == ((encS a h (fewO xs) (fewD d)).2)))], [(3, ⟨82, [I1 h.s0, I1 h.s1, I3 h.s2, I3 h.s3, I8 h.s4, I8 h.s5, I8 h.s6, I1 h.s7, I1 h.s8, I1 h.s9, VL A1 ((fewO xs).length) c1, VT (fewD d)]⟩)]⟩ ?_
 refine X.isTrue 56 rfl (by simp) ?_
 refine Rn 1 (Qo B18 126 12) [Qs B18 127] ⟨65, [(4, VB false), (9, I6 ((((fewD d).size : Int) + (h.s6 % 2)) + ((h.s6 / 2) % 2))), (56, VB true), (57, .v (.agg #[N1 h.s0, N1 h.s1, N3 h.s2, N3 h.s3, N8 h.s4, N8 h.s5, N8 h.s6, N1 h.s7, N1 h.s8, N1 h.s9, .slice A1 ((fewO xs).length) c1, .string (fewD d)]))], []⟩ ?_
 refine Cg 68 [.agg #[N1 h.s0, N1 h.s1, N3 h.s2, N3 h.s3, N8 h.s4, N8 h.s5, N8 h.s6, N1 h.s7, N1 h.s8, N1 h.s9, .slice A1 ((fewO xs).length) c1, .string (fewD d)]] 0 (Length_ok h A1 ((fewO xs).length) c1 (fewD d) _ hh6 (by omega)) ?_
 rintro v7 G7 rows7 hG7 ⟨rfl, rfl⟩
 replace hr := hr.mono hG7.le
 replace hr2 := hr2.mono hG7.le
 replace hr4 := hr4.mono hG7.le
 replace hr6 := hr6.mono hG7.le
 refine Rn 4 (Qo B18 126 17) [Qs B18 127] ⟨65, [(4, VB false), (62, VB ((lenS h (fewD d)) == ((((fewD d).size : Int) + (h.s6 % 2)) + ((h.s6 / 2) % 2))))], []⟩ ?_
 refine X.isTrue 62 rfl (by unfold lenS; simp) ?_
 refine Cg 64 [] 0 (works13_ok _) ?_
 rintro v8 G8 rows8 hG8 ⟨rfl, rfl⟩
 replace hr := hr.mono hG8.le
 replace hr2 := hr2.mono hG8.le
 replace hr4 := hr4.mono hG8.le
 replace hr6 := hr6.mono hG8.le
 refine Rn 5 (.ex .ret) [] ⟨65, [(4, VB true)], []⟩ ?_
 refine Dg (.inl rfl) [.bool true] [] rfl ((((((((hG1.trans hG2).trans hG3).trans hG4).trans hG5).trans hG6).trans hG7).trans hG8)) ?_
 exact ⟨rfl, rfl⟩
end Go.Proofs.YtjgpdbkkpomhjaaX
