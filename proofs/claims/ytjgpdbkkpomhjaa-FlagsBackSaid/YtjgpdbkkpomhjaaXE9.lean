/- FlagsBack -/
import Derived.Test.YtjgpdbkkpomhjaaProg
import Derived.KernelRfl
import Derived.Test.YtjgpdbkkpomhjaaXS3
namespace Go.Proofs.YtjgpdbkkpomhjaaX
open Go.RowKit
set_option linter.unusedVariables false
set_option linter.unusedSimpArgs false
set_option maxRecDepth 100000
theorem decEnc (s0 s1 s2 s3 s4 s5 s6 s7 s8 s9 : Int) (h0 : 0 ≤ s0 ∧ s0 ≤ 65535) (h1 : 0 ≤ s1 ∧ s1 ≤ 65535) (h2 : 0 ≤ s2 ∧ s2 ≤ 4294967295) (h3 : 0 ≤ s3 ∧ s3 ≤ 4294967295) (h4 : 0 ≤ s4 ∧ s4 ≤ 255) (h5 : 0 ≤ s5 ∧ s5 ≤ 255) (h6 : 0 ≤ s6 ∧ s6 ≤ 255) (h7 : 0 ≤ s7 ∧ s7 ≤ 65535) (h8 : 0 ≤ s8 ∧ s8 ≤ 65535) (h9 : 0 ≤ s9 ∧ s9 ≤ 65535) (hin : (5 ≤ s4 ∧ s4 ≤ 15 ∧ s5 ≤ 7 ∧ s6 ≤ 63)) (ys : List Int) : dec11 (enc11 s0 s1 s2 s3 s4 s5 s6 s7 s8 s9 ++ ys) = .agg #[.int .u16 s0, .int .u16 s1, .int .u32 s2, .int .u32 s3, .int .u8 s4, .int .u8 s5, .int .u8 s6, .int .u16 s7, .int .u16 s8, .int .u16 s9] := by
  have e0 : bor .u16 (bshl .u16 (IntKind.u16.wrap ((enc11 s0 s1 s2 s3 s4 s5 s6 s7 s8 s9 ++ ys).getD 0 0)) 8) (IntKind.u16.wrap ((enc11 s0 s1 s2 s3 s4 s5 s6 s7 s8 s9 ++ ys).getD 1 0)) = s0 := hdr16 h0
  have e1 : bor .u16 (bshl .u16 (IntKind.u16.wrap ((enc11 s0 s1 s2 s3 s4 s5 s6 s7 s8 s9 ++ ys).getD 2 0)) 8) (IntKind.u16.wrap ((enc11 s0 s1 s2 s3 s4 s5 s6 s7 s8 s9 ++ ys).getD 3 0)) = s1 := hdr16 h1
  have e2 : bor .u32 (bshl .u32 (IntKind.u32.wrap (bor .u16 (bshl .u16 (IntKind.u16.wrap ((enc11 s0 s1 s2 s3 s4 s5 s6 s7 s8 s9 ++ ys).getD 4 0)) 8) (IntKind.u16.wrap ((enc11 s0 s1 s2 s3 s4 s5 s6 s7 s8 s9 ++ ys).getD 5 0)))) 16) (IntKind.u32.wrap (bor .u16 (bshl .u16 (IntKind.u16.wrap ((enc11 s0 s1 s2 s3 s4 s5 s6 s7 s8 s9 ++ ys).getD 6 0)) 8) (IntKind.u16.wrap ((enc11 s0 s1 s2 s3 s4 s5 s6 s7 s8 s9 ++ ys).getD 7 0)))) = s2 := hdr32 h2
  have e3 : bor .u32 (bshl .u32 (IntKind.u32.wrap (bor .u16 (bshl .u16 (IntKind.u16.wrap ((enc11 s0 s1 s2 s3 s4 s5 s6 s7 s8 s9 ++ ys).getD 8 0)) 8) (IntKind.u16.wrap ((enc11 s0 s1 s2 s3 s4 s5 s6 s7 s8 s9 ++ ys).getD 9 0)))) 16) (IntKind.u32.wrap (bor .u16 (bshl .u16 (IntKind.u16.wrap ((enc11 s0 s1 s2 s3 s4 s5 s6 s7 s8 s9 ++ ys).getD 10 0)) 8) (IntKind.u16.wrap ((enc11 s0 s1 s2 s3 s4 s5 s6 s7 s8 s9 ++ ys).getD 11 0)))) = s3 := hdr32 h3
  have e4 : bshr .u8 ((enc11 s0 s1 s2 s3 s4 s5 s6 s7 s8 s9 ++ ys).getD 12 0) 4 = s4 := (eb12 (by omega) (by omega)).1
  have e5 : bor .u8 (bshl .u8 (band .u8 ((enc11 s0 s1 s2 s3 s4 s5 s6 s7 s8 s9 ++ ys).getD 12 0) 1) 2) (bshr .u8 ((enc11 s0 s1 s2 s3 s4 s5 s6 s7 s8 s9 ++ ys).getD 13 0) 6) = s5 := by
    show bor .u8 (bshl .u8 (band .u8 (bor .u8 (bshl .u8 s4 4) (bshr .u8 s5 2)) 1) 2) (bshr .u8 (bor .u8 (bshl .u8 s5 6) s6) 6) = s5
    rw [(eb12 (a := s4) (b := s5) (by omega) (by omega)).2.1, (eb13 (b := s5) (f := s6) (by omega) (by omega)).1, eb5 (by omega)]
  have e6 : band .u8 ((enc11 s0 s1 s2 s3 s4 s5 s6 s7 s8 s9 ++ ys).getD 13 0) 63 = s6 := (eb13 (b := s5) (by omega) (by omega)).2.1
  have e7 : bor .u16 (bshl .u16 (IntKind.u16.wrap ((enc11 s0 s1 s2 s3 s4 s5 s6 s7 s8 s9 ++ ys).getD 14 0)) 8) (IntKind.u16.wrap ((enc11 s0 s1 s2 s3 s4 s5 s6 s7 s8 s9 ++ ys).getD 15 0)) = s7 := hdr16 h7
  have e8 : bor .u16 (bshl .u16 (IntKind.u16.wrap ((enc11 s0 s1 s2 s3 s4 s5 s6 s7 s8 s9 ++ ys).getD 16 0)) 8) (IntKind.u16.wrap ((enc11 s0 s1 s2 s3 s4 s5 s6 s7 s8 s9 ++ ys).getD 17 0)) = s8 := hdr16 h8
  have e9 : bor .u16 (bshl .u16 (IntKind.u16.wrap ((enc11 s0 s1 s2 s3 s4 s5 s6 s7 s8 s9 ++ ys).getD 18 0)) 8) (IntKind.u16.wrap ((enc11 s0 s1 s2 s3 s4 s5 s6 s7 s8 s9 ++ ys).getD 19 0)) = s9 := hdr16 h9
  unfold dec11
  rw [e0, e1, e2, e3, e4, e5, e6, e7, e8, e9]

theorem encBytes (s0 s1 s2 s3 s4 s5 s6 s7 s8 s9 : Int) (h0 : 0 ≤ s0 ∧ s0 ≤ 65535) (h1 : 0 ≤ s1 ∧ s1 ≤ 65535) (h2 : 0 ≤ s2 ∧ s2 ≤ 4294967295) (h3 : 0 ≤ s3 ∧ s3 ≤ 4294967295) (h4 : 0 ≤ s4 ∧ s4 ≤ 255) (h5 : 0 ≤ s5 ∧ s5 ≤ 255) (h6 : 0 ≤ s6 ∧ s6 ≤ 255) (h7 : 0 ≤ s7 ∧ s7 ≤ 65535) (h8 : 0 ≤ s8 ∧ s8 ≤ 65535) (h9 : 0 ≤ s9 ∧ s9 ≤ 65535) (hin : (5 ≤ s4 ∧ s4 ≤ 15 ∧ s5 ≤ 7 ∧ s6 ≤ 63)) (ys : List Int) (hy : isBytes ys) : isBytes (enc11 s0 s1 s2 s3 s4 s5 s6 s7 s8 s9 ++ ys) := by
  intro x hx
  rcases List.mem_append.1 hx with hx | hx
  · simp only [enc11, List.mem_cons, List.not_mem_nil, or_false] at hx
    rcases hx with rfl | rfl | rfl | rfl | rfl | rfl | rfl | rfl | rfl | rfl | rfl | rfl | rfl | rfl | rfl | rfl | rfl | rfl | rfl | rfl <;> first | exact u8r _ | exact ⟨(eb12 (a := s4) (b := s5) (by omega) (by omega)).2.2.2.1, (eb12 (a := s4) (b := s5) (by omega) (by omega)).2.2.2.2⟩ | exact ⟨(eb13 (b := s5) (f := s6) (by omega) (by omega)).2.2.1, (eb13 (b := s5) (f := s6) (by omega) (by omega)).2.2.2⟩
  · exact hy x hx

theorem encFine (s0 s1 s2 s3 s4 s5 s6 s7 s8 s9 : Int) (h0 : 0 ≤ s0 ∧ s0 ≤ 65535) (h1 : 0 ≤ s1 ∧ s1 ≤ 65535) (h2 : 0 ≤ s2 ∧ s2 ≤ 4294967295) (h3 : 0 ≤ s3 ∧ s3 ≤ 4294967295) (h4 : 0 ≤ s4 ∧ s4 ≤ 255) (h5 : 0 ≤ s5 ∧ s5 ≤ 255) (h6 : 0 ≤ s6 ∧ s6 ≤ 255) (h7 : 0 ≤ s7 ∧ s7 ≤ 65535) (h8 : 0 ≤ s8 ∧ s8 ≤ 65535) (h9 : 0 ≤ s9 ∧ s9 ≤ 65535) (hin : (5 ≤ s4 ∧ s4 ≤ 15 ∧ s5 ≤ 7 ∧ s6 ≤ 63)) (ys : List Int) : ¬ (bshr .u8 ((enc11 s0 s1 s2 s3 s4 s5 s6 s7 s8 s9 ++ ys).getD 12 0) 4 < 5 ∨ band .u8 (bshr .u8 ((enc11 s0 s1 s2 s3 s4 s5 s6 s7 s8 s9 ++ ys).getD 12 0) 1) 7 ≠ 0) := by
  show ¬ (bshr .u8 (bor .u8 (bshl .u8 s4 4) (bshr .u8 s5 2)) 4 < 5 ∨ band .u8 (bshr .u8 (bor .u8 (bshl .u8 s4 4) (bshr .u8 s5 2)) 1) 7 ≠ 0)
  rw [(eb12 (a := s4) (b := s5) (by omega) (by omega)).1, (eb12 (a := s4) (b := s5) (by omega) (by omega)).2.2.1]
  omega

theorem DecEnc_ok (A : Option Addr) (c n : Nat) (ys : List Int) (s0 s1 s2 s3 s4 s5 s6 s7 s8 s9 : Int) (h0 : 0 ≤ s0 ∧ s0 ≤ 65535) (h1 : 0 ≤ s1 ∧ s1 ≤ 65535) (h2 : 0 ≤ s2 ∧ s2 ≤ 4294967295) (h3 : 0 ≤ s3 ∧ s3 ≤ 4294967295) (h4 : 0 ≤ s4 ∧ s4 ≤ 255) (h5 : 0 ≤ s5 ∧ s5 ≤ 255) (h6 : 0 ≤ s6 ∧ s6 ≤ 255) (h7 : 0 ≤ s7 ∧ s7 ≤ 65535) (h8 : 0 ≤ s8 ∧ s8 ≤ 65535) (h9 : 0 ≤ s9 ∧ s9 ≤ 65535) (hin : (5 ≤ s4 ∧ s4 ≤ 15 ∧ s5 ≤ 7 ∧ s6 ≤ 63)) (G : Mem) (hn : n = 20 + ys.length) (hb : rowAt (D.int .u8) G A (enc11 s0 s1 s2 s3 s4 s5 s6 s7 s8 s9 ++ ys)) (hle : n ≤ c) : CallsG Try.prog 38 [.slice A n c] G (fun _ v _ => v = .tuple #[.agg #[.int .u16 s0, .int .u16 s1, .int .u32 s2, .int .u32 s3, .int .u8 s4, .int .u8 s5, .int .u8 s6, .int .u16 s7, .int .u16 s8, .int .u16 s9], .int .i64 0]) := by
  have hl : (enc11 s0 s1 s2 s3 s4 s5 s6 s7 s8 s9 ++ ys).length = n := by rw [hn, List.length_append]; rfl
  subst hl
  have h := Dec11_ok A c (enc11 s0 s1 s2 s3 s4 s5 s6 s7 s8 s9 ++ ys) G hb hle
  refine h.mono fun _ v _ _ hv => ?_
  rw [hv.2.2.1 ⟨by omega, encFine s0 s1 s2 s3 s4 s5 s6 s7 s8 s9 h0 h1 h2 h3 h4 h5 h6 h7 h8 h9 hin ys⟩, decEnc s0 s1 s2 s3 s4 s5 s6 s7 s8 s9 h0 h1 h2 h3 h4 h5 h6 h7 h8 h9 hin ys]

theorem decIn {b : List Int} (hby : isBytes b) (h20 : 20 ≤ b.length) (hg : ¬ (bshr .u8 (b.getD 12 0) 4 < 5 ∨ band .u8 (bshr .u8 (b.getD 12 0) 1) 7 ≠ 0)) : 5 ≤ bshr .u8 (b.getD 12 0) 4 ∧ bshr .u8 (b.getD 12 0) 4 ≤ 15 ∧ bor .u8 (bshl .u8 (band .u8 (b.getD 12 0) 1) 2) (bshr .u8 (b.getD 13 0) 6) ≤ 7 ∧ band .u8 (b.getD 13 0) 63 ≤ 63 := by
  have p := db12 (bytes_at hby 12 (by omega))
  have q := db13 (bytes_at hby 13 (by omega))
  have r := dmn ⟨p.2.2.1, p.2.2.2.1⟩ ⟨q.1, q.2.1⟩
  refine ⟨?_, p.2.1, r.2.2.2, q.2.2.2.1⟩
  by_cases h : bshr .u8 (b.getD 12 0) 4 < 5
  · exact absurd (.inl h) hg
  · omega

theorem encDec {b : List Int} (hby : isBytes b) (h20 : 20 ≤ b.length) (hg : ¬ (bshr .u8 (b.getD 12 0) 4 < 5 ∨ band .u8 (bshr .u8 (b.getD 12 0) 1) 7 ≠ 0)) : enc11 (bor .u16 (bshl .u16 (IntKind.u16.wrap (b.getD 0 0)) 8) (IntKind.u16.wrap (b.getD 1 0))) (bor .u16 (bshl .u16 (IntKind.u16.wrap (b.getD 2 0)) 8) (IntKind.u16.wrap (b.getD 3 0))) (bor .u32 (bshl .u32 (IntKind.u32.wrap (bor .u16 (bshl .u16 (IntKind.u16.wrap (b.getD 4 0)) 8) (IntKind.u16.wrap (b.getD 5 0)))) 16) (IntKind.u32.wrap (bor .u16 (bshl .u16 (IntKind.u16.wrap (b.getD 6 0)) 8) (IntKind.u16.wrap (b.getD 7 0))))) (bor .u32 (bshl .u32 (IntKind.u32.wrap (bor .u16 (bshl .u16 (IntKind.u16.wrap (b.getD 8 0)) 8) (IntKind.u16.wrap (b.getD 9 0)))) 16) (IntKind.u32.wrap (bor .u16 (bshl .u16 (IntKind.u16.wrap (b.getD 10 0)) 8) (IntKind.u16.wrap (b.getD 11 0))))) (bshr .u8 (b.getD 12 0) 4) (bor .u8 (bshl .u8 (band .u8 (b.getD 12 0) 1) 2) (bshr .u8 (b.getD 13 0) 6)) (band .u8 (b.getD 13 0) 63) (bor .u16 (bshl .u16 (IntKind.u16.wrap (b.getD 14 0)) 8) (IntKind.u16.wrap (b.getD 15 0))) (bor .u16 (bshl .u16 (IntKind.u16.wrap (b.getD 16 0)) 8) (IntKind.u16.wrap (b.getD 17 0))) (bor .u16 (bshl .u16 (IntKind.u16.wrap (b.getD 18 0)) 8) (IntKind.u16.wrap (b.getD 19 0))) = (b.take 20).drop 0 := by
  have g : ∀ j, j < b.length → 0 ≤ b.getD j 0 ∧ b.getD j 0 ≤ 255 := fun j hj => bytes_at hby j hj
  have p := db12 (g 12 (by omega))
  have q := db13 (g 13 (by omega))
  have r := dmn ⟨p.2.2.1, p.2.2.2.1⟩ ⟨q.1, q.2.1⟩
  have hz : band .u8 (bshr .u8 (b.getD 12 0) 1) 7 = 0 := by
    by_cases h : band .u8 (bshr .u8 (b.getD 12 0) 1) 7 = 0
    · exact h
    · exact absurd (.inr h) hg
  have ht : (b.take 20).drop 0 = (List.range 20).map (fun i => b.getD i 0) := by
    rw [List.drop_zero]
    apply List.ext_getElem
    · simp; omega
    · intro j p1 p2
      have hj : j < b.length := by simp at p1; omega
      simp [List.getD_eq_getElem?_getD, List.getElem?_eq_getElem hj]
  rw [ht]
  show _ = [b.getD 0 0, b.getD 1 0, b.getD 2 0, b.getD 3 0, b.getD 4 0, b.getD 5 0, b.getD 6 0, b.getD 7 0, b.getD 8 0, b.getD 9 0, b.getD 10 0, b.getD 11 0, b.getD 12 0, b.getD 13 0, b.getD 14 0, b.getD 15 0, b.getD 16 0, b.getD 17 0, b.getD 18 0, b.getD 19 0]
  unfold enc11
  rw [(lay16 (g 0 (by omega)) (g 1 (by omega))).1, (lay16 (g 0 (by omega)) (g 1 (by omega))).2, (lay16 (g 2 (by omega)) (g 3 (by omega))).1, (lay16 (g 2 (by omega)) (g 3 (by omega))).2, (lay16 (g 14 (by omega)) (g 15 (by omega))).1, (lay16 (g 14 (by omega)) (g 15 (by omega))).2, (lay16 (g 16 (by omega)) (g 17 (by omega))).1, (lay16 (g 16 (by omega)) (g 17 (by omega))).2, (lay16 (g 18 (by omega)) (g 19 (by omega))).1, (lay16 (g 18 (by omega)) (g 19 (by omega))).2, (lay32 (g 4 (by omega)) (g 5 (by omega)) (g 6 (by omega)) (g 7 (by omega)) _ rfl).1, (lay32 (g 4 (by omega)) (g 5 (by omega)) (g 6 (by omega)) (g 7 (by omega)) _ rfl).2.1, (lay32 (g 4 (by omega)) (g 5 (by omega)) (g 6 (by omega)) (g 7 (by omega)) _ rfl).2.2.1, (lay32 (g 4 (by omega)) (g 5 (by omega)) (g 6 (by omega)) (g 7 (by omega)) _ rfl).2.2.2, (lay32 (g 8 (by omega)) (g 9 (by omega)) (g 10 (by omega)) (g 11 (by omega)) _ rfl).1, (lay32 (g 8 (by omega)) (g 9 (by omega)) (g 10 (by omega)) (g 11 (by omega)) _ rfl).2.1, (lay32 (g 8 (by omega)) (g 9 (by omega)) (g 10 (by omega)) (g 11 (by omega)) _ rfl).2.2.1, (lay32 (g 8 (by omega)) (g 9 (by omega)) (g 10 (by omega)) (g 11 (by omega)) _ rfl).2.2.2, r.1, r.2.1, p.2.2.2.2 hz, q.2.2.2.2]

/-- leat/leatlaw11.FlagsBack -/
noncomputable def B7 : Code := bodyOf Try.f7
set_option maxHeartbeats 4000000 in
theorem FlagsBack_in (s0 s1 s2 s3 s4 s5 s6 s7 s8 s9 : Int) (h0 : 0 ≤ s0 ∧ s0 ≤ 65535) (h1 : 0 ≤ s1 ∧ s1 ≤ 65535) (h2 : 0 ≤ s2 ∧ s2 ≤ 4294967295) (h3 : 0 ≤ s3 ∧ s3 ≤ 4294967295) (h4 : 0 ≤ s4 ∧ s4 ≤ 255) (h5 : 0 ≤ s5 ∧ s5 ≤ 255) (h6 : 0 ≤ s6 ∧ s6 ≤ 255) (h7 : 0 ≤ s7 ∧ s7 ≤ 65535) (h8 : 0 ≤ s8 ∧ s8 ≤ 65535) (h9 : 0 ≤ s9 ∧ s9 ≤ 65535) (A : Option Addr) (c : Nat) (b : List Int) (G : Mem) (hb : rowAt (D.int .u8) G A b) (hle : b.length ≤ c) (hmx : c ≤ maxLen) (hin : (5 ≤ s4 ∧ s4 ≤ 15 ∧ s5 ≤ 7 ∧ s6 ≤ 63)) : CallsG Try.prog 7 [.agg #[.int .u16 s0, .int .u16 s1, .int .u32 s2, .int .u32 s3, .int .u8 s4, .int .u8 s5, .int .u8 s6, .int .u16 s7, .int .u16 s8, .int .u16 s9], .slice A b.length c] G (fun _ v rows => v = .bool true ∧ rows = []) := by
  simp only [maxLen] at hmx
  refine CallsG.enter Try.func7 rfl rfl ?_
  intro w
  refine X.run 12 [1, 2, 4, 13, 16] [2] (.ops (aA B7 [1, 0]) (oA B7 [1, 0] 4 :: lA B7 [1, 0] 5)) [.seq (cA B7 [1, 1])] ⟨67, [(1, .v (.slice A b.length c)), (2, .own 2 0), (4, .v (.bool false)), (13, .v (.slice A b.length c)), (16, .v (.int .i64 (imin ((b.length : Nat) : Int) 60)))], [(2, ⟨31, [.v (.int .u16 s0), .v (.int .u16 s1), .v (.int .u32 s2), .v (.int .u32 s3), .v (.int .u8 s4), .v (.int .u8 s5), .v (.int .u8 s6), .v (.int .u16 s7), .v (.int .u16 s8), .v (.int .u16 s9)]⟩)]⟩ (by kernel_rfl) ?_
  refine X.known 16 (y := .v (.int .i64 (min ((b.length : Nat) : Int) 60))) rfl (congrArg (fun z_ => AV.v (.int .i64 z_)) (by simp only [imin_eq, imax_eq])) ?_
  have hlo1 : 0 ≤ (min ((b.length : Nat) : Int) 60).toNat := by omega
  have hhi1 : (min ((b.length : Nat) : Int) 60).toNat ≤ b.length := by omega
  refine X.cut (t := 22) (e := 5) (sz := 1) (n := b.length) (c := c) (A := A) (x := .tmp 13) (l := none) (h := (some (.tmp 16))) (lv := none) (hv := (some (.int .i64 (min ((b.length : Nat) : Int) 60)))) 0 ((min ((b.length : Nat) : Int) 60).toNat) (by kernel_rfl) (by kernel_rfl) (by kernel_rfl) (by kernel_rfl) (by kernel_rfl) (by kernel_rfl) (by kernel_rfl) (rfl) (⟨_, _, rfl, by omega, rfl⟩) hlo1 (Nat.le_trans hhi1 hle) ?_
  obtain ⟨A1, hA1⟩ : ∃ A_, cutA A c 0 1 = A_ := ⟨_, rfl⟩
  obtain ⟨ys1, hys1⟩ : ∃ l_, (b.take ((min ((b.length : Nat) : Int) 60).toNat)).drop 0 = l_ := ⟨_, rfl⟩
  have hr1 : rowAt (D.int .u8) G (cutA A c 0 1) ((b.take ((min ((b.length : Nat) : Int) 60).toNat)).drop 0) := rowAt_cut hb hlo1 hhi1 hle
  have hl1 : ((min ((b.length : Nat) : Int) 60).toNat) - 0 = ys1.length := by rw [← hys1, List.length_drop, List.length_take]; omega
  have hc1 : ys1.length ≤ c - 0 := by omega
  have hm1 : c - 0 ≤ maxLen := Nat.le_trans (Nat.sub_le _ _) hmx
  rw [hys1, show cutA A c 0 _ = A1 from hA1] at hr1
  rw [hA1, hl1]
  refine X.run 7 [1, 2, 4, 19] [2] (.ops (aA B7 [1, 1, 0, 0]) (oA B7 [1, 1, 0, 0] 1 :: lA B7 [1, 1, 0, 0] 2)) [.seq (cA B7 [1, 1, 0, 1]), .seq (cA B7 [1, 1, 1])] ⟨67, [(1, .v (.slice A1 ys1.length (c - 0))), (2, .own 2 0), (4, .v (.bool false)), (19, .v (.agg #[.int .u16 s0, .int .u16 s1, .int .u32 s2, .int .u32 s3, .int .u8 s4, .int .u8 s5, .int .u8 s6, .int .u16 s7, .int .u16 s8, .int .u16 s9]))], [(2, ⟨31, [.v (.int .u16 s0), .v (.int .u16 s1), .v (.int .u32 s2), .v (.int .u32 s3), .v (.int .u8 s4), .v (.int .u8 s5), .v (.int .u8 s6), .v (.int .u16 s7), .v (.int .u16 s8), .v (.int .u16 s9)]⟩)]⟩ (by kernel_rfl) ?_
  refine X.callG (f := 32) (l := [.v (.agg #[.int .u16 s0, .int .u16 s1, .int .u32 s2, .int .u32 s3, .int .u8 s4, .int .u8 s5, .int .u8 s6, .int .u16 s7, .int .u16 s8, .int .u16 s9])]) [.agg #[.int .u16 s0, .int .u16 s1, .int .u32 s2, .int .u32 s3, .int .u8 s4, .int .u8 s5, .int .u8 s6, .int .u16 s7, .int .u16 s8, .int .u16 s9]] 220 (by kernel_rfl) (by kernel_rfl) (by kernel_rfl) (Enc11_ok s0 s1 s2 s3 s4 s5 s6 s7 s8 s9 _) ?_
  rintro v2 G2 rows2 hG2 ⟨he2, hx2⟩
  replace hb := hb.mono hG2.le
  replace hr1 := hr1.mono hG2.le
  obtain ⟨A2, c2, rfl, hc2, rfl⟩ := he2 hin
  clear he2 hx2
  refine X.asR (R' := [(220, ⟨5, 1, .slice A2 20 c2, 20, [.int .u8 (IntKind.u8.wrap (bshr .u32 (IntKind.u32.wrap s0) 8)), .int .u8 (IntKind.u8.wrap (bshr .u32 (IntKind.u32.wrap s0) 0)), .int .u8 (IntKind.u8.wrap (bshr .u32 (IntKind.u32.wrap s1) 8)), .int .u8 (IntKind.u8.wrap (bshr .u32 (IntKind.u32.wrap s1) 0)), .int .u8 (IntKind.u8.wrap (bshr .u32 s2 24)), .int .u8 (IntKind.u8.wrap (bshr .u32 s2 16)), .int .u8 (IntKind.u8.wrap (bshr .u32 s2 8)), .int .u8 (IntKind.u8.wrap (bshr .u32 s2 0)), .int .u8 (IntKind.u8.wrap (bshr .u32 s3 24)), .int .u8 (IntKind.u8.wrap (bshr .u32 s3 16)), .int .u8 (IntKind.u8.wrap (bshr .u32 s3 8)), .int .u8 (IntKind.u8.wrap (bshr .u32 s3 0)), .int .u8 (bor .u8 (bshl .u8 s4 4) (bshr .u8 s5 2)), .int .u8 (bor .u8 (bshl .u8 s5 6) s6), .int .u8 (IntKind.u8.wrap (bshr .u32 (IntKind.u32.wrap s7) 8)), .int .u8 (IntKind.u8.wrap (bshr .u32 (IntKind.u32.wrap s7) 0)), .int .u8 (IntKind.u8.wrap (bshr .u32 (IntKind.u32.wrap s8) 8)), .int .u8 (IntKind.u8.wrap (bshr .u32 (IntKind.u32.wrap s8) 0)), .int .u8 (IntKind.u8.wrap (bshr .u32 (IntKind.u32.wrap s9) 8)), .int .u8 (IntKind.u8.wrap (bshr .u32 (IntKind.u32.wrap s9) 0))]⟩)]) rfl ?_
  refine X.run 18 [1, 2, 4, 26, 27] [2] (.ops (aA B7 [1, 1, 0, 1, 1, 0, 0]) (oA B7 [1, 1, 0, 1, 1, 0, 0] 2 :: lA B7 [1, 1, 0, 1, 1, 0, 0] 3)) [.seq (cA B7 [1, 1, 0, 1, 1, 0, 1]), .seq (cA B7 [1, 1, 1])] ⟨67, [(1, .v (.slice A1 ys1.length (c - 0))), (2, .own 2 0), (4, .v (.bool false)), (26, .v (.slice A2 20 c2)), (27, .v (.slice A1 ys1.length (c - 0)))], [(2, ⟨31, [.v (.int .u16 s0), .v (.int .u16 s1), .v (.int .u32 s2), .v (.int .u32 s3), .v (.int .u8 s4), .v (.int .u8 s5), .v (.int .u8 s6), .v (.int .u16 s7), .v (.int .u16 s8), .v (.int .u16 s9)]⟩)]⟩ (by kernel_rfl) ?_
  have hyb := row_bytes hr1
  refine X.appendW 220 ⟨5, 1, .slice A2 20 c2, 20, [.int .u8 (IntKind.u8.wrap (bshr .u32 (IntKind.u32.wrap s0) 8)), .int .u8 (IntKind.u8.wrap (bshr .u32 (IntKind.u32.wrap s0) 0)), .int .u8 (IntKind.u8.wrap (bshr .u32 (IntKind.u32.wrap s1) 8)), .int .u8 (IntKind.u8.wrap (bshr .u32 (IntKind.u32.wrap s1) 0)), .int .u8 (IntKind.u8.wrap (bshr .u32 s2 24)), .int .u8 (IntKind.u8.wrap (bshr .u32 s2 16)), .int .u8 (IntKind.u8.wrap (bshr .u32 s2 8)), .int .u8 (IntKind.u8.wrap (bshr .u32 s2 0)), .int .u8 (IntKind.u8.wrap (bshr .u32 s3 24)), .int .u8 (IntKind.u8.wrap (bshr .u32 s3 16)), .int .u8 (IntKind.u8.wrap (bshr .u32 s3 8)), .int .u8 (IntKind.u8.wrap (bshr .u32 s3 0)), .int .u8 (bor .u8 (bshl .u8 s4 4) (bshr .u8 s5 2)), .int .u8 (bor .u8 (bshl .u8 s5 6) s6), .int .u8 (IntKind.u8.wrap (bshr .u32 (IntKind.u32.wrap s7) 8)), .int .u8 (IntKind.u8.wrap (bshr .u32 (IntKind.u32.wrap s7) 0)), .int .u8 (IntKind.u8.wrap (bshr .u32 (IntKind.u32.wrap s8) 8)), .int .u8 (IntKind.u8.wrap (bshr .u32 (IntKind.u32.wrap s8) 0)), .int .u8 (IntKind.u8.wrap (bshr .u32 (IntKind.u32.wrap s9) 8)), .int .u8 (IntKind.u8.wrap (bshr .u32 (IntKind.u32.wrap s9) 0))]⟩ 22 1 (.int .u8 0) (x := .tmp 26) (y := .tmp 27) (n := 20) (c := c2) (m := ys1.length) (c2 := c - 0) (A := A2) (B := A1) (news := ys1.map (Value.int .u8)) (by kernel_rfl) (by kernel_rfl) (by kernel_rfl) (by kernel_rfl) (by kernel_rfl) rfl (Nat.succ_pos _) (by kernel_rfl) (.inl rfl) rfl rfl (by simp) (at_ints [(220, ⟨5, 1, .slice A2 20 c2, 20, [.int .u8 (IntKind.u8.wrap (bshr .u32 (IntKind.u32.wrap s0) 8)), .int .u8 (IntKind.u8.wrap (bshr .u32 (IntKind.u32.wrap s0) 0)), .int .u8 (IntKind.u8.wrap (bshr .u32 (IntKind.u32.wrap s1) 8)), .int .u8 (IntKind.u8.wrap (bshr .u32 (IntKind.u32.wrap s1) 0)), .int .u8 (IntKind.u8.wrap (bshr .u32 s2 24)), .int .u8 (IntKind.u8.wrap (bshr .u32 s2 16)), .int .u8 (IntKind.u8.wrap (bshr .u32 s2 8)), .int .u8 (IntKind.u8.wrap (bshr .u32 s2 0)), .int .u8 (IntKind.u8.wrap (bshr .u32 s3 24)), .int .u8 (IntKind.u8.wrap (bshr .u32 s3 16)), .int .u8 (IntKind.u8.wrap (bshr .u32 s3 8)), .int .u8 (IntKind.u8.wrap (bshr .u32 s3 0)), .int .u8 (bor .u8 (bshl .u8 s4 4) (bshr .u8 s5 2)), .int .u8 (bor .u8 (bshl .u8 s5 6) s6), .int .u8 (IntKind.u8.wrap (bshr .u32 (IntKind.u32.wrap s7) 8)), .int .u8 (IntKind.u8.wrap (bshr .u32 (IntKind.u32.wrap s7) 0)), .int .u8 (IntKind.u8.wrap (bshr .u32 (IntKind.u32.wrap s8) 8)), .int .u8 (IntKind.u8.wrap (bshr .u32 (IntKind.u32.wrap s8) 0)), .int .u8 (IntKind.u8.wrap (bshr .u32 (IntKind.u32.wrap s9) 8)), .int .u8 (IntKind.u8.wrap (bshr .u32 (IntKind.u32.wrap s9) 0))]⟩)] hr1) (fun _ _ e => rowAt.none hr1 e) ones_ints (by omega) (by decide) ?_
  intro A3 c3 hc3
  refine X.tellR [220] (R' := [(220, ⟨5, 1, .slice A3 (20 + ys1.length) c3, 20 + ys1.length, [.int .u8 (IntKind.u8.wrap (bshr .u32 (IntKind.u32.wrap s0) 8)), .int .u8 (IntKind.u8.wrap (bshr .u32 (IntKind.u32.wrap s0) 0)), .int .u8 (IntKind.u8.wrap (bshr .u32 (IntKind.u32.wrap s1) 8)), .int .u8 (IntKind.u8.wrap (bshr .u32 (IntKind.u32.wrap s1) 0)), .int .u8 (IntKind.u8.wrap (bshr .u32 s2 24)), .int .u8 (IntKind.u8.wrap (bshr .u32 s2 16)), .int .u8 (IntKind.u8.wrap (bshr .u32 s2 8)), .int .u8 (IntKind.u8.wrap (bshr .u32 s2 0)), .int .u8 (IntKind.u8.wrap (bshr .u32 s3 24)), .int .u8 (IntKind.u8.wrap (bshr .u32 s3 16)), .int .u8 (IntKind.u8.wrap (bshr .u32 s3 8)), .int .u8 (IntKind.u8.wrap (bshr .u32 s3 0)), .int .u8 (bor .u8 (bshl .u8 s4 4) (bshr .u8 s5 2)), .int .u8 (bor .u8 (bshl .u8 s5 6) s6), .int .u8 (IntKind.u8.wrap (bshr .u32 (IntKind.u32.wrap s7) 8)), .int .u8 (IntKind.u8.wrap (bshr .u32 (IntKind.u32.wrap s7) 0)), .int .u8 (IntKind.u8.wrap (bshr .u32 (IntKind.u32.wrap s8) 8)), .int .u8 (IntKind.u8.wrap (bshr .u32 (IntKind.u32.wrap s8) 0)), .int .u8 (IntKind.u8.wrap (bshr .u32 (IntKind.u32.wrap s9) 8)), .int .u8 (IntKind.u8.wrap (bshr .u32 (IntKind.u32.wrap s9) 0))] ++ (ys1.map (Value.int .u8))⟩)]) rfl ?_
  refine X.run 0 [1, 2, 4, 28] [2] (.ops (aA B7 [1, 1, 0, 1, 1, 0, 0]) (oA B7 [1, 1, 0, 1, 1, 0, 0] 3 :: lA B7 [1, 1, 0, 1, 1, 0, 0] 4)) [.seq (cA B7 [1, 1, 0, 1, 1, 0, 1]), .seq (cA B7 [1, 1, 1])] ⟨67, [(1, .v (.slice A1 ys1.length (c - 0))), (2, .own 2 0), (4, .v (.bool false)), (28, .v (.slice A3 (20 + ys1.length) c3))], [(2, ⟨31, [.v (.int .u16 s0), .v (.int .u16 s1), .v (.int .u32 s2), .v (.int .u32 s3), .v (.int .u8 s4), .v (.int .u8 s5), .v (.int .u8 s6), .v (.int .u16 s7), .v (.int .u16 s8), .v (.int .u16 s9)]⟩)]⟩ (by kernel_rfl) ?_
  refine X.callV (f := 38) (l := [.v (.slice A3 (20 + ys1.length) c3)]) (Q := fun v_ => v_ = .tuple #[.agg #[.int .u16 s0, .int .u16 s1, .int .u32 s2, .int .u32 s3, .int .u8 s4, .int .u8 s5, .int .u8 s6, .int .u16 s7, .int .u16 s8, .int .u16 s9], .int .i64 0]) [.slice A3 (20 + ys1.length) c3] (by kernel_rfl) (by kernel_rfl) (by kernel_rfl) (fun G1_ hl_ hr_ => DecEnc_ok _ _ _ ys1 s0 s1 s2 s3 s4 s5 s6 s7 s8 s9 h0 h1 h2 h3 h4 h5 h6 h7 h8 h9 hin G1_ rfl (rowLit (hr_ 220 _ rfl) (reps_ints (encBytes s0 s1 s2 s3 s4 s5 s6 s7 s8 s9 h0 h1 h2 h3 h4 h5 h6 h7 h8 h9 hin ys1 hyb)) (by decide)) (by omega)) ?_
  rintro _ rfl
  refine X.run 12 [1, 4, 8, 32, 33] [] (.ops (aA B7 [1, 1, 0, 1, 1, 0, 1, 0]) (oA B7 [1, 1, 0, 1, 1, 0, 1, 0] 2 :: lA B7 [1, 1, 0, 1, 1, 0, 1, 0] 3)) [.seq (cA B7 [1, 1, 0, 1, 1, 0, 1, 1]), .seq (cA B7 [1, 1, 1])] ⟨67, [(1, .v (.slice A1 ys1.length (c - 0))), (4, .v (.bool false)), (8, .v (.int .i64 0)), (32, .v (.agg #[.int .u16 s0, .int .u16 s1, .int .u32 s2, .int .u32 s3, .int .u8 s4, .int .u8 s5, .int .u8 s6, .int .u16 s7, .int .u16 s8, .int .u16 s9])), (33, .v (.agg #[.int .u16 s0, .int .u16 s1, .int .u32 s2, .int .u32 s3, .int .u8 s4, .int .u8 s5, .int .u8 s6, .int .u16 s7, .int .u16 s8, .int .u16 s9]))], []⟩ (by kernel_rfl) ?_
  refine X.neAgg (t := 31) (t' := 31) (x := .tmp 32) (y := .tmp 33) (xs := #[.int .u16 s0, .int .u16 s1, .int .u32 s2, .int .u32 s3, .int .u8 s4, .int .u8 s5, .int .u8 s6, .int .u16 s7, .int .u16 s8, .int .u16 s9]) (ys := #[.int .u16 s0, .int .u16 s1, .int .u32 s2, .int .u32 s3, .int .u8 s4, .int .u8 s5, .int .u8 s6, .int .u16 s7, .int .u16 s8, .int .u16 s9]) (fs := fsOf 31) (b := ((s0 == s0) && ((s1 == s1) && ((s2 == s2) && ((s3 == s3) && ((s4 == s4) && ((s5 == s5) && ((s6 == s6) && ((s7 == s7) && ((s8 == s8) && ((s9 == s9) && true))))))))))) (by kernel_rfl) (by kernel_rfl) (by kernel_rfl) (by kernel_rfl) (by kernel_rfl) (by kernel_rfl) (by kernel_rfl) (by kernel_rfl) ?_
  refine X.known 34 (y := .v (.bool false)) rfl (congrArg (fun z_ => AV.v (.bool z_)) (by simp)) ?_
  refine X.run 13 [1, 4, 40] [] (.ops (aA B7 [1, 1, 1, 0, 0]) (oA B7 [1, 1, 1, 0, 0] 1 :: lA B7 [1, 1, 1, 0, 0] 2)) [.seq (cA B7 [1, 1, 1, 0, 1]), .seq (cA B7 [1, 1, 1, 1])] ⟨67, [(1, .v (.slice A1 ys1.length (c - 0))), (4, .v (.bool false)), (40, .v (.slice A1 ys1.length (c - 0)))], []⟩ (by kernel_rfl) ?_
  refine X.callG (f := 38) (l := [.v (.slice A1 ys1.length (c - 0))]) [.slice A1 ys1.length (c - 0)] 0 (by kernel_rfl) (by kernel_rfl) (by kernel_rfl) (Dec11_ok _ _ ys1 _ hr1 hc1) ?_
  rintro v4 G4 rows4 hG4 ⟨ea4, eb4, ec4, rfl⟩
  replace hb := hb.mono hG4.le
  replace hr1 := hr1.mono hG4.le
  have hby4 := row_bytes hr1
  rcases (show ys1.length < 20 ∨ (20 ≤ ys1.length ∧ (bshr .u8 (ys1.getD 12 0) 4 < 5 ∨ band .u8 (bshr .u8 (ys1.getD 12 0) 1) 7 ≠ 0)) ∨ (20 ≤ ys1.length ∧ ¬ (bshr .u8 (ys1.getD 12 0) 4 < 5 ∨ band .u8 (bshr .u8 (ys1.getD 12 0) 1) 7 ≠ 0)) by by_cases h1 : ys1.length < 20; exact .inl h1; by_cases h2 : (bshr .u8 (ys1.getD 12 0) 4 < 5 ∨ band .u8 (bshr .u8 (ys1.getD 12 0) 1) 7 ≠ 0); exact .inr (.inl ⟨by omega, h2⟩); exact .inr (.inr ⟨by omega, h2⟩)) with hc4 | hc4 | hc4
  · -- case 0
    obtain rfl := ea4 hc4
    refine X.run 19 [4] [] (.ops (aA B7 [1, 1, 1, 1, 0]) (oA B7 [1, 1, 1, 1, 0] 0 :: lA B7 [1, 1, 1, 1, 0] 1)) [.seq (cA B7 [1, 1, 1, 1, 1])] ⟨67, [(4, .v (.bool false))], []⟩ (by kernel_rfl) ?_
    refine X.callG (f := 34) (l := []) [] 0 (by kernel_rfl) (by kernel_rfl) (by kernel_rfl) (works11_ok _) ?_
    rintro v5 G5 rows5 hG5 ⟨rfl, rfl⟩
    replace hb := hb.mono hG5.le
    replace hr1 := hr1.mono hG5.le
    refine X.run 4 [4] [] (.ex .ret) [] ⟨67, [(4, .v (.bool true))], []⟩ (by kernel_rfl) ?_
    refine doneG (.inl rfl) [.bool true] [] (by kernel_rfl) rfl rfl (((hG2.trans hG4).trans hG5)) ?_
    -- end 1 (0)
    exact ⟨rfl, rfl⟩
  · -- case 1
    obtain rfl := eb4 hc4
    refine X.run 19 [4] [] (.ops (aA B7 [1, 1, 1, 1, 0]) (oA B7 [1, 1, 1, 1, 0] 0 :: lA B7 [1, 1, 1, 1, 0] 1)) [.seq (cA B7 [1, 1, 1, 1, 1])] ⟨67, [(4, .v (.bool false))], []⟩ (by kernel_rfl) ?_
    refine X.callG (f := 34) (l := []) [] 0 (by kernel_rfl) (by kernel_rfl) (by kernel_rfl) (works11_ok _) ?_
    rintro v6 G6 rows6 hG6 ⟨rfl, rfl⟩
    replace hb := hb.mono hG6.le
    replace hr1 := hr1.mono hG6.le
    refine X.run 4 [4] [] (.ex .ret) [] ⟨67, [(4, .v (.bool true))], []⟩ (by kernel_rfl) ?_
    refine doneG (.inl rfl) [.bool true] [] (by kernel_rfl) rfl rfl (((hG2.trans hG4).trans hG6)) ?_
    -- end 2 (1)
    exact ⟨rfl, rfl⟩
  · -- case 2
    obtain rfl := ec4 hc4
    refine X.run 18 [1, 4, 47] [] (.ops (aA B7 [1, 1, 1, 0, 1, 1, 0, 0]) (oA B7 [1, 1, 1, 0, 1, 1, 0, 0] 1 :: lA B7 [1, 1, 1, 0, 1, 1, 0, 0] 2)) [.seq (cA B7 [1, 1, 1, 0, 1, 1, 0, 1]), .seq (cA B7 [1, 1, 1, 1])] ⟨67, [(1, .v (.slice A1 ys1.length (c - 0))), (4, .v (.bool false)), (47, .v (.agg #[.int .u16 (bor .u16 (bshl .u16 (IntKind.u16.wrap (ys1.getD 0 0)) 8) (IntKind.u16.wrap (ys1.getD 1 0))), .int .u16 (bor .u16 (bshl .u16 (IntKind.u16.wrap (ys1.getD 2 0)) 8) (IntKind.u16.wrap (ys1.getD 3 0))), .int .u32 (bor .u32 (bshl .u32 (IntKind.u32.wrap (bor .u16 (bshl .u16 (IntKind.u16.wrap (ys1.getD 4 0)) 8) (IntKind.u16.wrap (ys1.getD 5 0)))) 16) (IntKind.u32.wrap (bor .u16 (bshl .u16 (IntKind.u16.wrap (ys1.getD 6 0)) 8) (IntKind.u16.wrap (ys1.getD 7 0))))), .int .u32 (bor .u32 (bshl .u32 (IntKind.u32.wrap (bor .u16 (bshl .u16 (IntKind.u16.wrap (ys1.getD 8 0)) 8) (IntKind.u16.wrap (ys1.getD 9 0)))) 16) (IntKind.u32.wrap (bor .u16 (bshl .u16 (IntKind.u16.wrap (ys1.getD 10 0)) 8) (IntKind.u16.wrap (ys1.getD 11 0))))), .int .u8 (bshr .u8 (ys1.getD 12 0) 4), .int .u8 (bor .u8 (bshl .u8 (band .u8 (ys1.getD 12 0) 1) 2) (bshr .u8 (ys1.getD 13 0) 6)), .int .u8 (band .u8 (ys1.getD 13 0) 63), .int .u16 (bor .u16 (bshl .u16 (IntKind.u16.wrap (ys1.getD 14 0)) 8) (IntKind.u16.wrap (ys1.getD 15 0))), .int .u16 (bor .u16 (bshl .u16 (IntKind.u16.wrap (ys1.getD 16 0)) 8) (IntKind.u16.wrap (ys1.getD 17 0))), .int .u16 (bor .u16 (bshl .u16 (IntKind.u16.wrap (ys1.getD 18 0)) 8) (IntKind.u16.wrap (ys1.getD 19 0)))]))], []⟩ (by kernel_rfl) ?_
    refine X.callG (f := 32) (l := [.v (.agg #[.int .u16 (bor .u16 (bshl .u16 (IntKind.u16.wrap (ys1.getD 0 0)) 8) (IntKind.u16.wrap (ys1.getD 1 0))), .int .u16 (bor .u16 (bshl .u16 (IntKind.u16.wrap (ys1.getD 2 0)) 8) (IntKind.u16.wrap (ys1.getD 3 0))), .int .u32 (bor .u32 (bshl .u32 (IntKind.u32.wrap (bor .u16 (bshl .u16 (IntKind.u16.wrap (ys1.getD 4 0)) 8) (IntKind.u16.wrap (ys1.getD 5 0)))) 16) (IntKind.u32.wrap (bor .u16 (bshl .u16 (IntKind.u16.wrap (ys1.getD 6 0)) 8) (IntKind.u16.wrap (ys1.getD 7 0))))), .int .u32 (bor .u32 (bshl .u32 (IntKind.u32.wrap (bor .u16 (bshl .u16 (IntKind.u16.wrap (ys1.getD 8 0)) 8) (IntKind.u16.wrap (ys1.getD 9 0)))) 16) (IntKind.u32.wrap (bor .u16 (bshl .u16 (IntKind.u16.wrap (ys1.getD 10 0)) 8) (IntKind.u16.wrap (ys1.getD 11 0))))), .int .u8 (bshr .u8 (ys1.getD 12 0) 4), .int .u8 (bor .u8 (bshl .u8 (band .u8 (ys1.getD 12 0) 1) 2) (bshr .u8 (ys1.getD 13 0) 6)), .int .u8 (band .u8 (ys1.getD 13 0) 63), .int .u16 (bor .u16 (bshl .u16 (IntKind.u16.wrap (ys1.getD 14 0)) 8) (IntKind.u16.wrap (ys1.getD 15 0))), .int .u16 (bor .u16 (bshl .u16 (IntKind.u16.wrap (ys1.getD 16 0)) 8) (IntKind.u16.wrap (ys1.getD 17 0))), .int .u16 (bor .u16 (bshl .u16 (IntKind.u16.wrap (ys1.getD 18 0)) 8) (IntKind.u16.wrap (ys1.getD 19 0)))])]) [.agg #[.int .u16 (bor .u16 (bshl .u16 (IntKind.u16.wrap (ys1.getD 0 0)) 8) (IntKind.u16.wrap (ys1.getD 1 0))), .int .u16 (bor .u16 (bshl .u16 (IntKind.u16.wrap (ys1.getD 2 0)) 8) (IntKind.u16.wrap (ys1.getD 3 0))), .int .u32 (bor .u32 (bshl .u32 (IntKind.u32.wrap (bor .u16 (bshl .u16 (IntKind.u16.wrap (ys1.getD 4 0)) 8) (IntKind.u16.wrap (ys1.getD 5 0)))) 16) (IntKind.u32.wrap (bor .u16 (bshl .u16 (IntKind.u16.wrap (ys1.getD 6 0)) 8) (IntKind.u16.wrap (ys1.getD 7 0))))), .int .u32 (bor .u32 (bshl .u32 (IntKind.u32.wrap (bor .u16 (bshl .u16 (IntKind.u16.wrap (ys1.getD 8 0)) 8) (IntKind.u16.wrap (ys1.getD 9 0)))) 16) (IntKind.u32.wrap (bor .u16 (bshl .u16 (IntKind.u16.wrap (ys1.getD 10 0)) 8) (IntKind.u16.wrap (ys1.getD 11 0))))), .int .u8 (bshr .u8 (ys1.getD 12 0) 4), .int .u8 (bor .u8 (bshl .u8 (band .u8 (ys1.getD 12 0) 1) 2) (bshr .u8 (ys1.getD 13 0) 6)), .int .u8 (band .u8 (ys1.getD 13 0) 63), .int .u16 (bor .u16 (bshl .u16 (IntKind.u16.wrap (ys1.getD 14 0)) 8) (IntKind.u16.wrap (ys1.getD 15 0))), .int .u16 (bor .u16 (bshl .u16 (IntKind.u16.wrap (ys1.getD 16 0)) 8) (IntKind.u16.wrap (ys1.getD 17 0))), .int .u16 (bor .u16 (bshl .u16 (IntKind.u16.wrap (ys1.getD 18 0)) 8) (IntKind.u16.wrap (ys1.getD 19 0)))]] 298 (by kernel_rfl) (by kernel_rfl) (by kernel_rfl) (Enc11_ok (bor .u16 (bshl .u16 (IntKind.u16.wrap (ys1.getD 0 0)) 8) (IntKind.u16.wrap (ys1.getD 1 0))) (bor .u16 (bshl .u16 (IntKind.u16.wrap (ys1.getD 2 0)) 8) (IntKind.u16.wrap (ys1.getD 3 0))) (bor .u32 (bshl .u32 (IntKind.u32.wrap (bor .u16 (bshl .u16 (IntKind.u16.wrap (ys1.getD 4 0)) 8) (IntKind.u16.wrap (ys1.getD 5 0)))) 16) (IntKind.u32.wrap (bor .u16 (bshl .u16 (IntKind.u16.wrap (ys1.getD 6 0)) 8) (IntKind.u16.wrap (ys1.getD 7 0))))) (bor .u32 (bshl .u32 (IntKind.u32.wrap (bor .u16 (bshl .u16 (IntKind.u16.wrap (ys1.getD 8 0)) 8) (IntKind.u16.wrap (ys1.getD 9 0)))) 16) (IntKind.u32.wrap (bor .u16 (bshl .u16 (IntKind.u16.wrap (ys1.getD 10 0)) 8) (IntKind.u16.wrap (ys1.getD 11 0))))) (bshr .u8 (ys1.getD 12 0) 4) (bor .u8 (bshl .u8 (band .u8 (ys1.getD 12 0) 1) 2) (bshr .u8 (ys1.getD 13 0) 6)) (band .u8 (ys1.getD 13 0) 63) (bor .u16 (bshl .u16 (IntKind.u16.wrap (ys1.getD 14 0)) 8) (IntKind.u16.wrap (ys1.getD 15 0))) (bor .u16 (bshl .u16 (IntKind.u16.wrap (ys1.getD 16 0)) 8) (IntKind.u16.wrap (ys1.getD 17 0))) (bor .u16 (bshl .u16 (IntKind.u16.wrap (ys1.getD 18 0)) 8) (IntKind.u16.wrap (ys1.getD 19 0))) _) ?_
    rintro v7 G7 rows7 hG7 ⟨he7, hx7⟩
    replace hb := hb.mono hG7.le
    replace hr1 := hr1.mono hG7.le
    obtain ⟨A7, c7, rfl, hc7, rfl⟩ := he7 (decIn hby4 hc4.1 hc4.2)
    clear he7 hx7
    rw [encDec hby4 hc4.1 hc4.2]
    refine X.tellR [298] (R' := [(298, ⟨5, 1, .slice A7 20 c7, 20, ((ys1.take 20).drop 0).map (Value.int .u8)⟩)]) rfl ?_
    refine X.run 8 [1, 4, 11, 12] [] (.code (cA B7 [1, 1, 1, 0, 1, 1, 0, 1, 0])) [.seq (cA B7 [1, 1, 1, 0, 1, 1, 0, 1, 1]), .seq (cA B7 [1, 1, 1, 1])] ⟨67, [(1, .v (.slice A1 ys1.length (c - 0))), (4, .v (.bool false)), (11, .v (.slice A7 20 c7)), (12, .v (.int .i64 0))], []⟩ (by kernel_rfl) ?_
    have hb_d8 := hb
    have hr1_d8 := hr1
    refine XD.open (id := 10) (arr := aA B7 [1, 1, 1, 0, 1, 1, 0, 1, 0]) 15 [] [] [] (by kernel_rfl) (by kernel_rfl) (by kernel_rfl) (by kernel_rfl) (by kernel_rfl) trivial (by simp) rfl (fun ρ0 => ?_)
    refine XD.take (i := 0) (l' := (lb 15 1)) (oA B7 [1, 1, 1, 0, 1, 1, 0, 1, 0] 0) (.v (.int .i64 0)) QOk.ctxG (by kernel_rfl) (by kernel_rfl) (by kernel_rfl) (by kernel_rfl) (by kernel_rfl) ?_
    refine XD.take (i := 1) (l' := (lb 15 3)) (oA B7 [1, 1, 1, 0, 1, 1, 0, 1, 0] 1) (.v (.bool false)) QOk.ctxG (by kernel_rfl) (by kernel_rfl) (by kernel_rfl) (by kernel_rfl) (by kernel_rfl) ?_
    refine XD.take (i := 2) (l' := (lb 15 7)) (oA B7 [1, 1, 1, 0, 1, 1, 0, 1, 0] 2) (.v (.bool false)) QOk.ctxG (by kernel_rfl) (by kernel_rfl) (by kernel_rfl) (by kernel_rfl) (by kernel_rfl) ?_
    refine XD.take (i := 3) (l' := (lb 15 15)) (oA B7 [1, 1, 1, 0, 1, 1, 0, 1, 0] 3) (.v (.slice A1 ys1.length (c - 0))) QOk.ctxG (by kernel_rfl) (by kernel_rfl) (by kernel_rfl) (by kernel_rfl) (by kernel_rfl) ?_
    refine XD.take (i := 4) (l' := (lb 15 31)) (oA B7 [1, 1, 1, 0, 1, 1, 0, 1, 0] 4) (.v (.int .i64 ((ys1.length : Nat) : Int))) QOk.ctxG (by kernel_rfl) (by kernel_rfl) (by kernel_rfl) (by kernel_rfl) (by kernel_rfl) ?_
    refine XD.take (i := 5) (l' := (lb 15 63)) (oA B7 [1, 1, 1, 0, 1, 1, 0, 1, 0] 5) (.v (.bool (decide (((ys1.length : Nat) : Int) < 20)))) QOk.ctxG (by kernel_rfl) (by kernel_rfl) (by kernel_rfl) (by kernel_rfl) (by kernel_rfl) ?_
    refine XD.take (i := 6) (l' := (lb 15 127)) (oA B7 [1, 1, 1, 0, 1, 1, 0, 1, 0] 6) (.v (.bool (decide (((ys1.length : Nat) : Int) < 20)))) QOk.ctxG (by kernel_rfl) (by kernel_rfl) (by kernel_rfl) (by kernel_rfl) (by kernel_rfl) ?_
    refine XD.take (i := 7) (l' := (lb 15 255)) (oA B7 [1, 1, 1, 0, 1, 1, 0, 1, 0] 7) (.v (.bool (decide (((ys1.length : Nat) : Int) < 20)))) QOk.ctxG (by kernel_rfl) (by kernel_rfl) (by kernel_rfl) (by kernel_rfl) (by kernel_rfl) ?_
    refine XD.isFalse 58 rfl (decide_eq_false (by omega)) ?_
    refine XD.take (i := 8) (l' := (lb 15 511)) (oA B7 [1, 1, 1, 0, 1, 1, 0, 1, 0] 8) (.v (.slice A7 20 c7)) QOk.ctxG (by kernel_rfl) (by kernel_rfl) (by kernel_rfl) (by kernel_rfl) (by kernel_rfl) ?_
    refine XD.take (i := 10) (l' := (lb 15 1535)) (oA B7 [1, 1, 1, 0, 1, 1, 0, 1, 0] 10) (.v (.slice A1 ys1.length (c - 0))) QOk.ctxG (by kernel_rfl) (by kernel_rfl) (by kernel_rfl) (by kernel_rfl) (by kernel_rfl) ?_
    have hlo9 : 0 ≤ 20 := by omega
    have hhi9 : 20 ≤ ys1.length := by omega
    refine XD.cut (i := 11) (l' := (lb 15 3583)) (o := (oA B7 [1, 1, 1, 0, 1, 1, 0, 1, 0] 11)) (t := 22) (e := 5) (sz := 1) (n := ys1.length) (c := c - 0) (A := A1) (x := .tmp 61) (l0 := none) (h := (some (.const (.int .i64 20)))) (lv := none) (hv := (some (.int .i64 20))) 0 20 QOk.ctxG (by kernel_rfl) (by kernel_rfl) (by kernel_rfl) (by kernel_rfl) (by kernel_rfl) (by kernel_rfl) (by kernel_rfl) (by kernel_rfl) (by kernel_rfl) (rfl) (⟨_, _, rfl, by omega, rfl⟩) hlo9 (Nat.le_trans hhi9 hc1) (by kernel_rfl) ?_
    obtain ⟨A9, hA9⟩ : ∃ A_, cutA A1 (c - 0) 0 1 = A_ := ⟨_, rfl⟩
    obtain ⟨ys9, hys9⟩ : ∃ l_, (ys1.take 20).drop 0 = l_ := ⟨_, rfl⟩
    have hr9 : rowAt (D.int .u8) G7 (cutA A1 (c - 0) 0 1) ((ys1.take 20).drop 0) := rowAt_cut hr1 hlo9 hhi9 hc1
    have hl9 : 20 - 0 = ys9.length := by rw [← hys9, List.length_drop, List.length_take]; omega
    have hc9 : ys9.length ≤ (c - 0) - 0 := by omega
    have hm9 : (c - 0) - 0 ≤ maxLen := Nat.le_trans (Nat.sub_le _ _) hm1
    rw [hys9, show cutA A1 (c - 0) 0 _ = A9 from hA9] at hr9
    rw [hA9, hl9]
    refine XD.norm [4, 58, 59, 62] [] ⟨67, [(4, .v (.bool false)), (58, .v (.bool false)), (59, .v (.slice A7 20 c7)), (62, .v (.slice A9 ys9.length ((c - 0) - 0)))], []⟩ (by kernel_rfl) trivial ?_
    refine XD.two (i := 9) (j := 12) (li := (lb 15 4095)) (lj := (lb 15 7679)) (oA B7 [1, 1, 1, 0, 1, 1, 0, 1, 0] 9) (oA B7 [1, 1, 1, 0, 1, 1, 0, 1, 0] 12) (by kernel_rfl) (by kernel_rfl) (by kernel_rfl) (by kernel_rfl) (by kernel_rfl) ?_ ?_
    · -- 9 first
      refine X.toStrW (src := 22) (dst := 9) (e := 5) (n := 20) (c := c7) (A := A7) (x := .tmp 59) ((ys1.take 20).drop 0) (by kernel_rfl) (by kernel_rfl) (by kernel_rfl) (by kernel_rfl) (by kernel_rfl) (by simp; omega) (At.of_row (i := 298) (r := ⟨5, 1, .slice A7 20 c7, 20, ((ys1.take 20).drop 0).map (Value.int .u8)⟩) rfl rfl) (fun w hw e => absurd (rowSome (i := 298) (q := ⟨5, 1, .slice A7 20 c7, 20, ((ys1.take 20).drop 0).map (Value.int .u8)⟩) rfl rfl (by simp; omega) w hw) (by rw [e]; decide)) (by kernel_rfl) ?_
      refine X.back ⟨trivial, Le.refl _, rfl, ?_⟩
      refine XD.norm [4, 58, 60, 62] [] ⟨67, [(4, .v (.bool false)), (58, .v (.bool false)), (60, .v (.string (strOf ((ys1.take 20).drop 0)))), (62, .v (.slice A9 ys9.length ((c - 0) - 0)))], []⟩ (by kernel_rfl) trivial ?_
      refine XD.one (i := 12) (l' := (lb 15 8191)) (oA B7 [1, 1, 1, 0, 1, 1, 0, 1, 0] 12) (by kernel_rfl) (by kernel_rfl) (by kernel_rfl) ?_
      refine X.toStrW (src := 22) (dst := 9) (e := 5) (n := ys9.length) (c := (c - 0) - 0) (A := A9) (x := .tmp 62) ys9 (by kernel_rfl) (by kernel_rfl) (by kernel_rfl) (by kernel_rfl) (by kernel_rfl) rfl (at_ints [(298, ⟨5, 1, .slice A7 20 c7, 20, ((ys1.take 20).drop 0).map (Value.int .u8)⟩)] hr9) (fun w hw e => rowAt.none hr9 e) (by kernel_rfl) ?_
      refine X.back ⟨trivial, Le.refl _, rfl, ?_⟩
      refine XD.take (i := 13) (l' := (lb 15 16383)) (oA B7 [1, 1, 1, 0, 1, 1, 0, 1, 0] 13) (.v (.bool (!((strOf ((ys1.take 20).drop 0)).toList == (strOf ys9).toList)))) QOk.ctxG (by kernel_rfl) (by kernel_rfl) (by kernel_rfl) (by kernel_rfl) (by kernel_rfl) ?_
      refine XD.take (i := 14) (l' := (lb 15 32767)) (oA B7 [1, 1, 1, 0, 1, 1, 0, 1, 0] 14) (.v (.bool (!((strOf ((ys1.take 20).drop 0)).toList == (strOf ys9).toList)))) QOk.ctxG (by kernel_rfl) (by kernel_rfl) (by kernel_rfl) (by kernel_rfl) (by kernel_rfl) ?_
      refine XD.done (by kernel_rfl) ?_
      refine X.run 1 [4, 65] [] (.code (cA B7 [1, 1, 1, 0, 1, 1, 0, 1, 1])) [.seq (cA B7 [1, 1, 1, 1])] ⟨67, [(4, .v (.bool false)), (65, .v (.bool (!((strOf ((ys1.take 20).drop 0)).toList == (strOf ys9).toList))))], []⟩ (by kernel_rfl) ?_
      refine X.isFalse 65 rfl (by subst_vars; simp) ?_
      refine X.run 5 [4] [] (.ops (aA B7 [1, 1, 1, 1, 0]) (oA B7 [1, 1, 1, 1, 0] 0 :: lA B7 [1, 1, 1, 1, 0] 1)) [.seq (cA B7 [1, 1, 1, 1, 1])] ⟨67, [(4, .v (.bool false))], []⟩ (by kernel_rfl) ?_
      refine X.callG (f := 34) (l := []) [] 0 (by kernel_rfl) (by kernel_rfl) (by kernel_rfl) (works11_ok _) ?_
      rintro v10 G10 rows10 hG10 ⟨rfl, rfl⟩
      replace hb := hb.mono hG10.le
      replace hr1 := hr1.mono hG10.le
      replace hr9 := hr9.mono hG10.le
      refine X.run 4 [4] [] (.ex .ret) [] ⟨67, [(4, .v (.bool true))], []⟩ (by kernel_rfl) ?_
      refine doneG (.inl rfl) [.bool true] [] (by kernel_rfl) rfl rfl ((((hG2.trans hG4).trans hG7).trans hG10)) ?_
      -- end 3 (2)
      exact ⟨rfl, rfl⟩
    · -- 12 first
      refine X.toStrW (src := 22) (dst := 9) (e := 5) (n := ys9.length) (c := (c - 0) - 0) (A := A9) (x := .tmp 62) ys9 (by kernel_rfl) (by kernel_rfl) (by kernel_rfl) (by kernel_rfl) (by kernel_rfl) rfl (at_ints [(298, ⟨5, 1, .slice A7 20 c7, 20, ((ys1.take 20).drop 0).map (Value.int .u8)⟩)] hr9) (fun w hw e => rowAt.none hr9 e) (by kernel_rfl) ?_
      refine X.back ⟨trivial, Le.refl _, rfl, ?_⟩
      refine XD.norm [4, 58, 59, 63] [] ⟨67, [(4, .v (.bool false)), (58, .v (.bool false)), (59, .v (.slice A7 20 c7)), (63, .v (.string (strOf ys9)))], []⟩ (by kernel_rfl) trivial ?_
      refine XD.one (i := 9) (l' := (lb 15 8191)) (oA B7 [1, 1, 1, 0, 1, 1, 0, 1, 0] 9) (by kernel_rfl) (by kernel_rfl) (by kernel_rfl) ?_
      refine X.toStrW (src := 22) (dst := 9) (e := 5) (n := 20) (c := c7) (A := A7) (x := .tmp 59) ((ys1.take 20).drop 0) (by kernel_rfl) (by kernel_rfl) (by kernel_rfl) (by kernel_rfl) (by kernel_rfl) (by simp; omega) (At.of_row (i := 298) (r := ⟨5, 1, .slice A7 20 c7, 20, ((ys1.take 20).drop 0).map (Value.int .u8)⟩) rfl rfl) (fun w hw e => absurd (rowSome (i := 298) (q := ⟨5, 1, .slice A7 20 c7, 20, ((ys1.take 20).drop 0).map (Value.int .u8)⟩) rfl rfl (by simp; omega) w hw) (by rw [e]; decide)) (by kernel_rfl) ?_
      refine X.back ⟨trivial, Le.refl _, rfl, ?_⟩
      refine XD.take (i := 13) (l' := (lb 15 16383)) (oA B7 [1, 1, 1, 0, 1, 1, 0, 1, 0] 13) (.v (.bool (!((strOf ((ys1.take 20).drop 0)).toList == (strOf ys9).toList)))) QOk.ctxG (by kernel_rfl) (by kernel_rfl) (by kernel_rfl) (by kernel_rfl) (by kernel_rfl) ?_
      refine XD.take (i := 14) (l' := (lb 15 32767)) (oA B7 [1, 1, 1, 0, 1, 1, 0, 1, 0] 14) (.v (.bool (!((strOf ((ys1.take 20).drop 0)).toList == (strOf ys9).toList)))) QOk.ctxG (by kernel_rfl) (by kernel_rfl) (by kernel_rfl) (by kernel_rfl) (by kernel_rfl) ?_
      refine XD.done (by kernel_rfl) ?_
      refine X.run 1 [4, 65] [] (.code (cA B7 [1, 1, 1, 0, 1, 1, 0, 1, 1])) [.seq (cA B7 [1, 1, 1, 1])] ⟨67, [(4, .v (.bool false)), (65, .v (.bool (!((strOf ((ys1.take 20).drop 0)).toList == (strOf ys9).toList))))], []⟩ (by kernel_rfl) ?_
      refine X.isFalse 65 rfl (by subst_vars; simp) ?_
      refine X.run 5 [4] [] (.ops (aA B7 [1, 1, 1, 1, 0]) (oA B7 [1, 1, 1, 1, 0] 0 :: lA B7 [1, 1, 1, 1, 0] 1)) [.seq (cA B7 [1, 1, 1, 1, 1])] ⟨67, [(4, .v (.bool false))], []⟩ (by kernel_rfl) ?_
      refine X.callG (f := 34) (l := []) [] 0 (by kernel_rfl) (by kernel_rfl) (by kernel_rfl) (works11_ok _) ?_
      rintro v11 G11 rows11 hG11 ⟨rfl, rfl⟩
      replace hb := hb.mono hG11.le
      replace hr1 := hr1.mono hG11.le
      replace hr9 := hr9.mono hG11.le
      refine X.run 4 [4] [] (.ex .ret) [] ⟨67, [(4, .v (.bool true))], []⟩ (by kernel_rfl) ?_
      refine doneG (.inl rfl) [.bool true] [] (by kernel_rfl) rfl rfl ((((hG2.trans hG4).trans hG7).trans hG11)) ?_
      -- end 4 (2)
      exact ⟨rfl, rfl⟩

set_option maxHeartbeats 4000000 in
theorem FlagsBack_out (s0 s1 s2 s3 s4 s5 s6 s7 s8 s9 : Int) (h0 : 0 ≤ s0 ∧ s0 ≤ 65535) (h1 : 0 ≤ s1 ∧ s1 ≤ 65535) (h2 : 0 ≤ s2 ∧ s2 ≤ 4294967295) (h3 : 0 ≤ s3 ∧ s3 ≤ 4294967295) (h4 : 0 ≤ s4 ∧ s4 ≤ 255) (h5 : 0 ≤ s5 ∧ s5 ≤ 255) (h6 : 0 ≤ s6 ∧ s6 ≤ 255) (h7 : 0 ≤ s7 ∧ s7 ≤ 65535) (h8 : 0 ≤ s8 ∧ s8 ≤ 65535) (h9 : 0 ≤ s9 ∧ s9 ≤ 65535) (A : Option Addr) (c : Nat) (b : List Int) (G : Mem) (hb : rowAt (D.int .u8) G A b) (hle : b.length ≤ c) (hmx : c ≤ maxLen) (hin : ¬ (5 ≤ s4 ∧ s4 ≤ 15 ∧ s5 ≤ 7 ∧ s6 ≤ 63)) : CallsG Try.prog 7 [.agg #[.int .u16 s0, .int .u16 s1, .int .u32 s2, .int .u32 s3, .int .u8 s4, .int .u8 s5, .int .u8 s6, .int .u16 s7, .int .u16 s8, .int .u16 s9], .slice A b.length c] G (fun _ v rows => v = .bool true ∧ rows = []) := by
  simp only [maxLen] at hmx
  refine CallsG.enter Try.func7 rfl rfl ?_
  intro w
  refine X.run 12 [1, 2, 4, 13, 16] [2] (.ops (aA B7 [1, 0]) (oA B7 [1, 0] 4 :: lA B7 [1, 0] 5)) [.seq (cA B7 [1, 1])] ⟨67, [(1, .v (.slice A b.length c)), (2, .own 2 0), (4, .v (.bool false)), (13, .v (.slice A b.length c)), (16, .v (.int .i64 (imin ((b.length : Nat) : Int) 60)))], [(2, ⟨31, [.v (.int .u16 s0), .v (.int .u16 s1), .v (.int .u32 s2), .v (.int .u32 s3), .v (.int .u8 s4), .v (.int .u8 s5), .v (.int .u8 s6), .v (.int .u16 s7), .v (.int .u16 s8), .v (.int .u16 s9)]⟩)]⟩ (by kernel_rfl) ?_
  refine X.known 16 (y := .v (.int .i64 (min ((b.length : Nat) : Int) 60))) rfl (congrArg (fun z_ => AV.v (.int .i64 z_)) (by simp only [imin_eq, imax_eq])) ?_
  have hlo1 : 0 ≤ (min ((b.length : Nat) : Int) 60).toNat := by omega
  have hhi1 : (min ((b.length : Nat) : Int) 60).toNat ≤ b.length := by omega
  refine X.cut (t := 22) (e := 5) (sz := 1) (n := b.length) (c := c) (A := A) (x := .tmp 13) (l := none) (h := (some (.tmp 16))) (lv := none) (hv := (some (.int .i64 (min ((b.length : Nat) : Int) 60)))) 0 ((min ((b.length : Nat) : Int) 60).toNat) (by kernel_rfl) (by kernel_rfl) (by kernel_rfl) (by kernel_rfl) (by kernel_rfl) (by kernel_rfl) (by kernel_rfl) (rfl) (⟨_, _, rfl, by omega, rfl⟩) hlo1 (Nat.le_trans hhi1 hle) ?_
  obtain ⟨A1, hA1⟩ : ∃ A_, cutA A c 0 1 = A_ := ⟨_, rfl⟩
  obtain ⟨ys1, hys1⟩ : ∃ l_, (b.take ((min ((b.length : Nat) : Int) 60).toNat)).drop 0 = l_ := ⟨_, rfl⟩
  have hr1 : rowAt (D.int .u8) G (cutA A c 0 1) ((b.take ((min ((b.length : Nat) : Int) 60).toNat)).drop 0) := rowAt_cut hb hlo1 hhi1 hle
  have hl1 : ((min ((b.length : Nat) : Int) 60).toNat) - 0 = ys1.length := by rw [← hys1, List.length_drop, List.length_take]; omega
  have hc1 : ys1.length ≤ c - 0 := by omega
  have hm1 : c - 0 ≤ maxLen := Nat.le_trans (Nat.sub_le _ _) hmx
  rw [hys1, show cutA A c 0 _ = A1 from hA1] at hr1
  rw [hA1, hl1]
  refine X.run 7 [1, 2, 4, 19] [2] (.ops (aA B7 [1, 1, 0, 0]) (oA B7 [1, 1, 0, 0] 1 :: lA B7 [1, 1, 0, 0] 2)) [.seq (cA B7 [1, 1, 0, 1]), .seq (cA B7 [1, 1, 1])] ⟨67, [(1, .v (.slice A1 ys1.length (c - 0))), (2, .own 2 0), (4, .v (.bool false)), (19, .v (.agg #[.int .u16 s0, .int .u16 s1, .int .u32 s2, .int .u32 s3, .int .u8 s4, .int .u8 s5, .int .u8 s6, .int .u16 s7, .int .u16 s8, .int .u16 s9]))], [(2, ⟨31, [.v (.int .u16 s0), .v (.int .u16 s1), .v (.int .u32 s2), .v (.int .u32 s3), .v (.int .u8 s4), .v (.int .u8 s5), .v (.int .u8 s6), .v (.int .u16 s7), .v (.int .u16 s8), .v (.int .u16 s9)]⟩)]⟩ (by kernel_rfl) ?_
  refine X.callG (f := 32) (l := [.v (.agg #[.int .u16 s0, .int .u16 s1, .int .u32 s2, .int .u32 s3, .int .u8 s4, .int .u8 s5, .int .u8 s6, .int .u16 s7, .int .u16 s8, .int .u16 s9])]) [.agg #[.int .u16 s0, .int .u16 s1, .int .u32 s2, .int .u32 s3, .int .u8 s4, .int .u8 s5, .int .u8 s6, .int .u16 s7, .int .u16 s8, .int .u16 s9]] 220 (by kernel_rfl) (by kernel_rfl) (by kernel_rfl) (Enc11_ok s0 s1 s2 s3 s4 s5 s6 s7 s8 s9 _) ?_
  rintro v2 G2 rows2 hG2 ⟨he2, hx2⟩
  replace hb := hb.mono hG2.le
  replace hr1 := hr1.mono hG2.le
  obtain ⟨rfl, rfl⟩ := hx2 hin
  clear he2 hx2
  refine X.run 20 [1, 4, 40] [] (.ops (aA B7 [1, 1, 1, 0, 0]) (oA B7 [1, 1, 1, 0, 0] 1 :: lA B7 [1, 1, 1, 0, 0] 2)) [.seq (cA B7 [1, 1, 1, 0, 1]), .seq (cA B7 [1, 1, 1, 1])] ⟨67, [(1, .v (.slice A1 ys1.length (c - 0))), (4, .v (.bool false)), (40, .v (.slice A1 ys1.length (c - 0)))], []⟩ (by kernel_rfl) ?_
  refine X.callG (f := 38) (l := [.v (.slice A1 ys1.length (c - 0))]) [.slice A1 ys1.length (c - 0)] 0 (by kernel_rfl) (by kernel_rfl) (by kernel_rfl) (Dec11_ok _ _ ys1 _ hr1 hc1) ?_
  rintro v3 G3 rows3 hG3 ⟨ea3, eb3, ec3, rfl⟩
  replace hb := hb.mono hG3.le
  replace hr1 := hr1.mono hG3.le
  have hby3 := row_bytes hr1
  rcases (show ys1.length < 20 ∨ (20 ≤ ys1.length ∧ (bshr .u8 (ys1.getD 12 0) 4 < 5 ∨ band .u8 (bshr .u8 (ys1.getD 12 0) 1) 7 ≠ 0)) ∨ (20 ≤ ys1.length ∧ ¬ (bshr .u8 (ys1.getD 12 0) 4 < 5 ∨ band .u8 (bshr .u8 (ys1.getD 12 0) 1) 7 ≠ 0)) by by_cases h1 : ys1.length < 20; exact .inl h1; by_cases h2 : (bshr .u8 (ys1.getD 12 0) 4 < 5 ∨ band .u8 (bshr .u8 (ys1.getD 12 0) 1) 7 ≠ 0); exact .inr (.inl ⟨by omega, h2⟩); exact .inr (.inr ⟨by omega, h2⟩)) with hc3 | hc3 | hc3
  · -- case 0
    obtain rfl := ea3 hc3
    refine X.run 19 [4] [] (.ops (aA B7 [1, 1, 1, 1, 0]) (oA B7 [1, 1, 1, 1, 0] 0 :: lA B7 [1, 1, 1, 1, 0] 1)) [.seq (cA B7 [1, 1, 1, 1, 1])] ⟨67, [(4, .v (.bool false))], []⟩ (by kernel_rfl) ?_
    refine X.callG (f := 34) (l := []) [] 0 (by kernel_rfl) (by kernel_rfl) (by kernel_rfl) (works11_ok _) ?_
    rintro v4 G4 rows4 hG4 ⟨rfl, rfl⟩
    replace hb := hb.mono hG4.le
    replace hr1 := hr1.mono hG4.le
    refine X.run 4 [4] [] (.ex .ret) [] ⟨67, [(4, .v (.bool true))], []⟩ (by kernel_rfl) ?_
    refine doneG (.inl rfl) [.bool true] [] (by kernel_rfl) rfl rfl (((hG2.trans hG3).trans hG4)) ?_
    -- end 1 (0)
    exact ⟨rfl, rfl⟩
  · -- case 1
    obtain rfl := eb3 hc3
    refine X.run 19 [4] [] (.ops (aA B7 [1, 1, 1, 1, 0]) (oA B7 [1, 1, 1, 1, 0] 0 :: lA B7 [1, 1, 1, 1, 0] 1)) [.seq (cA B7 [1, 1, 1, 1, 1])] ⟨67, [(4, .v (.bool false))], []⟩ (by kernel_rfl) ?_
    refine X.callG (f := 34) (l := []) [] 0 (by kernel_rfl) (by kernel_rfl) (by kernel_rfl) (works11_ok _) ?_
    rintro v5 G5 rows5 hG5 ⟨rfl, rfl⟩
    replace hb := hb.mono hG5.le
    replace hr1 := hr1.mono hG5.le
    refine X.run 4 [4] [] (.ex .ret) [] ⟨67, [(4, .v (.bool true))], []⟩ (by kernel_rfl) ?_
    refine doneG (.inl rfl) [.bool true] [] (by kernel_rfl) rfl rfl (((hG2.trans hG3).trans hG5)) ?_
    -- end 2 (1)
    exact ⟨rfl, rfl⟩
  · -- case 2
    obtain rfl := ec3 hc3
    refine X.run 18 [1, 4, 47] [] (.ops (aA B7 [1, 1, 1, 0, 1, 1, 0, 0]) (oA B7 [1, 1, 1, 0, 1, 1, 0, 0] 1 :: lA B7 [1, 1, 1, 0, 1, 1, 0, 0] 2)) [.seq (cA B7 [1, 1, 1, 0, 1, 1, 0, 1]), .seq (cA B7 [1, 1, 1, 1])] ⟨67, [(1, .v (.slice A1 ys1.length (c - 0))), (4, .v (.bool false)), (47, .v (.agg #[.int .u16 (bor .u16 (bshl .u16 (IntKind.u16.wrap (ys1.getD 0 0)) 8) (IntKind.u16.wrap (ys1.getD 1 0))), .int .u16 (bor .u16 (bshl .u16 (IntKind.u16.wrap (ys1.getD 2 0)) 8) (IntKind.u16.wrap (ys1.getD 3 0))), .int .u32 (bor .u32 (bshl .u32 (IntKind.u32.wrap (bor .u16 (bshl .u16 (IntKind.u16.wrap (ys1.getD 4 0)) 8) (IntKind.u16.wrap (ys1.getD 5 0)))) 16) (IntKind.u32.wrap (bor .u16 (bshl .u16 (IntKind.u16.wrap (ys1.getD 6 0)) 8) (IntKind.u16.wrap (ys1.getD 7 0))))), .int .u32 (bor .u32 (bshl .u32 (IntKind.u32.wrap (bor .u16 (bshl .u16 (IntKind.u16.wrap (ys1.getD 8 0)) 8) (IntKind.u16.wrap (ys1.getD 9 0)))) 16) (IntKind.u32.wrap (bor .u16 (bshl .u16 (IntKind.u16.wrap (ys1.getD 10 0)) 8) (IntKind.u16.wrap (ys1.getD 11 0))))), .int .u8 (bshr .u8 (ys1.getD 12 0) 4), .int .u8 (bor .u8 (bshl .u8 (band .u8 (ys1.getD 12 0) 1) 2) (bshr .u8 (ys1.getD 13 0) 6)), .int .u8 (band .u8 (ys1.getD 13 0) 63), .int .u16 (bor .u16 (bshl .u16 (IntKind.u16.wrap (ys1.getD 14 0)) 8) (IntKind.u16.wrap (ys1.getD 15 0))), .int .u16 (bor .u16 (bshl .u16 (IntKind.u16.wrap (ys1.getD 16 0)) 8) (IntKind.u16.wrap (ys1.getD 17 0))), .int .u16 (bor .u16 (bshl .u16 (IntKind.u16.wrap (ys1.getD 18 0)) 8) (IntKind.u16.wrap (ys1.getD 19 0)))]))], []⟩ (by kernel_rfl) ?_
    refine X.callG (f := 32) (l := [.v (.agg #[.int .u16 (bor .u16 (bshl .u16 (IntKind.u16.wrap (ys1.getD 0 0)) 8) (IntKind.u16.wrap (ys1.getD 1 0))), .int .u16 (bor .u16 (bshl .u16 (IntKind.u16.wrap (ys1.getD 2 0)) 8) (IntKind.u16.wrap (ys1.getD 3 0))), .int .u32 (bor .u32 (bshl .u32 (IntKind.u32.wrap (bor .u16 (bshl .u16 (IntKind.u16.wrap (ys1.getD 4 0)) 8) (IntKind.u16.wrap (ys1.getD 5 0)))) 16) (IntKind.u32.wrap (bor .u16 (bshl .u16 (IntKind.u16.wrap (ys1.getD 6 0)) 8) (IntKind.u16.wrap (ys1.getD 7 0))))), .int .u32 (bor .u32 (bshl .u32 (IntKind.u32.wrap (bor .u16 (bshl .u16 (IntKind.u16.wrap (ys1.getD 8 0)) 8) (IntKind.u16.wrap (ys1.getD 9 0)))) 16) (IntKind.u32.wrap (bor .u16 (bshl .u16 (IntKind.u16.wrap (ys1.getD 10 0)) 8) (IntKind.u16.wrap (ys1.getD 11 0))))), .int .u8 (bshr .u8 (ys1.getD 12 0) 4), .int .u8 (bor .u8 (bshl .u8 (band .u8 (ys1.getD 12 0) 1) 2) (bshr .u8 (ys1.getD 13 0) 6)), .int .u8 (band .u8 (ys1.getD 13 0) 63), .int .u16 (bor .u16 (bshl .u16 (IntKind.u16.wrap (ys1.getD 14 0)) 8) (IntKind.u16.wrap (ys1.getD 15 0))), .int .u16 (bor .u16 (bshl .u16 (IntKind.u16.wrap (ys1.getD 16 0)) 8) (IntKind.u16.wrap (ys1.getD 17 0))), .int .u16 (bor .u16 (bshl .u16 (IntKind.u16.wrap (ys1.getD 18 0)) 8) (IntKind.u16.wrap (ys1.getD 19 0)))])]) [.agg #[.int .u16 (bor .u16 (bshl .u16 (IntKind.u16.wrap (ys1.getD 0 0)) 8) (IntKind.u16.wrap (ys1.getD 1 0))), .int .u16 (bor .u16 (bshl .u16 (IntKind.u16.wrap (ys1.getD 2 0)) 8) (IntKind.u16.wrap (ys1.getD 3 0))), .int .u32 (bor .u32 (bshl .u32 (IntKind.u32.wrap (bor .u16 (bshl .u16 (IntKind.u16.wrap (ys1.getD 4 0)) 8) (IntKind.u16.wrap (ys1.getD 5 0)))) 16) (IntKind.u32.wrap (bor .u16 (bshl .u16 (IntKind.u16.wrap (ys1.getD 6 0)) 8) (IntKind.u16.wrap (ys1.getD 7 0))))), .int .u32 (bor .u32 (bshl .u32 (IntKind.u32.wrap (bor .u16 (bshl .u16 (IntKind.u16.wrap (ys1.getD 8 0)) 8) (IntKind.u16.wrap (ys1.getD 9 0)))) 16) (IntKind.u32.wrap (bor .u16 (bshl .u16 (IntKind.u16.wrap (ys1.getD 10 0)) 8) (IntKind.u16.wrap (ys1.getD 11 0))))), .int .u8 (bshr .u8 (ys1.getD 12 0) 4), .int .u8 (bor .u8 (bshl .u8 (band .u8 (ys1.getD 12 0) 1) 2) (bshr .u8 (ys1.getD 13 0) 6)), .int .u8 (band .u8 (ys1.getD 13 0) 63), .int .u16 (bor .u16 (bshl .u16 (IntKind.u16.wrap (ys1.getD 14 0)) 8) (IntKind.u16.wrap (ys1.getD 15 0))), .int .u16 (bor .u16 (bshl .u16 (IntKind.u16.wrap (ys1.getD 16 0)) 8) (IntKind.u16.wrap (ys1.getD 17 0))), .int .u16 (bor .u16 (bshl .u16 (IntKind.u16.wrap (ys1.getD 18 0)) 8) (IntKind.u16.wrap (ys1.getD 19 0)))]] 298 (by kernel_rfl) (by kernel_rfl) (by kernel_rfl) (Enc11_ok (bor .u16 (bshl .u16 (IntKind.u16.wrap (ys1.getD 0 0)) 8) (IntKind.u16.wrap (ys1.getD 1 0))) (bor .u16 (bshl .u16 (IntKind.u16.wrap (ys1.getD 2 0)) 8) (IntKind.u16.wrap (ys1.getD 3 0))) (bor .u32 (bshl .u32 (IntKind.u32.wrap (bor .u16 (bshl .u16 (IntKind.u16.wrap (ys1.getD 4 0)) 8) (IntKind.u16.wrap (ys1.getD 5 0)))) 16) (IntKind.u32.wrap (bor .u16 (bshl .u16 (IntKind.u16.wrap (ys1.getD 6 0)) 8) (IntKind.u16.wrap (ys1.getD 7 0))))) (bor .u32 (bshl .u32 (IntKind.u32.wrap (bor .u16 (bshl .u16 (IntKind.u16.wrap (ys1.getD 8 0)) 8) (IntKind.u16.wrap (ys1.getD 9 0)))) 16) (IntKind.u32.wrap (bor .u16 (bshl .u16 (IntKind.u16.wrap (ys1.getD 10 0)) 8) (IntKind.u16.wrap (ys1.getD 11 0))))) (bshr .u8 (ys1.getD 12 0) 4) (bor .u8 (bshl .u8 (band .u8 (ys1.getD 12 0) 1) 2) (bshr .u8 (ys1.getD 13 0) 6)) (band .u8 (ys1.getD 13 0) 63) (bor .u16 (bshl .u16 (IntKind.u16.wrap (ys1.getD 14 0)) 8) (IntKind.u16.wrap (ys1.getD 15 0))) (bor .u16 (bshl .u16 (IntKind.u16.wrap (ys1.getD 16 0)) 8) (IntKind.u16.wrap (ys1.getD 17 0))) (bor .u16 (bshl .u16 (IntKind.u16.wrap (ys1.getD 18 0)) 8) (IntKind.u16.wrap (ys1.getD 19 0))) _) ?_
    rintro v6 G6 rows6 hG6 ⟨he6, hx6⟩
    replace hb := hb.mono hG6.le
    replace hr1 := hr1.mono hG6.le
    obtain ⟨A6, c6, rfl, hc6, rfl⟩ := he6 (decIn hby3 hc3.1 hc3.2)
    clear he6 hx6
    rw [encDec hby3 hc3.1 hc3.2]
    refine X.tellR [298] (R' := [(298, ⟨5, 1, .slice A6 20 c6, 20, ((ys1.take 20).drop 0).map (Value.int .u8)⟩)]) rfl ?_
    refine X.run 8 [1, 4, 11, 12] [] (.code (cA B7 [1, 1, 1, 0, 1, 1, 0, 1, 0])) [.seq (cA B7 [1, 1, 1, 0, 1, 1, 0, 1, 1]), .seq (cA B7 [1, 1, 1, 1])] ⟨67, [(1, .v (.slice A1 ys1.length (c - 0))), (4, .v (.bool false)), (11, .v (.slice A6 20 c6)), (12, .v (.int .i64 0))], []⟩ (by kernel_rfl) ?_
    have hb_d7 := hb
    have hr1_d7 := hr1
    refine XD.open (id := 10) (arr := aA B7 [1, 1, 1, 0, 1, 1, 0, 1, 0]) 15 [] [] [] (by kernel_rfl) (by kernel_rfl) (by kernel_rfl) (by kernel_rfl) (by kernel_rfl) trivial (by simp) rfl (fun ρ0 => ?_)
    refine XD.take (i := 0) (l' := (lb 15 1)) (oA B7 [1, 1, 1, 0, 1, 1, 0, 1, 0] 0) (.v (.int .i64 0)) QOk.ctxG (by kernel_rfl) (by kernel_rfl) (by kernel_rfl) (by kernel_rfl) (by kernel_rfl) ?_
    refine XD.take (i := 1) (l' := (lb 15 3)) (oA B7 [1, 1, 1, 0, 1, 1, 0, 1, 0] 1) (.v (.bool false)) QOk.ctxG (by kernel_rfl) (by kernel_rfl) (by kernel_rfl) (by kernel_rfl) (by kernel_rfl) ?_
    refine XD.take (i := 2) (l' := (lb 15 7)) (oA B7 [1, 1, 1, 0, 1, 1, 0, 1, 0] 2) (.v (.bool false)) QOk.ctxG (by kernel_rfl) (by kernel_rfl) (by kernel_rfl) (by kernel_rfl) (by kernel_rfl) ?_
    refine XD.take (i := 3) (l' := (lb 15 15)) (oA B7 [1, 1, 1, 0, 1, 1, 0, 1, 0] 3) (.v (.slice A1 ys1.length (c - 0))) QOk.ctxG (by kernel_rfl) (by kernel_rfl) (by kernel_rfl) (by kernel_rfl) (by kernel_rfl) ?_
    refine XD.take (i := 4) (l' := (lb 15 31)) (oA B7 [1, 1, 1, 0, 1, 1, 0, 1, 0] 4) (.v (.int .i64 ((ys1.length : Nat) : Int))) QOk.ctxG (by kernel_rfl) (by kernel_rfl) (by kernel_rfl) (by kernel_rfl) (by kernel_rfl) ?_
    refine XD.take (i := 5) (l' := (lb 15 63)) (oA B7 [1, 1, 1, 0, 1, 1, 0, 1, 0] 5) (.v (.bool (decide (((ys1.length : Nat) : Int) < 20)))) QOk.ctxG (by kernel_rfl) (by kernel_rfl) (by kernel_rfl) (by kernel_rfl) (by kernel_rfl) ?_
    refine XD.take (i := 6) (l' := (lb 15 127)) (oA B7 [1, 1, 1, 0, 1, 1, 0, 1, 0] 6) (.v (.bool (decide (((ys1.length : Nat) : Int) < 20)))) QOk.ctxG (by kernel_rfl) (by kernel_rfl) (by kernel_rfl) (by kernel_rfl) (by kernel_rfl) ?_
    refine XD.take (i := 7) (l' := (lb 15 255)) (oA B7 [1, 1, 1, 0, 1, 1, 0, 1, 0] 7) (.v (.bool (decide (((ys1.length : Nat) : Int) < 20)))) QOk.ctxG (by kernel_rfl) (by kernel_rfl) (by kernel_rfl) (by kernel_rfl) (by kernel_rfl) ?_
    refine XD.isFalse 58 rfl (decide_eq_false (by omega)) ?_
    refine XD.take (i := 8) (l' := (lb 15 511)) (oA B7 [1, 1, 1, 0, 1, 1, 0, 1, 0] 8) (.v (.slice A6 20 c6)) QOk.ctxG (by kernel_rfl) (by kernel_rfl) (by kernel_rfl) (by kernel_rfl) (by kernel_rfl) ?_
    refine XD.take (i := 10) (l' := (lb 15 1535)) (oA B7 [1, 1, 1, 0, 1, 1, 0, 1, 0] 10) (.v (.slice A1 ys1.length (c - 0))) QOk.ctxG (by kernel_rfl) (by kernel_rfl) (by kernel_rfl) (by kernel_rfl) (by kernel_rfl) ?_
    have hlo8 : 0 ≤ 20 := by omega
    have hhi8 : 20 ≤ ys1.length := by omega
    refine XD.cut (i := 11) (l' := (lb 15 3583)) (o := (oA B7 [1, 1, 1, 0, 1, 1, 0, 1, 0] 11)) (t := 22) (e := 5) (sz := 1) (n := ys1.length) (c := c - 0) (A := A1) (x := .tmp 61) (l0 := none) (h := (some (.const (.int .i64 20)))) (lv := none) (hv := (some (.int .i64 20))) 0 20 QOk.ctxG (by kernel_rfl) (by kernel_rfl) (by kernel_rfl) (by kernel_rfl) (by kernel_rfl) (by kernel_rfl) (by kernel_rfl) (by kernel_rfl) (by kernel_rfl) (rfl) (⟨_, _, rfl, by omega, rfl⟩) hlo8 (Nat.le_trans hhi8 hc1) (by kernel_rfl) ?_
    obtain ⟨A8, hA8⟩ : ∃ A_, cutA A1 (c - 0) 0 1 = A_ := ⟨_, rfl⟩
    obtain ⟨ys8, hys8⟩ : ∃ l_, (ys1.take 20).drop 0 = l_ := ⟨_, rfl⟩
    have hr8 : rowAt (D.int .u8) G6 (cutA A1 (c - 0) 0 1) ((ys1.take 20).drop 0) := rowAt_cut hr1 hlo8 hhi8 hc1
    have hl8 : 20 - 0 = ys8.length := by rw [← hys8, List.length_drop, List.length_take]; omega
    have hc8 : ys8.length ≤ (c - 0) - 0 := by omega
    have hm8 : (c - 0) - 0 ≤ maxLen := Nat.le_trans (Nat.sub_le _ _) hm1
    rw [hys8, show cutA A1 (c - 0) 0 _ = A8 from hA8] at hr8
    rw [hA8, hl8]
    refine XD.norm [4, 58, 59, 62] [] ⟨67, [(4, .v (.bool false)), (58, .v (.bool false)), (59, .v (.slice A6 20 c6)), (62, .v (.slice A8 ys8.length ((c - 0) - 0)))], []⟩ (by kernel_rfl) trivial ?_
    refine XD.two (i := 9) (j := 12) (li := (lb 15 4095)) (lj := (lb 15 7679)) (oA B7 [1, 1, 1, 0, 1, 1, 0, 1, 0] 9) (oA B7 [1, 1, 1, 0, 1, 1, 0, 1, 0] 12) (by kernel_rfl) (by kernel_rfl) (by kernel_rfl) (by kernel_rfl) (by kernel_rfl) ?_ ?_
    · -- 9 first
      refine X.toStrW (src := 22) (dst := 9) (e := 5) (n := 20) (c := c6) (A := A6) (x := .tmp 59) ((ys1.take 20).drop 0) (by kernel_rfl) (by kernel_rfl) (by kernel_rfl) (by kernel_rfl) (by kernel_rfl) (by simp; omega) (At.of_row (i := 298) (r := ⟨5, 1, .slice A6 20 c6, 20, ((ys1.take 20).drop 0).map (Value.int .u8)⟩) rfl rfl) (fun w hw e => absurd (rowSome (i := 298) (q := ⟨5, 1, .slice A6 20 c6, 20, ((ys1.take 20).drop 0).map (Value.int .u8)⟩) rfl rfl (by simp; omega) w hw) (by rw [e]; decide)) (by kernel_rfl) ?_
      refine X.back ⟨trivial, Le.refl _, rfl, ?_⟩
      refine XD.norm [4, 58, 60, 62] [] ⟨67, [(4, .v (.bool false)), (58, .v (.bool false)), (60, .v (.string (strOf ((ys1.take 20).drop 0)))), (62, .v (.slice A8 ys8.length ((c - 0) - 0)))], []⟩ (by kernel_rfl) trivial ?_
      refine XD.one (i := 12) (l' := (lb 15 8191)) (oA B7 [1, 1, 1, 0, 1, 1, 0, 1, 0] 12) (by kernel_rfl) (by kernel_rfl) (by kernel_rfl) ?_
      refine X.toStrW (src := 22) (dst := 9) (e := 5) (n := ys8.length) (c := (c - 0) - 0) (A := A8) (x := .tmp 62) ys8 (by kernel_rfl) (by kernel_rfl) (by kernel_rfl) (by kernel_rfl) (by kernel_rfl) rfl (at_ints [(298, ⟨5, 1, .slice A6 20 c6, 20, ((ys1.take 20).drop 0).map (Value.int .u8)⟩)] hr8) (fun w hw e => rowAt.none hr8 e) (by kernel_rfl) ?_
      refine X.back ⟨trivial, Le.refl _, rfl, ?_⟩
      refine XD.take (i := 13) (l' := (lb 15 16383)) (oA B7 [1, 1, 1, 0, 1, 1, 0, 1, 0] 13) (.v (.bool (!((strOf ((ys1.take 20).drop 0)).toList == (strOf ys8).toList)))) QOk.ctxG (by kernel_rfl) (by kernel_rfl) (by kernel_rfl) (by kernel_rfl) (by kernel_rfl) ?_
      refine XD.take (i := 14) (l' := (lb 15 32767)) (oA B7 [1, 1, 1, 0, 1, 1, 0, 1, 0] 14) (.v (.bool (!((strOf ((ys1.take 20).drop 0)).toList == (strOf ys8).toList)))) QOk.ctxG (by kernel_rfl) (by kernel_rfl) (by kernel_rfl) (by kernel_rfl) (by kernel_rfl) ?_
      refine XD.done (by kernel_rfl) ?_
      refine X.run 1 [4, 65] [] (.code (cA B7 [1, 1, 1, 0, 1, 1, 0, 1, 1])) [.seq (cA B7 [1, 1, 1, 1])] ⟨67, [(4, .v (.bool false)), (65, .v (.bool (!((strOf ((ys1.take 20).drop 0)).toList == (strOf ys8).toList))))], []⟩ (by kernel_rfl) ?_
      refine X.isFalse 65 rfl (by subst_vars; simp) ?_
      refine X.run 5 [4] [] (.ops (aA B7 [1, 1, 1, 1, 0]) (oA B7 [1, 1, 1, 1, 0] 0 :: lA B7 [1, 1, 1, 1, 0] 1)) [.seq (cA B7 [1, 1, 1, 1, 1])] ⟨67, [(4, .v (.bool false))], []⟩ (by kernel_rfl) ?_
      refine X.callG (f := 34) (l := []) [] 0 (by kernel_rfl) (by kernel_rfl) (by kernel_rfl) (works11_ok _) ?_
      rintro v9 G9 rows9 hG9 ⟨rfl, rfl⟩
      replace hb := hb.mono hG9.le
      replace hr1 := hr1.mono hG9.le
      replace hr8 := hr8.mono hG9.le
      refine X.run 4 [4] [] (.ex .ret) [] ⟨67, [(4, .v (.bool true))], []⟩ (by kernel_rfl) ?_
      refine doneG (.inl rfl) [.bool true] [] (by kernel_rfl) rfl rfl ((((hG2.trans hG3).trans hG6).trans hG9)) ?_
      -- end 3 (2)
      exact ⟨rfl, rfl⟩
    · -- 12 first
      refine X.toStrW (src := 22) (dst := 9) (e := 5) (n := ys8.length) (c := (c - 0) - 0) (A := A8) (x := .tmp 62) ys8 (by kernel_rfl) (by kernel_rfl) (by kernel_rfl) (by kernel_rfl) (by kernel_rfl) rfl (at_ints [(298, ⟨5, 1, .slice A6 20 c6, 20, ((ys1.take 20).drop 0).map (Value.int .u8)⟩)] hr8) (fun w hw e => rowAt.none hr8 e) (by kernel_rfl) ?_
      refine X.back ⟨trivial, Le.refl _, rfl, ?_⟩
      refine XD.norm [4, 58, 59, 63] [] ⟨67, [(4, .v (.bool false)), (58, .v (.bool false)), (59, .v (.slice A6 20 c6)), (63, .v (.string (strOf ys8)))], []⟩ (by kernel_rfl) trivial ?_
      refine XD.one (i := 9) (l' := (lb 15 8191)) (oA B7 [1, 1, 1, 0, 1, 1, 0, 1, 0] 9) (by kernel_rfl) (by kernel_rfl) (by kernel_rfl) ?_
      refine X.toStrW (src := 22) (dst := 9) (e := 5) (n := 20) (c := c6) (A := A6) (x := .tmp 59) ((ys1.take 20).drop 0) (by kernel_rfl) (by kernel_rfl) (by kernel_rfl) (by kernel_rfl) (by kernel_rfl) (by simp; omega) (At.of_row (i := 298) (r := ⟨5, 1, .slice A6 20 c6, 20, ((ys1.take 20).drop 0).map (Value.int .u8)⟩) rfl rfl) (fun w hw e => absurd (rowSome (i := 298) (q := ⟨5, 1, .slice A6 20 c6, 20, ((ys1.take 20).drop 0).map (Value.int .u8)⟩) rfl rfl (by simp; omega) w hw) (by rw [e]; decide)) (by kernel_rfl) ?_
      refine X.back ⟨trivial, Le.refl _, rfl, ?_⟩
      refine XD.take (i := 13) (l' := (lb 15 16383)) (oA B7 [1, 1, 1, 0, 1, 1, 0, 1, 0] 13) (.v (.bool (!((strOf ((ys1.take 20).drop 0)).toList == (strOf ys8).toList)))) QOk.ctxG (by kernel_rfl) (by kernel_rfl) (by kernel_rfl) (by kernel_rfl) (by kernel_rfl) ?_
      refine XD.take (i := 14) (l' := (lb 15 32767)) (oA B7 [1, 1, 1, 0, 1, 1, 0, 1, 0] 14) (.v (.bool (!((strOf ((ys1.take 20).drop 0)).toList == (strOf ys8).toList)))) QOk.ctxG (by kernel_rfl) (by kernel_rfl) (by kernel_rfl) (by kernel_rfl) (by kernel_rfl) ?_
      refine XD.done (by kernel_rfl) ?_
      refine X.run 1 [4, 65] [] (.code (cA B7 [1, 1, 1, 0, 1, 1, 0, 1, 1])) [.seq (cA B7 [1, 1, 1, 1])] ⟨67, [(4, .v (.bool false)), (65, .v (.bool (!((strOf ((ys1.take 20).drop 0)).toList == (strOf ys8).toList))))], []⟩ (by kernel_rfl) ?_
      refine X.isFalse 65 rfl (by subst_vars; simp) ?_
      refine X.run 5 [4] [] (.ops (aA B7 [1, 1, 1, 1, 0]) (oA B7 [1, 1, 1, 1, 0] 0 :: lA B7 [1, 1, 1, 1, 0] 1)) [.seq (cA B7 [1, 1, 1, 1, 1])] ⟨67, [(4, .v (.bool false))], []⟩ (by kernel_rfl) ?_
      refine X.callG (f := 34) (l := []) [] 0 (by kernel_rfl) (by kernel_rfl) (by kernel_rfl) (works11_ok _) ?_
      rintro v10 G10 rows10 hG10 ⟨rfl, rfl⟩
      replace hb := hb.mono hG10.le
      replace hr1 := hr1.mono hG10.le
      replace hr8 := hr8.mono hG10.le
      refine X.run 4 [4] [] (.ex .ret) [] ⟨67, [(4, .v (.bool true))], []⟩ (by kernel_rfl) ?_
      refine doneG (.inl rfl) [.bool true] [] (by kernel_rfl) rfl rfl ((((hG2.trans hG3).trans hG6).trans hG10)) ?_
      -- end 4 (2)
      exact ⟨rfl, rfl⟩

theorem FlagsBack_ok (s0 s1 s2 s3 s4 s5 s6 s7 s8 s9 : Int) (h0 : 0 ≤ s0 ∧ s0 ≤ 65535) (h1 : 0 ≤ s1 ∧ s1 ≤ 65535) (h2 : 0 ≤ s2 ∧ s2 ≤ 4294967295) (h3 : 0 ≤ s3 ∧ s3 ≤ 4294967295) (h4 : 0 ≤ s4 ∧ s4 ≤ 255) (h5 : 0 ≤ s5 ∧ s5 ≤ 255) (h6 : 0 ≤ s6 ∧ s6 ≤ 255) (h7 : 0 ≤ s7 ∧ s7 ≤ 65535) (h8 : 0 ≤ s8 ∧ s8 ≤ 65535) (h9 : 0 ≤ s9 ∧ s9 ≤ 65535) (A : Option Addr) (c : Nat) (b : List Int) (G : Mem) (hb : rowAt (D.int .u8) G A b) (hle : b.length ≤ c) (hmx : c ≤ maxLen) : CallsG Try.prog 7 [.agg #[.int .u16 s0, .int .u16 s1, .int .u32 s2, .int .u32 s3, .int .u8 s4, .int .u8 s5, .int .u8 s6, .int .u16 s7, .int .u16 s8, .int .u16 s9], .slice A b.length c] G (fun _ v rows => v = .bool true ∧ rows = []) := by
  by_cases hin : (5 ≤ s4 ∧ s4 ≤ 15 ∧ s5 ≤ 7 ∧ s6 ≤ 63)
  · exact FlagsBack_in s0 s1 s2 s3 s4 s5 s6 s7 s8 s9 h0 h1 h2 h3 h4 h5 h6 h7 h8 h9 A c b G hb hle hmx hin
  · exact FlagsBack_out s0 s1 s2 s3 s4 s5 s6 s7 s8 s9 h0 h1 h2 h3 h4 h5 h6 h7 h8 h9 A c b G hb hle hmx hin
end Go.Proofs.YtjgpdbkkpomhjaaX
