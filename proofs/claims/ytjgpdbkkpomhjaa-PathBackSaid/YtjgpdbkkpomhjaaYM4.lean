/- Answers written and read again. Plain laws. Conditions: none. -/
import Derived.Test.YtjgpdbkkpomhjaaYM2
namespace Go.Proofs.YtjgpdbkkpomhjaaX
open Go.RowKit
set_option linter.unusedVariables false
theorem fine8 {s : Int} (hs : 0 ≤ s ∧ s ≤ 4294967295) : fineB (8, [s, 0], ⟨#[]⟩) = true := by
  unfold fineB
  rw [show szk 8 = 4 from rfl, show lk2 8 = 2 from rfl, show mk2 8 = 2 from rfl]
  simp
  omega
theorem fine172 (x y z : Int) : fineB (172, al 172 x y z 3, ⟨#[]⟩) = true := by
  unfold fineB
  rw [show szk 172 = 3 from rfl, show lk2 172 = 0 from rfl, show mk2 172 = 3 from rfl, al_172]
  simp
  omega
theorem opW_err {s x y z : Int} (hs : 0 ≤ s ∧ s ≤ 4294967295) : errO (opW s x y z) = 0 := by
  by_cases h : 0 ≤ x ∧ 0 ≤ y ∧ 0 ≤ z
  · have hc : chk [] (opW s x y z) = 0 := by
      rw [opW_two h, chk, if_pos (fine8 hs), if_neg (by simp [hadB]), chk, if_pos (fine172 x y z), if_neg (by simp [hadB])]
      rfl
    unfold errO
    rw [hc, if_neg (by decide), if_neg]
    rw [opW_two h, show sumO [(8, [s, 0], ⟨#[]⟩), (172, al 172 x y z 3, ⟨#[]⟩)] = 21 from rfl]
    decide
  · have hc : chk [] (opW s x y z) = 0 := by
      rw [opW_one h, chk, if_pos (fine8 hs), if_neg (by simp [hadB])]
      rfl
    unfold errO
    rw [hc, if_neg (by decide), if_neg]
    rw [opW_one h, show sumO [(8, [s, 0], ⟨#[]⟩)] = 10 from rfl]
    decide
theorem opW_nums {s x y z : Int} (hs : 0 ≤ s ∧ s ≤ 4294967295) : ∀ o ∈ opW s x y z, ∀ n ∈ o.2.1, 0 ≤ n := by
  intro o ho n hn
  by_cases h : 0 ≤ x ∧ 0 ≤ y ∧ 0 ≤ z
  · rw [opW_two h] at ho
    simp only [List.mem_cons, List.not_mem_nil, or_false] at ho
    rcases ho with rfl | rfl
    · simp at hn; omega
    · rw [al_172] at hn; simp at hn; omega
  · rw [opW_one h] at ho
    simp only [List.mem_cons, List.not_mem_nil, or_false] at ho
    subst ho
    simp at hn; omega
theorem wrP_range {f : Int} {k : Ak} (hs : 0 ≤ k.s ∧ k.s ≤ 4294967295) (ha : 7 < k.a) : wrP f k = ([], 2) := by
  unfold wrP
  exact encS_form (opW_err hs) (by decide) (fun h => by have h1 : k.a ≤ 7 := h.1; omega)
/-- What an answer's bytes tell. -/
theorem wrP_back {f : Int} {k : Ak} (hs : 0 ≤ k.s ∧ k.s ≤ 4294967295) (ha : 0 ≤ k.a ∧ k.a ≤ 7) : (wrP f k).2 = 0 ∧ ∃ g, g.s1 = f % 65536 ∧ g.s3 = k.u % 4294967296 ∧ g.s5 = k.a ∧ g.s6 = 16 ∧ decS exW (wrP f k).1 = ((g, opW k.s k.x k.y k.z, ⟨#[]⟩), 0) := by
  have hh : (hdW f k.u k.a).ok := hdW_ok (by omega)
  have he := opW_err (x := k.x) (y := k.y) (z := k.z) hs
  have e : wrP f k = (rawS (hdW f k.u k.a) (opW k.s k.x k.y k.z) ⟨#[]⟩ (sumS exW (hdW f k.u k.a) (opW k.s k.x k.y k.z) ⟨#[]⟩), 0) := encS_fine he (by decide) ⟨ha.2, by show (16 : Int) ≤ 63; decide⟩
  refine ⟨by rw [e], _, ?_, ?_, ?_, ?_, by rw [e]; exact dec_enc exW_ok hh (opW_nums hs) he (by decide) ha.2 (by show (16 : Int) ≤ 63; decide)⟩ <;> rfl
theorem find8 (s x y z : Int) : findO (opW s x y z) 8 = ((8, [s, 0], ⟨#[]⟩), true) := by
  by_cases h : 0 ≤ x ∧ 0 ≤ y ∧ 0 ≤ z
  · rw [opW_two h]; rfl
  · rw [opW_one h]; rfl
theorem find172 {s x y z : Int} (h : 0 ≤ x ∧ 0 ≤ y ∧ 0 ≤ z) : findO (opW s x y z) 172 = ((172, al 172 x y z 3, ⟨#[]⟩), true) := by rw [opW_two h]; rfl
theorem find_no {s x y z : Int} (h : ¬ (0 ≤ x ∧ 0 ≤ y ∧ 0 ≤ z)) : findO (opW s x y z) 172 = (opt0, false) ∧ findO (opW s x y z) 174 = (opt0, false) := by rw [opW_one h]; exact ⟨rfl, rfl⟩
theorem unw_near {last u : Int} (h0 : 0 ≤ last) (h1 : last ≤ 4611686018427387904) (h2 : -2147483648 ≤ u - last) (h3 : u - last ≤ 2147483647) : unw last (u % 4294967296) = u := by
  have hf : farL last = last := by unfold farL; omega
  unfold unw dif
  rw [hf]
  omega
theorem cnt_al {x y z : Int} (hx : 0 ≤ x ∧ x ≤ 16777215) (hy : 0 ≤ y ∧ y ≤ 16777215) (hz : 0 ≤ z ∧ z ≤ 16777215) : ct 172 (al 172 x y z 3) 0 = x ∧ ct 172 (al 172 x y z 3) 1 = y ∧ ct 172 (al 172 x y z 3) 2 = z := by
  have e : al 172 x y z 3 = [x, y, z] := by rw [al_172, Int.emod_eq_of_lt hx.1 (by omega), Int.emod_eq_of_lt hy.1 (by omega), Int.emod_eq_of_lt hz.1 (by omega)]
  rw [e]
  exact ⟨rfl, rfl, rfl⟩
/-- What is written is read as it was, of a last that is not far. -/
theorem path_back {f last : Int} {k : Ak} (hs : 0 ≤ k.s ∧ k.s ≤ 4294967295) (ha : 0 ≤ k.a ∧ k.a ≤ 7) (hl : 0 ≤ last ∧ last ≤ 4611686018427387904) (hu : -2147483648 ≤ k.u - last ∧ k.u - last ≤ 2147483647)
    (hb : (0 ≤ k.x ∧ k.x ≤ 16777215) ∧ (0 ≤ k.y ∧ k.y ≤ 16777215) ∧ (0 ≤ k.z ∧ k.z ≤ 16777215) ∨ k.x = -1 ∧ k.y = -1 ∧ k.z = -1) : rdP f (wrP f k).1 last = (k, 0) ∧ rdP (f + 1) (wrP f k).1 last = (ak0, 5) := by
  obtain ⟨_, g, g1, g3, g5, g6, hd⟩ := wrP_back (f := f) hs ha
  have h8 := find8 k.s k.x k.y k.z
  have hk : okA f g (opW k.s k.x k.y k.z) = true := okA_fine g1 (by rw [g6]; decide) (by rw [h8])
  refine ⟨?_, ?_⟩
  · rw [rdP_fine hd rfl hk]
    have hunw := unw_near hl.1 hl.2 hu.1 hu.2
    have e : ackOf g (opW k.s k.x k.y k.z) last = k := by
      unfold ackOf
      rw [h8, g3, g5, hunw]
      rcases hb with ⟨h1, h2, h3⟩ | ⟨h1, h2, h3⟩
      · rw [find172 ⟨h1.1, h2.1, h3.1⟩]
        obtain ⟨c1, c2, c3⟩ := cnt_al h1 h2 h3
        simp only [if_true, c1, c2, c3]
        rfl
      · obtain ⟨n1, n2⟩ := find_no (s := k.s) (x := k.x) (y := k.y) (z := k.z) (by omega)
        rw [n1, n2]
        simp only [Bool.false_eq_true, if_false]
        show (⟨k.u, k.s, k.a, ct 0 [] 0, ct 0 [] 1, ct 0 [] 2⟩ : Ak) = k
        rw [show ct 0 [] 0 = k.x by rw [h1]; rfl, show ct 0 [] 1 = k.y by rw [h2]; rfl, show ct 0 [] 2 = k.z by rw [h3]; rfl]
    rw [e]
  · exact rdP_form hd rfl (okA_dst (by rw [g1]; omega))
theorem half {n : Int} (h : -2147483648 ≤ n ∧ n ≤ 2147483647) : -1073741824 ≤ Int.tdiv n 2 ∧ Int.tdiv n 2 ≤ 1073741824 := by
  have h1 := Int.tmod_add_mul_tdiv n 2
  have h2 : Int.tmod n 2 < 2 := Int.tmod_lt_of_pos _ (by decide)
  have h3 : -2 < Int.tmod n 2 := by
    rcases Int.le_total 0 n with h | h
    · rw [Int.tmod_eq_emod_of_nonneg h]; omega
    · have h2 : Int.tmod n 2 = -(Int.tmod (-n) 2) := by rw [Int.neg_tmod, Int.neg_neg]
      rw [h2, Int.tmod_eq_emod_of_nonneg (by omega)]; omega
  omega
end Go.Proofs.YtjgpdbkkpomhjaaX
