/- Parts read, put in a row and joined: what is told. Plain definitions and laws. Conditions: none. -/
import Derived.Test.YtjgpdbkkpomhjaaYJD
namespace Go.Proofs.YtjgpdbkkpomhjaaX
open Go.RowKit
set_option linter.unusedVariables false
theorem X.joinCG {C : Ctx} {cur : Cur} {k : List CK} {s : S} {R : List (Nat × Row)} {G : Mem} (cur2 : Cur) (k2 : List CK) (s2 : S) (HJ : ∀ G2, Ge G C.w0.heap.size G2 → X C cur2 k2 s2 R G2) (K : (∀ G2, Ge G C.w0.heap.size G2 → X C cur2 k2 s2 R G2) → X C cur k s R G) : X C cur k s R G := K HJ
theorem X.castS {C : Ctx} {cur : Cur} {k : List CK} {s : S} {R : List (Nat × Row)} {G : Mem} (s' : S) (h : s = s') (H : X C cur k s' R G) : X C cur k s R G := by
  subst h
  exact H
theorem pkD_eq {G : Mem} : ∀ {xs : List Pk} {cs : List Value}, repsD pkD G xs cs → cs = xs.flatMap pkC
  | [], _, h => h
  | x :: r, _, ⟨c0, c1, rfl, h0, h1⟩ => by
    have h0 : c0 = pkC x := h0
    rw [h0, pkD_eq h1, List.flatMap_cons]
theorem at_pks {G : Mem} {A : Option Addr} {xs : List Pk} (R : List (Nat × Row)) (h : rowAt pkD G A xs) : At G R A 0 (xs.flatMap pkC) := by
  obtain ⟨cs, h1, h2⟩ := At.all R h
  rw [← pkD_eq h1]
  exact h2
theorem ones_pk {l : List Pk} : ∀ u ∈ l.flatMap pkC, u.oneCell' = true := fun u hu => by
  obtain ⟨x, _, hx⟩ := List.mem_flatMap.mp hu
  exact pkC_one x u hx
theorem pks_len (l : List Pk) : (l.flatMap pkC).length = l.length * 14 := flat_len pkC_len l
def arrB (a b c d e f g h : Int) : Bool := (((a : Int) == e) && (((b : Int) == f) && (((c : Int) == g) && (((d : Int) == h) && true))))
/-- Parts that belong together. -/
def sameI (p f : Ih) : Bool := (p.x3 == f.x3) && ((p.x2 == f.x2) && (arrB p.x5 p.x6 p.x7 p.x8 f.x5 f.x6 f.x7 f.x8 && arrB p.x9 p.y0 p.y1 p.y2 f.x9 f.y0 f.y1 f.y2))
def firstI (l : List Pk) (p : Pk) : Pk := if 0 < l.length then l.getD 0 pk0 else p
def moreI (h : Ih) : Bool := h.x4 / 8192 % 2 == 1
/-- What is wrong with one more part; 0: nothing. -/
def stepI (l : List Pk) (b : List Int) : Int :=
  if (decI b).2 ≠ 0 then (decI b).2 else if sameI (decI b).1.1 (firstI l (decI b).1).1 = false then 7 else if moreI (decI b).1.1 = true ∧ (decI b).1.2.size % 8 ≠ 0 then 5 else 0
section
variable {b : List Int} {h : Ih} {d : ByteArray} {e : Int} {l : List Pk} {f : Pk}
theorem stepI_err (hd : decI b = ((h, d), e)) (he : e ≠ 0) : stepI l b = e := by unfold stepI; rw [hd]; exact if_pos he
theorem stepI_kind (hd : decI b = ((h, d), e)) (he : e = 0) (hf : firstI l (h, d) = f) (hs : sameI h f.1 = false) : stepI l b = 7 := by
  unfold stepI; rw [hd, if_neg (fun h_ => h_ he), hf]; exact if_pos hs
theorem stepI_form (hd : decI b = ((h, d), e)) (he : e = 0) (hf : firstI l (h, d) = f) (hs : sameI h f.1 = true) (hm : moreI h = true ∧ d.size % 8 ≠ 0) : stepI l b = 5 := by
  unfold stepI; rw [hd, if_neg (fun h_ => h_ he), hf, if_neg (by rw [hs]; decide)]; exact if_pos hm
theorem stepI_fine (hd : decI b = ((h, d), e)) (he : e = 0) (hf : firstI l (h, d) = f) (hs : sameI h f.1 = true) (hm : ¬ (moreI h = true ∧ d.size % 8 ≠ 0)) : stepI l b = 0 := by
  unfold stepI; rw [hd, if_neg (fun h_ => h_ he), hf, if_neg (by rw [hs]; decide)]; exact if_neg hm
end
theorem same1 {p f : Ih} (h : p.x3 ≠ f.x3) : sameI p f = false := by unfold sameI; rw [beq_false_of_ne h]; rfl
theorem same2 {p f : Ih} (h : p.x2 ≠ f.x2) : sameI p f = false := by unfold sameI; rw [beq_false_of_ne h]; simp
theorem same3 {p f : Ih} (h : arrB p.x5 p.x6 p.x7 p.x8 f.x5 f.x6 f.x7 f.x8 = false) : sameI p f = false := by unfold sameI; rw [h]; simp
theorem same4 {p f : Ih} (h : arrB p.x9 p.y0 p.y1 p.y2 f.x9 f.y0 f.y1 f.y2 = false) : sameI p f = false := by unfold sameI; rw [h]; simp
theorem same5 {p f : Ih} (h1 : p.x3 = f.x3) (h2 : p.x2 = f.x2) (h3 : arrB p.x5 p.x6 p.x7 p.x8 f.x5 f.x6 f.x7 f.x8 = true) (h4 : arrB p.x9 p.y0 p.y1 p.y2 f.x9 f.y0 f.y1 f.y2 = true) : sameI p f = true := by unfold sameI; rw [h1, h2, h3, h4]; simp
def readI : List Pk → List (List Int) → List Pk × Int
  | l, [] => (l, 0)
  | l, b :: bs => if stepI l b ≠ 0 then ([], stepI l b) else readI (l ++ [(decI b).1]) bs
theorem readI_bad {l : List Pk} {ps : List (List Int)} {i : Nat} (hi : i < ps.length) {e : Int} (h : stepI l (ps.getD i []) = e) (he : e ≠ 0) : readI l (ps.drop i) = ([], e) := by
  rw [List.drop_eq_getElem_cons hi]
  have e1 : ps[i] = ps.getD i [] := by simp [List.getD, hi]
  rw [e1, readI, h, if_pos he]
theorem readI_next {l : List Pk} {ps : List (List Int)} {i : Nat} (hi : i < ps.length) (h : stepI l (ps.getD i []) = 0) : readI l (ps.drop i) = readI (l ++ [(decI (ps.getD i [])).1]) (ps.drop (i + 1)) := by
  rw [List.drop_eq_getElem_cons hi]
  have e1 : ps[i] = ps.getD i [] := by simp [List.getD, hi]
  rw [e1, readI, h, if_neg (fun h_ => h_ rfl)]
theorem readI_end {l : List Pk} {ps : List (List Int)} {i : Nat} (hi : ps.length ≤ i) : readI l (ps.drop i) = (l, 0) := by
  rw [List.drop_of_length_le hi, readI]
/-- A part that may be. -/
def okP (x : Pk) : Prop := x.1.ok ∧ x.2.size ≤ 65515 ∧ x.1.x4 < 32768
theorem readI_ok : ∀ (ps : List (List Int)) (l : List Pk), (∀ b ∈ ps, isBytes b) → (∀ x ∈ l, okP x) → (∀ x ∈ (readI l ps).1, okP x) ∧ (readI l ps).1.length ≤ l.length + ps.length
  | [], l, _, hl => ⟨hl, Nat.le_refl _⟩
  | b :: bs, l, hb, hl => by
    rw [readI]
    split
    · exact ⟨fun x h => absurd h (List.not_mem_nil), Nat.zero_le _⟩
    · have hd := decI_ok (hb b List.mem_cons_self)
      have := readI_ok bs (l ++ [(decI b).1]) (fun y hy => hb y (List.mem_cons_of_mem _ hy)) (fun x hx => by
        rcases List.mem_append.1 hx with h | h
        · exact hl x h
        · rw [List.mem_singleton.1 h]; exact ⟨hd.1, hd.2.2.1, hd.2.2.2⟩)
      refine ⟨this.1, Nat.le_trans this.2 ?_⟩
      simp only [List.length_append, List.length_cons, List.length_nil]
      omega
/-- All that parts bring, in a row; false: they do not lie one behind the other. -/
def rowI : List Int → List Pk → List Int × Bool
  | acc, [] => (acc, true)
  | acc, p :: r => if plI p * 8 ≠ (acc.length : Int) then ([], false) else if r.length = 0 then (acc ++ bytesL p.2, !moreI p.1) else if moreI p.1 = false then ([], false) else rowI (acc ++ bytesL p.2) r
theorem rowI_step {acc : List Int} {l : List Pk} {i : Nat} (hi : i < l.length) : rowI acc (l.drop i) = if plI (l.getD i pk0) * 8 ≠ (acc.length : Int) then ([], false) else if i + 1 = l.length then (acc ++ bytesL (l.getD i pk0).2, !moreI (l.getD i pk0).1) else if moreI (l.getD i pk0).1 = false then ([], false) else rowI (acc ++ bytesL (l.getD i pk0).2) (l.drop (i + 1)) := by
  rw [List.drop_eq_getElem_cons hi]
  have e1 : l[i] = l.getD i pk0 := by simp [List.getD, hi]
  rw [e1, rowI]
  have e2 : ((l.drop (i + 1)).length = 0) = (i + 1 = l.length) := by
    rw [List.length_drop]
    exact propext ⟨fun h => by omega, fun h => by omega⟩
  simp only [e2]
/-- Is one of a code among them? -/
def hadI (l : List Pk) (k : Int) : Bool := l.any (fun x => x.1.x0 % 4 == k)
def codeJ (l : List Pk) : Int := if hadI l 3 = true then 3 else (l.getD 0 pk0).1.x0 % 4
def fitJ (l : List Pk) : Bool := if hadI l 3 = true then !hadI l 0 else true
def headJ (l : List Pk) : Ih := tosI (frI (l.getD 0 pk0).1 ((l.getD 0 pk0).1.x4 / 16384 % 2 * 16384)) (putT (l.getD 0 pk0).1.x0 (codeJ l))
/-- What parts come to, joined. -/
def joinI (ps : List (List Int)) : List Int × Int :=
  if (readI [] ps).2 ≠ 0 then ([], (readI [] ps).2) else if (readI [] ps).1.length = 0 then ([], 10)
  else if (rowI [] (sortI plI (readI [] ps).1)).2 = false then ([], 12)
  else if fitJ (sortI plI (readI [] ps).1) = false then ([], 7)
  else encI (headJ (sortI plI (readI [] ps).1)) (strOf (rowI [] (sortI plI (readI [] ps).1)).1)
section
variable {ps : List (List Int)} {l : List Pk} {e : Int}
theorem joinI_err (h : readI [] ps = (l, e)) (he : e ≠ 0) : joinI ps = ([], e) := by unfold joinI; rw [h]; exact if_pos he
theorem joinI_none (h : readI [] ps = (l, 0)) (h2 : l.length = 0) : joinI ps = ([], 10) := by unfold joinI; rw [h, if_neg (fun h_ => h_ rfl)]; exact if_pos h2
theorem joinI_order (h : readI [] ps = (l, 0)) (h2 : ¬ l.length = 0) (h3 : (rowI [] (sortI plI l)).2 = false) : joinI ps = ([], 12) := by
  unfold joinI; rw [h, if_neg (fun h_ => h_ rfl), if_neg h2]; exact if_pos h3
theorem joinI_kind (h : readI [] ps = (l, 0)) (h2 : ¬ l.length = 0) (h3 : ¬ (rowI [] (sortI plI l)).2 = false) (h4 : fitJ (sortI plI l) = false) : joinI ps = ([], 7) := by
  unfold joinI; rw [h, if_neg (fun h_ => h_ rfl), if_neg h2, if_neg h3]; exact if_pos h4
theorem joinI_fine (h : readI [] ps = (l, 0)) (h2 : ¬ l.length = 0) (h3 : ¬ (rowI [] (sortI plI l)).2 = false) (h4 : ¬ fitJ (sortI plI l) = false) : joinI ps = encI (headJ (sortI plI l)) (strOf (rowI [] (sortI plI l)).1) := by
  unfold joinI; rw [h, if_neg (fun h_ => h_ rfl), if_neg h2, if_neg h3]; exact if_neg h4
end
end Go.Proofs.YtjgpdbkkpomhjaaX
