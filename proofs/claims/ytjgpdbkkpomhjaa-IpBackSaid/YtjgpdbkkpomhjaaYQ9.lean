/- What is parted is joined: plain laws. Conditions: none. -/
import Derived.Test.YtjgpdbkkpomhjaaYQ8
namespace Go.Proofs.YtjgpdbkkpomhjaaX
open Go.RowKit
set_option linter.unusedVariables false
/-- A part of a packet with the header H: the same but for its place and its code. -/
structure Hp (H : Ih) (x : Pk) : Prop where
  is : x.1 = tosI (frI H x.1.x4) x.1.x0
  lo : 0 ≤ x.1.x4 ∧ x.1.x4 < 16384
  to : x.1.x0 = H.x0 ∨ (H.x0 % 4 ≠ 0 ∧ x.1.x0 = putT H.x0 3)
  sz : x.2.size ≤ 300
section
variable {H : Ih} {x f : Pk}
theorem Hp.ok (hH : H.ok) (h : Hp H x) : x.1.ok := by
  have h0 := hH.h0
  rw [h.is]
  refine tosI_ok (frI_ok hH ⟨h.lo.1, by have := h.lo.2; omega⟩) ?_
  rcases h.to with e | ⟨_, e⟩
  · rw [e]; exact h0
  · rw [e]; unfold putT; omega
theorem Hp.dec (hH : H.ok) (h : Hp H x) : decI (encP x) = (x, 0) := decI_enc (h.ok hH) (by have := h.lo.2; omega) (by have := h.sz; omega)
theorem Hp.same (h : Hp H x) (hf : Hp H f) : sameI x.1 f.1 = true := by
  have e1 := h.is
  have e2 := hf.is
  generalize x.1 = u at e1
  generalize f.1 = v at e2
  have a (z : Int) : (z == z) = true := beq_self_eq_true z
  rw [e1, e2]
  simp [sameI, arrB, tosI, frI]
end
theorem chn_more {m : Bool} : ∀ {l : List Pk} {s : Nat}, chn m s l → ∀ x ∈ l, moreI x.1 = true → 0 < x.2.size ∧ x.2.size % 8 = 0
  | [], _, h => h.elim
  | [x], s, h => by
    intro y hy hm
    rw [List.mem_singleton.1 hy] at hm ⊢
    exact h.sz (h.mo.symm.trans hm)
  | x :: y :: l, s, h => by
    intro z hz hm
    rcases List.mem_cons.1 hz with rfl | hz
    · exact h.1.sz rfl
    · exact chn_more h.2 z hz hm
theorem chn_len {m : Bool} : ∀ {l : List Pk} {s : Nat}, chn m s l → 0 < l.length ∧ 8 * (l.length - 1) ≤ (catD l).length
  | [], _, h => h.elim
  | [x], s, h => ⟨Nat.one_pos, Nat.zero_le _⟩
  | x :: y :: l, s, h => by
    have ih := chn_len h.2
    have h1 := h.1.sz rfl
    rw [catD_cons, List.length_append, bytesL_length]
    simp only [List.length_cons] at ih ⊢
    omega
theorem read_all {H : Ih} (hH : H.ok) : ∀ (ps acc : List Pk), (∀ x ∈ acc, Hp H x) → (∀ x ∈ ps, Hp H x ∧ (moreI x.1 = true → x.2.size % 8 = 0)) → readI acc (ps.map encP) = (acc ++ ps, 0)
  | [], acc, _, _ => by rw [List.append_nil]; rfl
  | x :: ps, acc, ha, hp => by
    have hx := hp x List.mem_cons_self
    have hd := hx.1.dec hH
    have hf : Hp H (firstI acc x) := by
      unfold firstI
      split
      · exact ha _ (getD_mem (by omega))
      · exact hx.1
    have hs : stepI acc (encP x) = 0 := stepI_fine (h := x.1) (d := x.2) (e := 0) (f := firstI acc x) hd rfl rfl (hx.1.same hf) (fun h => h.2 (hx.2 h.1))
    rw [List.map_cons, readI, hs, if_neg (fun h => h rfl), hd]
    rw [read_all hH ps (acc ++ [x]) (fun y hy => by
      rcases List.mem_append.1 hy with h | h
      · exact ha y h
      · rw [List.mem_singleton.1 h]; exact hx.1) (fun y hy => hp y (List.mem_cons_of_mem _ hy))]
    rw [List.append_assoc]
    rfl
theorem putT_id {x : Int} : putT x (x % 4) = x := by unfold putT; omega
theorem frI_none {H : Ih} (h : H.x4 = 0) : frI H 0 = H := by
  obtain ⟨x0, x1, x2, x3, x4, x5, x6, x7, x8, x9, y0, y1, y2⟩ := H
  have h : x4 = 0 := h
  subst h
  rfl
/-- The code that comes of it. -/
def toB (H : Ih) : Int := if H.x0 % 4 = 0 then H.x0 else putT H.x0 3
theorem put_mod {x : Int} : putT x 3 % 4 = 3 ∧ putT (putT x 3) 3 = putT x 3 := by unfold putT; omega
theorem had_not {l : List Pk} {k : Int} (h : ∀ x ∈ l, x.1.x0 % 4 ≠ k) : hadI l k = false := by
  unfold hadI
  rw [List.any_eq_false]
  intro x hx
  simpa using h x hx
theorem had_yes {l : List Pk} {k : Int} {x : Pk} (hx : x ∈ l) (h : x.1.x0 % 4 = k) : hadI l k = true := List.any_eq_true.mpr ⟨x, hx, by simpa using h⟩
theorem head_is {H : Ih} (h4 : H.x4 = 0) {Q : List Pk} (h0 : 0 < Q.length) (hq : ∀ x ∈ Q, Hp H x) (hk : H.x0 % 4 ≠ 0 → ∃ x ∈ Q, x.1.x0 = putT H.x0 3) : headJ Q = tosI H (toB H) ∧ fitJ Q = true := by
  have hx := hq _ (getD_mem (d := pk0) h0)
  have hlo := hx.lo
  have e0 : (Q.getD 0 pk0).1.x4 / 16384 % 2 * 16384 = 0 := by omega
  have ef : frI (Q.getD 0 pk0).1 0 = tosI (frI H 0) (Q.getD 0 pk0).1.x0 := by
    have e1 := hx.is
    generalize hz : (Q.getD 0 pk0).1.x0 = t at *
    generalize (Q.getD 0 pk0).1 = u at *
    rw [e1]
    rfl
  unfold headJ toB
  rw [e0, ef, frI_none h4]
  by_cases hm : H.x0 % 4 = 0
  · have hall : ∀ x ∈ Q, x.1.x0 = H.x0 := fun x hx => by
      rcases (hq x hx).to with e | ⟨e, _⟩
      · exact e
      · exact absurd hm e
    have h3 : hadI Q 3 = false := had_not fun x hx => by rw [hall x hx]; omega
    have hc : codeJ Q = (Q.getD 0 pk0).1.x0 % 4 := by unfold codeJ; rw [h3]; exact if_neg (by decide)
    rw [if_pos hm, hc, putT_id, hall _ (getD_mem h0)]
    exact ⟨rfl, by unfold fitJ; rw [h3]; exact if_neg (by decide)⟩
  · obtain ⟨x, hxq, hxm⟩ := hk hm
    have h3 : hadI Q 3 = true := had_yes hxq (by rw [hxm]; exact put_mod.1)
    have hz : hadI Q 0 = false := had_not fun y hy => by
      rcases (hq y hy).to with e | ⟨_, e⟩
      · rw [e]; exact hm
      · rw [e, put_mod.1]; decide
    have hc : codeJ Q = 3 := by unfold codeJ; exact if_pos h3
    have hp : putT (Q.getD 0 pk0).1.x0 3 = putT H.x0 3 := by
      rcases hx.to with e | ⟨_, e⟩
      · rw [e]
      · rw [e]; exact put_mod.2
    rw [if_neg hm, hc, hp]
    exact ⟨rfl, by unfold fitJ; rw [if_pos h3, hz]; rfl⟩
/-- Nothing else is these parts in order. -/
theorem one_sorted {Q Q' l : List Pk} {m : Bool} {s : Nat} (hc : chn m s Q) (hp : Q'.Perm Q) (h : l.Perm Q') (hs : SortedP plI l) : l = Q := sorted_one (chn_up hc) (h.trans hp) hs
theorem turn_perm {α : Type} (Q : List α) (k : Nat) : (Q.drop k ++ Q.take k).Perm Q := by
  have h := (List.perm_append_comm (l₁ := Q.drop k) (l₂ := Q.take k))
  rwa [List.take_append_drop] at h
theorem join_back {H : Ih} (hH : H.ok) (h4 : H.x4 = 0) {d : ByteArray} {Q : List Pk} (hc : chn false 0 Q) (hcat : catD Q = bytesL d) (hq : ∀ x ∈ Q, Hp H x) (hk : H.x0 % 4 ≠ 0 → ∃ x ∈ Q, x.1.x0 = putT H.x0 3) {Q' : List Pk} (hp : Q'.Perm Q) : readI [] (Q'.map encP) = (Q', 0) ∧ joinI (Q'.map encP) = encI (tosI H (toB H)) d := by
  have h0 := (chn_len hc).1
  have hr : readI [] (Q'.map encP) = (Q', 0) := by
    have := read_all hH Q' [] (fun x h => absurd h List.not_mem_nil) (fun x hx => by
      have hx := hp.mem_iff.mp hx
      exact ⟨hq x hx, fun hm => (chn_more hc x hx hm).2⟩)
    rwa [List.nil_append] at this
  have hs : sortI plI Q' = Q := one_sorted hc hp (sortI_perm _) (sortI_sorted _)
  have hrow : rowI [] Q = (bytesL d, true) := by
    rw [chn_row (acc := []) hc, hcat, List.nil_append]
  have hh := head_is h4 h0 hq hk
  refine ⟨hr, ?_⟩
  rw [joinI_fine hr (by have := hp.length_eq; omega) (fun h => by rw [hs, hrow] at h; cases h) (fun h => by rw [hs, hh.2] at h; cases h), hs, hh.1, hrow, strOf_bytesL]
theorem join_less {H : Ih} (hH : H.ok) {Q : List Pk} (hc : chn false 0 Q) (hq : ∀ x ∈ Q, Hp H x) (h1 : 1 < Q.length) : readI [] ((Q.drop 1).map encP) = (Q.drop 1, 0) ∧ (joinI ((Q.drop 1).map encP)).2 = 12 ∧ (joinI ((Q.drop 1).map encP)).1 = [] ∧ ∀ l, l.Perm (Q.drop 1) → SortedP plI l → l = sortI plI (Q.drop 1) := by
  match Q, hc, h1 with
  | [x], _, h1 => simp at h1
  | x0 :: y :: r, hc, _ =>
    simp only [List.drop_succ_cons, List.drop_zero]
    have hr : readI [] ((y :: r).map encP) = (y :: r, 0) := by
      have := read_all hH (y :: r) [] (fun x h => absurd h List.not_mem_nil) (fun x hx => by
        have hx := List.mem_cons_of_mem x0 hx
        exact ⟨hq _ hx, fun hm => (chn_more hc _ hx hm).2⟩)
      rwa [List.nil_append] at this
    have hs : sortI plI (y :: r) = y :: r := one_sorted hc.2 (List.Perm.refl _) (sortI_perm _) (sortI_sorted _)
    have hz := (hc.1.sz rfl).1
    have hl := chn_low hc.2 y List.mem_cons_self
    have hrow : (rowI [] (y :: r)).2 = false := by
      rw [rowI, if_pos (by simp only [List.length_nil]; omega)]
    have hj := joinI_order hr (by simp) (by rw [hs]; exact hrow)
    refine ⟨hr, by rw [hj], by rw [hj], fun l hp hl => ?_⟩
    rw [hs]
    exact one_sorted hc.2 (List.Perm.refl _) hp hl
/-- A part, marked. -/
def mkP (x : Pk) : Pk := (tosI x.1 (putT x.1.x0 3), x.2)
def lastM (q : List Pk) : List Pk := q.set (q.length - 1) (mkP (q.getD (q.length - 1) pk0))
/-- What becomes of the i-th part. -/
def grp (H : Ih) (L : List Pk) (mtu : Int) (k i : Nat) : List Pk := if i = k ∧ H.x0 % 4 ≠ 0 then lastM (sP (L.getD i pk0) mtu) else sP (L.getD i pk0) mtu
theorem lastM_key (q : List Pk) : (lastM q).map (fun x : Pk => (x.1.x4, x.2)) = q.map (fun x : Pk => (x.1.x4, x.2)) := by
  unfold lastM
  rw [List.map_set]
  by_cases h : q.length - 1 < q.length
  · refine List.ext_getElem? fun i => ?_
    rw [List.getElem?_set]
    split
    · rename_i e
      subst e
      rw [if_pos (by simpa using h)]
      simp [mkP, tosI, List.getD, h]
    · rfl
  · rw [List.set_eq_of_length_le (by rw [List.length_map]; omega)]
theorem sP_hp {H : Ih} {x : Pk} {s : Nat} {m : Bool} {mtu : Int} (hm : 28 ≤ mtu) (hx : Hp H x) (hp : x.1.x4 % 8192 + (x.2.size : Int) / 8 ≤ 8191) : ∀ y ∈ sP x mtu, Hp H y ∧ y.1.x0 = x.1.x0 := by
  intro y hy
  unfold sP at hy
  split at hy
  · rw [List.mem_singleton.1 hy]; exact ⟨hx, rfl⟩
  · rename_i h
    obtain ⟨j, hj, rfl⟩ := List.mem_map.1 hy
    rw [List.mem_range] at hj
    have hM : (mS mtu : Int) = (mtu - 20) / 8 * 8 := by unfold mS; omega
    generalize mS mtu = M at hM hj
    have hjn : j * M ≤ (nS x.2 M - 1) * M := Nat.mul_le_mul_right _ (by omega)
    have h1 : (nS x.2 M - 1) * M < x.2.size := by
      have h3 : nS x.2 M * M ≤ x.2.size + M - 1 := Nat.div_mul_le_self _ _
      rw [Nat.sub_mul]
      omega
    have hz := hx.sz
    have hlo := hx.lo
    refine ⟨⟨?_, ?_, hx.to, ?_⟩, rfl⟩
    · have e1 := hx.is
      show frI x.1 (fragS x.1 x.2 M j) = tosI (frI H (fragS x.1 x.2 M j)) x.1.x0
      generalize fragS x.1 x.2 M j = f
      generalize hz : x.1.x0 = t at *
      generalize x.1 = u at *
      rw [e1]
      rfl
    · show 0 ≤ fragS x.1 x.2 M j ∧ fragS x.1 x.2 M j < 16384
      unfold fragS moreS
      split <;> omega
    · show (datS x.2 M j).size ≤ 300
      unfold datS
      rw [ByteArray.size_extract]
      omega
/-- All that comes of a packet over two links. -/
def allP (H : Ih) (d : ByteArray) (m1 m2 : Int) (k : Nat) : List Pk := (List.range (sP (H, d) m1).length).flatMap (grp H (sP (H, d) m1) m2 k)
theorem ip_back {H : Ih} (hH : H.ok) (h4 : H.x4 = 0) {d : ByteArray} (hd : d.size ≤ 300) {m1 m2 : Int} (hm1 : 28 ≤ m1) (hm2 : 28 ≤ m2) {k : Nat} (hk : k < (sP (H, d) m1).length) :
    chn false 0 (allP H d m1 m2 k) ∧ catD (allP H d m1 m2 k) = bytesL d ∧ (∀ x ∈ allP H d m1 m2 k, Hp H x) ∧ (H.x0 % 4 ≠ 0 → ∃ x ∈ allP H d m1 m2 k, x.1.x0 = putT H.x0 3) ∧ 0 < (allP H d m1 m2 k).length ∧ (allP H d m1 m2 k).length ≤ 38 := by
  have hH1 : Hp H (H, d) := ⟨by
    show H = tosI (frI H H.x4) H.x0
    rfl, by show 0 ≤ H.x4 ∧ H.x4 < 16384; omega, .inl rfl, hd⟩
  have hl1 : Lnk 0 false (H, d) := ⟨by show H.x4 % 8192 * 8 = _; omega, by show (H.x4 / 8192 % 2 == 1) = false; rw [h4]; rfl, fun h => by cases h⟩
  have hp1 : H.x4 % 8192 + (d.size : Int) / 8 ≤ 8191 := by omega
  have hL := sP_chn hm1 hl1 hp1
  have hLh := sP_hp (s := 0) (m := false) hm1 hH1 hp1
  unfold allP
  generalize sP (H, d) m1 = L at *
  have hlow : ∀ x ∈ L, x.1.x4 % 8192 + (x.2.size : Int) / 8 ≤ 8191 := by
    have key : ∀ {l : List Pk} {s : Nat}, chn false s l → s + (catD l).length ≤ 300 → ∀ x ∈ l, plI x * 8 + (x.2.size : Int) ≤ 300 := by
      intro l
      induction l with
      | nil => intro s h; exact h.elim
      | cons x l ih =>
        intro s h hs y hy
        cases l with
        | nil =>
          rw [List.mem_singleton.1 hy]
          have := h.pl
          rw [catD_one, bytesL_length] at hs
          omega
        | cons z l =>
          rw [catD_cons, List.length_append, bytesL_length] at hs
          rcases List.mem_cons.1 hy with rfl | hy
          · have := h.1.pl
            omega
          · exact ih h.2 (by omega) y hy
    intro x hx
    have := key hL.1 (by rw [hL.2, bytesL_length]; show 0 + d.size ≤ 300; omega) x hx
    unfold plI at this
    omega
  have hg : ∀ j, ∀ hj : j < L.length, L.getD j pk0 = L[j] := fun j hj => by simp [List.getD, hj]
  have hF : ∀ j, ∀ hj : j < L.length, ∀ s m, Lnk s m L[j] → chn m s (grp H L m2 k (0 + j)) ∧ catD (grp H L m2 k (0 + j)) = bytesL L[j].2 := by
    intro j hj s m hl
    have h1 := sP_chn hm2 hl (hlow _ (List.getElem_mem hj))
    rw [Nat.zero_add]
    unfold grp
    rw [hg j hj]
    split
    · have := chn_map (lastM_key _) h1.1
      exact ⟨this.1, this.2.trans h1.2⟩
    · exact h1
  have hc := chn_flat (grp H L m2 k) (i := 0) hL.1 hF
  rw [← List.range_eq_range'] at hc
  have hcat := hc.2.trans hL.2
  have hlen := chn_len hc.1
  rw [hcat, bytesL_length] at hlen
  have hlen2 : 8 * (((List.range L.length).flatMap (grp H L m2 k)).length - 1) ≤ d.size := hlen.2
  have hne : ∀ j, ∀ hj : j < L.length, 0 < (sP L[j] m2).length := fun j hj => by
    have key : ∀ {l : List Pk} {s : Nat} {m : Bool}, chn m s l → ∀ x ∈ l, ∃ s m, Lnk s m x := by
      intro l
      induction l with
      | nil => intro s m h; exact h.elim
      | cons x l ih =>
        intro s m h y hy
        cases l with
        | nil => rw [List.mem_singleton.1 hy]; exact ⟨_, _, h⟩
        | cons z l =>
          rcases List.mem_cons.1 hy with rfl | hy
          · exact ⟨_, _, h.1⟩
          · exact ih h.2 y hy
    obtain ⟨s, m, hl⟩ := key hL.1 _ (List.getElem_mem hj)
    exact (chn_len (sP_chn hm2 hl (hlow _ (List.getElem_mem hj))).1).1
  have hmk : ∀ x, Hp H x → x.1.x0 = H.x0 → H.x0 % 4 ≠ 0 → Hp H (mkP x) ∧ (mkP x).1.x0 = putT H.x0 3 := fun x hx e hm => by
    have e1 := hx.is
    refine ⟨⟨?_, hx.lo, .inr ⟨hm, ?_⟩, hx.sz⟩, ?_⟩
    · show tosI x.1 (putT x.1.x0 3) = tosI (frI H x.1.x4) (putT x.1.x0 3)
      generalize putT x.1.x0 3 = t
      generalize hz : x.1.x4 = f at *
      generalize x.1 = u at *
      rw [e1]
      rfl
    · show putT x.1.x0 3 = _; rw [e]
    · show putT x.1.x0 3 = _; rw [e]
  refine ⟨hc.1, hcat, fun x hx => ?_, fun hm => ?_, hlen.1, by show _ ≤ 38; omega⟩
  · obtain ⟨j, hj, hx⟩ := List.mem_flatMap.1 hx
    rw [List.mem_range] at hj
    have hy := hLh _ (List.getElem_mem hj)
    have hs := sP_hp (s := 0) (m := false) hm2 hy.1 (hlow _ (List.getElem_mem hj))
    unfold grp at hx
    rw [hg j hj] at hx
    split at hx
    · rename_i hjk
      rcases List.mem_or_eq_of_mem_set hx with h | h
      · exact (hs x h).1
      · have hz := hs _ (getD_mem (d := pk0) (show (sP L[j] m2).length - 1 < (sP L[j] m2).length by have := hne j hj; omega))
        rw [h]
        exact (hmk _ hz.1 (hz.2.trans hy.2) hjk.2).1
    · exact (hs x hx).1
  · have hy := hLh _ (List.getElem_mem hk)
    have hs := sP_hp (s := 0) (m := false) hm2 hy.1 (hlow _ (List.getElem_mem hk))
    have hz := hs _ (getD_mem (d := pk0) (show (sP L[k] m2).length - 1 < (sP L[k] m2).length by have := hne k hk; omega))
    refine ⟨mkP ((sP L[k] m2).getD ((sP L[k] m2).length - 1) pk0), List.mem_flatMap.2 ⟨k, List.mem_range.2 hk, ?_⟩, (hmk _ hz.1 (hz.2.trans hy.2) hm).2⟩
    unfold grp
    rw [if_pos ⟨rfl, hm⟩, hg k hk]
    unfold lastM
    have hz0 := hne k hk
    exact List.mem_set (i := (sP L[k] m2).length - 1) (by omega) _
end Go.Proofs.YtjgpdbkkpomhjaaX
