/- More events. Conditions: none. -/
import Derived.Test.YthpinlcfcgnilaaXI
namespace Go.Proofs.YthpinlcfcgnilaaX
open Go.RowKit
open Go.Proofs.YthpinlcfcgnilaaW.PrintLast
set_option linter.unusedVariables false
set_option linter.unusedSimpArgs false
theorem rowAt.none {α : Type} {d : D α} {G : Mem} {A : Option Addr} {xs : List α} (h : rowAt d G A xs) (e : A = none) : xs.length = 0 := by
  cases xs with
  | nil => rfl
  | cons x l =>
    obtain ⟨ad, h1⟩ := h.isSome (i := 0) (by simp)
    rw [e] at h1
    cases h1
section
variable {C : Ctx} {k : List CK} {s : S} {R : List (Nat × Row)} {G : Mem} {arr : Array Oper} {o : Oper} {r : List Oper}
/-- bytes told as a string. -/
theorem X.toStrW {src dst e n c : Nat} {A : Option Addr} {x : Operand} (ns : List Int) (hop : o.op = .convert src dst x) (hx : s.ev x = some (.v (.slice A n c))) (hs : C.P.underlying src = some (.slice e)) (he : C.P.underlying e = some (.int .u8)) (hd : C.P.underlying dst = some .string) (hn : ns.length = n) (hat : At G R A 0 (ns.map (Value.int .u8))) (hA : ∀ w, Mm G R w → A = none → n = 0) (hg : (guardOk s arr o && s.can o.dst) = true)
    (H : X C (.ops arr r) k (s.put o.dst (.v (.string (strOf ns)))) R G) : X C (.ops arr (o :: r)) k s R G := by
  simp only [Bool.and_eq_true] at hg
  refine X.val _ hg.1 hg.2 (fun ρ a w hst => ?_) H
  simp only [execOp, hop, hst.ev hx, AV.real]
  refine run_v ?_
  rw [run_convert_bytes_string w src dst e A n c hs he hd]
  cases A with
  | none =>
    have h0 : n = 0 := hA w hst.mm rfl
    rw [h0] at hn
    rw [List.eq_nil_of_length_eq_zero hn]
    rfl
  | some ad =>
    refine run_bytesToString w ad n c ns ?_
    have := run_loadCells_list (P := C.P) (w := w) (a := ad) (cs := ns.map (Value.int .u8)) (h := fun j v hj => by
      have := (hat w hst.mm j v hj).2
      simpa [adr] using this)
    simpa [hn] using this
end
section
variable {C : Ctx} {arr : Array Oper} {ρ0 : Nat → Nat} {F : List Pin} {RF : List (Nat × Row)} {G0 G : Mem} {ds : List Nat} {m : Nat} {l l' : Array Bool} {k : List CK} {s : S} {R : List (Nat × Row)}
theorem XD.index {i : Nat} {o : Oper} {t e sz n c : Nat} {A : Option Addr} {ki : IntKind} {j : Int} {x ix : Operand} (hQ : QOk C) (ho : arr[i]? = some o) (hc : takeB .any arr ds l l' i = true) (hop : o.op = .indexAddr t x ix) (hx : s.ev x = some (.v (.slice A n c))) (hi : s.ev ix = some (.v (.int ki j))) (ht : C.P.underlying t = some (.slice e)) (hsz : spure C.P (sizeOf e) = some sz) (hg : (guardOk s arr o && s.can o.dst) = true) (h0 : 0 ≤ j) (h1 : j < n) (hA : ∀ w, Mm G0 RF w → A.isSome = true) (hd : F.all (offPin o.dst) = true)
    (H : XD C arr ρ0 F RF G0 ds m l' k (s.put o.dst (.v (elt A (j.toNat * sz)))) R G) : XD C arr ρ0 F RF G0 ds (m + 1) l k s R G :=
  XD.takeV _ hQ ho hc hg (fun ρ a w hs => by
    have e1 : a.eval x = .slice A n c := hs.ev (x := x) hx
    have e2 : a.eval ix = .int ki j := hs.ev (x := ix) hi
    simp only [execOp, hop, e1, e2]
    exact run_v (run_index ht hsz h0 h1 (hA w hs.mm) w)) hd H
theorem XD.load {i : Nat} {o : Oper} {t j : Nat} {A : Option Addr} {x : Operand} {z : Value} (vs : List Value) (hQ : QOk C) (ho : arr[i]? = some o) (hc : takeB .any arr ds l l' i = true) (hop : o.op = .load t x) (hx : s.ev x = some (.v (elt A j))) (hg : (guardOk s arr o && s.can o.dst) = true) (hat : At G0 RF A j vs) (hz : ldRes C.P t vs = some z) (hd : F.all (offPin o.dst) = true)
    (H : XD C arr ρ0 F RF G0 ds m l' k (s.put o.dst (.v z)) R G) : XD C arr ρ0 F RF G0 ds (m + 1) l k s R G :=
  XD.takeV _ hQ ho hc hg (fun ρ a w hs => by
    have e1 : a.eval x = elt A j := hs.ev (x := x) hx
    simp only [execOp, hop, e1]
    refine run_v (run_loadAt hz fun i v hi => ?_)
    rw [adr_add]
    exact (hat w hs.mm i v hi).2) hd H
theorem XD.cut {i : Nat} {o : Oper} {t e sz n c : Nat} {A : Option Addr} {x : Operand} {l0 h : Option Operand} {lv hv : Option Value} (lo hi : Nat) (hQ : QOk C) (ho : arr[i]? = some o) (hc : takeB .any arr ds l l' i = true) (hop : o.op = .slice t x l0 h none) (hx : s.ev x = some (.v (.slice A n c))) (hlv : evO s l0 = some lv) (hhv : evO s h = some hv) (ht : C.P.underlying t = some (.slice e)) (hsz : spure C.P (sizeOf e) = some sz) (hg : (guardOk s arr o && s.can o.dst) = true) (hl : bndV lv 0 lo) (hh : bndV hv n hi) (h1 : lo ≤ hi) (h2 : hi ≤ c) (hd : F.all (offPin o.dst) = true)
    (H : XD C arr ρ0 F RF G0 ds m l' k (s.put o.dst (.v (.slice (cutA A c lo sz) (hi - lo) (c - lo)))) R G) : XD C arr ρ0 F RF G0 ds (m + 1) l k s R G :=
  XD.takeV _ hQ ho hc hg (fun ρ a w hs => by
    have e1 : a.eval x = .slice A n c := hs.ev (x := x) hx
    have e2 := evO_ok (C := ⟨C.P, C.Q, w, ⟨fun _ => True, fun _ => none⟩⟩) (s := s.pinned F) hs hlv
    have e3 := evO_ok (C := ⟨C.P, C.Q, w, ⟨fun _ => True, fun _ => none⟩⟩) (s := s.pinned F) hs hhv
    simp only [execOp, hop, e1, e2, e3, Option.map_none]
    exact run_v (run_cut ht hsz hl hh h1 h2 w)) hd H
theorem XD.field {i : Nat} {o : Oper} {t f n j : Nat} {A : Option Addr} {x : Operand} (hQ : QOk C) (ho : arr[i]? = some o) (hc : takeB .any arr ds l l' i = true) (hop : o.op = .fieldAddr t x f) (hx : s.ev x = some (.v (elt A j))) (hf : fieldOff C.P t f = some n) (hg : (guardOk s arr o && s.can o.dst) = true) (hd : F.all (offPin o.dst) = true)
    (H : XD C arr ρ0 F RF G0 ds m l' k (s.put o.dst (.v (elt A (j + n)))) R G) : XD C arr ρ0 F RF G0 ds (m + 1) l k s R G :=
  XD.takeV _ hQ ho hc hg (fun ρ a w hs => by
    have e1 : a.eval x = elt A j := hs.ev (x := x) hx
    simp only [execOp, hop, e1]
    refine run_v ?_
    unfold fieldOff at hf
    split at hf
    · rename_i fs hu
      split at hf
      · rename_i fd hfd
        split at hf
        · rename_i q hm
          injection hf with hf
          subst hf
          unfold Instr.fieldAt
          rw [run_bind_ok (run_underlying hu w)]
          simp only [hfd]
          rw [run_bind_ok (show (Instr.sureAddr (elt A j)).run C.P w = .ok (adr A j) w from rfl)]
          have h2 : (fieldPlace (adr A j) fd).run C.P w = .ok (adr A (j + fd.offset)) w := by
            unfold fieldPlace
            rw [run_bind_ok (spure_run hm w)]
            simp only [Nat.add_eq_zero_iff, Nat.one_ne_zero, and_false, if_false, adr_add]
            rfl
          rw [run_bind_ok h2]
          rfl
        · cases hf
      · cases hf
    · cases hf) hd H
theorem XD.core {i : Nat} {n : Nat} (o : Oper) (ho : arr[i]? = some o) (hd : F.all (offPin o.dst) = true)
    (H : X C (.ops arr [o]) (.loop (fun s' R' G' => PinsOk s' F ∧ Le G0 G' ∧ pickL R' (RF.map (·.1)) = RF ∧ XD C arr ρ0 F RF G0 ds n (l.setIfInBounds i true) k s' R' G') :: k) s R G)
    (hr : refsOk F = true) (hp : PinsOk s F) (hG : Le G0 G) (hR : pickL R (RF.map (·.1)) = RF) {ρ : Nat → Nat} {a : Act} {w : World} (hs : St C.w0 C.M ρ G R s a w) (ha : sameT C.M F a ρ0) :
    wpOp C.P arr (den C k) i (fun a' w' => (i ∉ ds → SF ρ0 F RF G0 w → SF ρ0 F RF G0 w') ∧ wpAnyLast C.P .any arr (den C k) (SF ρ0 F RF G0) ds n (l.setIfInBounds i true) a' w') a w := by
  have hdp := fun p (hm : p ∈ F) => offPin_ne (List.all_eq_true.1 hd p hm)
  have hx := H ρ a w hs
  simp only [wpList] at hx
  have fin : ∀ a' w', den C (.loop (fun s' R' G' => PinsOk s' F ∧ Le G0 G' ∧ pickL R' (RF.map (·.1)) = RF ∧ XD C arr ρ0 F RF G0 ds n (l.setIfInBounds i true) k s' R' G') :: k) .normal a' w' → (∀ t, o.dst ≠ some t → a'.tmps[t]? = a.tmps[t]?) →
      (i ∉ ds → SF ρ0 F RF G0 w → SF ρ0 F RF G0 w') ∧ wpAnyLast C.P .any arr (den C k) (SF ρ0 F RF G0) ds n (l.setIfInBounds i true) a' w' := by
    rintro a' w' ⟨ρ', s', R', G', hs', hp', hG', hR', hX⟩ ht
    have ha' : sameT C.M F a' ρ0 := fun p hm => ⟨fun t he => (ht _ (hdp p hm t he)).trans ((ha p hm).1 t he), (ha p hm).2⟩
    exact ⟨fun _ _ => hs'.pinS hr hp' hG' hR' ha', hX hr hp' hG' hR' ρ' a' w' hs' ha'⟩
  have hQQ : ∀ e a w, e ≠ .normal → den C (.loop (fun s' R' G' => PinsOk s' F ∧ Le G0 G' ∧ pickL R' (RF.map (·.1)) = RF ∧ XD C arr ρ0 F RF G0 ds n (l.setIfInBounds i true) k s' R' G') :: k) e a w → den C k e a w := fun e a w he h => by
    cases e <;> first | exact absurd rfl he | exact h
  unfold wpOp
  simp only [ho]
  split at hx
  · rename_i hw
    rw [if_pos hw]
    rcases hx with hx | ⟨hx1, a1, w1, hx2⟩
    · exact .inl (Oper.wp_mono (fun a' w' h => fin a' w' h.1 h.2) (wp_keep hQQ hx))
    · exact .inr ⟨hx1, a1, w1, hQQ _ _ _ (by simp) hx2⟩
  · rename_i hw
    rw [if_neg hw]
    refine fin _ _ hx fun t ht => ?_
    cases hdd : o.dst with
    | none => rfl
    | some d =>
      have hne : ¬ d = t := fun e => ht (by rw [hdd, e])
      simp [Act.put, Array.getElem?_setIfInBounds, hne]
/-- Two that may come now. -/
theorem XD.two {i j : Nat} {li lj : Array Bool} {n : Nat} (oi oj : Oper) (hoi : arr[i]? = some oi) (hoj : arr[j]? = some oj) (hc : ((Region.ready .any arr l == [i, j]) && ((l.setIfInBounds i true == li) && (l.setIfInBounds j true == lj))) = true) (hdi : F.all (offPin oi.dst) = true) (hdj : F.all (offPin oj.dst) = true)
    (Hi : X C (.ops arr [oi]) (.loop (fun s' R' G' => PinsOk s' F ∧ Le G0 G' ∧ pickL R' (RF.map (·.1)) = RF ∧ XD C arr ρ0 F RF G0 ds n li k s' R' G') :: k) s R G)
    (Hj : X C (.ops arr [oj]) (.loop (fun s' R' G' => PinsOk s' F ∧ Le G0 G' ∧ pickL R' (RF.map (·.1)) = RF ∧ XD C arr ρ0 F RF G0 ds n lj k s' R' G') :: k) s R G) : XD C arr ρ0 F RF G0 ds (n + 1) l k s R G := by
  intro hr hp hG hR ρ a w hs ha
  simp only [Bool.and_eq_true, beq_iff_eq] at hc
  obtain ⟨h1, rfl, rfl⟩ := hc
  refine wpAnyLast_all h1 (by simp) fun q hq => ?_
  rcases List.mem_cons.1 hq with rfl | hq
  · exact XD.core oi hoi hdi Hi hr hp hG hR hs ha
  · obtain rfl : q = j := by simpa using hq
    exact XD.core oj hoj hdj Hj hr hp hG hR hs ha
end
end Go.Proofs.YthpinlcfcgnilaaX
