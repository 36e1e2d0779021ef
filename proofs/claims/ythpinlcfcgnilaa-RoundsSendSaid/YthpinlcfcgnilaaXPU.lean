/- Drawn regions: operations that look at no memory, beside stores. Conditions: none. -/
import Derived.Test.YthpinlcfcgnilaaXP
import Derived.Test.YthpinlcfcgnilaaXJ
namespace Go.Proofs.YthpinlcfcgnilaaX
open Go.RowKit
open Go.Proofs.YthpinlcfcgnilaaW.PrintLast Go.Proofs.YthpinlcfcgnilaaW.PrintWords
set_option linter.unusedVariables false
set_option linter.unusedSimpArgs false
section
variable {C : Ctx} {arr : Array Oper} {ρ0 : Nat → Nat} {F : List Pin} {RF : List (Nat × Row)} {G0 G : Mem} {ds : List Nat} {m : Nat} {l l' : Array Bool} {k : List CK} {s : S} {R : List (Nat × Row)}
/-- An operation on values alone, first, behind a store too. -/
theorem XD.pureOne {i : Nat} (o : Oper) (z : Value) (hQ : QOk C) (ho : arr[i]? = some o) (hc : anyB .any arr l l' i = true) (hp : (isPure o.op && ((operandsOf o.op).all s.plain && (guardOk s arr o && s.can o.dst))) = true) (hz : spure C.P (execOp s.real o) = some (.value z)) (hd : F.all (offPin o.dst) = true)
    (H : XD C arr ρ0 F RF G0 ds m l' k (s.put o.dst (.v z)) R G) : XD C arr ρ0 F RF G0 ds (m + 1) l k s R G := by
  intro hr hp' hG hR ρ a w hs ha
  simp only [Bool.and_eq_true, List.all_eq_true] at hp
  have he : execOp a.eval o = execOp s.real o := exec_same hp.1 (fun x hx => by
    obtain ⟨z, h1, h2⟩ := S.plain_real (hp.2.1 x hx)
    rw [h2]
    exact hs.ev h1)
  refine pure_ (N := o.dst) l' ho rfl hc (fun c a w h => den_panic hQ k c a w _ _ h) (v := z) (.inl ⟨guardOk_ok hp.2.2.1 hs, fun w2 => by rw [he]; exact spure_run hz w2⟩) rfl ?_
  exact H hr (hp'.put hd) hG hR ρ _ w (hs.put (x := .v z) hp.2.2.2) (ha.put hd)
/-- A cut, first, behind a store too. -/
theorem XD.pureCut {i : Nat} {o : Oper} {t e sz n c : Nat} {A : Option Addr} {x : Operand} {l0 h : Option Operand} {lv hv : Option Value} (lo hi : Nat) (hQ : QOk C) (ho : arr[i]? = some o) (hc : anyB .any arr l l' i = true) (hop : o.op = .slice t x l0 h none) (hx : s.ev x = some (.v (.slice A n c))) (hlv : evO s l0 = some lv) (hhv : evO s h = some hv) (ht : C.P.underlying t = some (.slice e)) (hsz : spure C.P (sizeOf e) = some sz) (hg : (guardOk s arr o && s.can o.dst) = true) (hl : bndV lv 0 lo) (hh : bndV hv n hi) (h1 : lo ≤ hi) (h2 : hi ≤ c) (hd : F.all (offPin o.dst) = true)
    (H : XD C arr ρ0 F RF G0 ds m l' k (s.put o.dst (.v (.slice (cutA A c lo sz) (hi - lo) (c - lo)))) R G) : XD C arr ρ0 F RF G0 ds (m + 1) l k s R G := by
  intro hr hp hG hR ρ a w hs ha
  simp only [Bool.and_eq_true] at hg
  refine pure_ (N := o.dst) l' ho rfl hc (fun c a w h => den_panic hQ k c a w _ _ h) (v := .slice (cutA A c lo sz) (hi - lo) (c - lo)) (.inl ⟨guardOk_ok hg.1 hs, fun w2 => ?_⟩) rfl ?_
  · have e1 : a.eval x = .slice A n c := hs.ev (x := x) hx
    have e2 := evO_ok hs hlv
    have e3 := evO_ok hs hhv
    simp only [execOp, hop, e1, e2, e3, Option.map_none]
    exact run_v (run_cut ht hsz hl hh h1 h2 w2)
  · exact H hr (hp.put hd) hG hR ρ _ w (hs.put (x := .v _) hg.2) (ha.put hd)
end
end Go.Proofs.YthpinlcfcgnilaaX
