/- Runes told as a string; bytes of strings in drawn regions. Conditions: none. -/
import Derived.Test.YthpinlcfcgnilaaXP
import Derived.Test.YthpinlcfcgnilaaXM
import Derived.Laws.Cover4
namespace Go.Proofs.YthpinlcfcgnilaaX
open Go.RowKit
open Go.Proofs.YthpinlcfcgnilaaW.PrintLast Go.Proofs.YthpinlcfcgnilaaW.PrintWords
set_option linter.unusedVariables false
set_option linter.unusedSimpArgs false
theorem rowNone {G : Mem} {R : List (Nat × Row)} {i n c : Nat} {q : Row} {A : Option Addr} (hq : lk R i = some q) (hv : q.v = .slice A n c) (w : World) (hw : Mm G R w) (e : A = none) : n = 0 := by
  subst e
  have h := hw.2 i q hq
  rw [hv] at h
  rcases h.2 with ⟨h1, _⟩ | ⟨g, cap, cur, h1, _⟩
  · injection h1
  · injection h1 with h1; cases h1
theorem encode_ascii {n : Int} (h0 : 0 ≤ n) (h1 : n < 128) : Utf8.encode n = ⟨#[UInt8.ofNat n.toNat]⟩ := by
  unfold Utf8.encode
  have hv : Utf8.valid n = true := by simp [Utf8.valid]; omega
  have hl : n.toNat < 128 := by omega
  simp only [hv, if_true, hl]
theorem runesBytes_ascii (l : List Int) (h : ∀ n ∈ l, 0 ≤ n ∧ n < 128) : runesBytes l = strOf l := by
  unfold runesBytes strOf
  generalize ByteArray.empty = b
  induction l generalizing b with
  | nil => rfl
  | cons n l ih =>
    simp only [List.foldl_cons]
    have hn := h n List.mem_cons_self
    rw [encode_ascii hn.1 hn.2, ih (fun x hx => h x (List.mem_cons_of_mem _ hx))]
    congr 1
    apply ByteArray.ext
    simp [ByteArray.push, ByteArray.data_append]
section
variable {C : Ctx} {k : List CK} {s : S} {R : List (Nat × Row)} {G : Mem} {arr : Array Oper} {o : Oper} {r : List Oper}
theorem X.runesToStr {src dst e n c : Nat} {A : Option Addr} {x : Operand} (ns : List Int) (hop : o.op = .convert src dst x) (hx : s.ev x = some (.v (.slice A n c))) (hs : C.P.underlying src = some (.slice e)) (he : C.P.underlying e = some (.int .i32)) (hd : C.P.underlying dst = some .string) (hn : ns.length = n) (hat : At G R A 0 (ns.map (Value.int .i32))) (hA : ∀ w, Mm G R w → A = none → n = 0) (hg : (guardOk s arr o && s.can o.dst) = true)
    (H : X C (.ops arr r) k (s.put o.dst (.v (.string (runesBytes ns)))) R G) : X C (.ops arr (o :: r)) k s R G := by
  simp only [Bool.and_eq_true] at hg
  refine X.val _ hg.1 hg.2 (fun ρ a w hst => ?_) H
  simp only [execOp, hop, hst.ev hx, AV.real]
  refine run_v ?_
  cases A with
  | none =>
    have h0 : n = 0 := hA w hst.mm rfl
    rw [run_convert_runes_nil w src dst e n c hs he hd]
    rw [h0] at hn
    rw [List.eq_nil_of_length_eq_zero hn]
    rfl
  | some ad =>
    rw [run_convert_runes w src dst e ad n c ns (by omega) hs he hd (fun j hj => by
      have := (hat w hst.mm j (.int .i32 (ns.getD j 0)) (by simp [hj])).2
      simpa [adr] using this), ← hn, List.take_length]
end
section
variable {C : Ctx} {arr : Array Oper} {ρ0 : Nat → Nat} {F : List Pin} {RF : List (Nat × Row)} {G0 G : Mem} {ds : List Nat} {n : Nat} {l l' : Array Bool} {k : List CK} {s : S} {R : List (Nat × Row)}
theorem XD.indexStr {i : Nat} (o : Oper) {t : Nat} {b : ByteArray} {ki : IntKind} {j : Int} {x ix : Operand} (hQ : QOk C) (ho : arr[i]? = some o) (hc : takeB .any arr ds l l' i = true) (hop : o.op = .index t x ix) (hx : s.ev x = some (.v (.string b))) (hi : s.ev ix = some (.v (.int ki j))) (ht : C.P.underlying t = some .string) (h0 : 0 ≤ j) (h1 : j < (b.size : Int)) (hg : (guardOk s arr o && s.can o.dst) = true) (hd : F.all (offPin o.dst) = true)
    (H : XD C arr ρ0 F RF G0 ds n l' k (s.put o.dst (.v (.int .u8 (byteAt b j.toNat)))) R G) : XD C arr ρ0 F RF G0 ds (n + 1) l k s R G := by
  refine XD.takeV (.v (.int .u8 (byteAt b j.toNat))) hQ ho hc hg (fun ρ a w hs => ?_) hd H
  have e1 : (s.pinned F).ev x = some (.v (.string b)) := by cases x <;> exact hx
  have e2 : (s.pinned F).ev ix = some (.v (.int ki j)) := by cases ix <;> exact hi
  simp only [execOp, hop, hs.ev e1, hs.ev e2, AV.real]
  refine run_v ?_
  have hlt : j.toNat < b.size := by omega
  have hb : b[j.toNat]? = some (b[j.toNat]'hlt) := getElem?_pos b j.toNat hlt
  rw [byteAt_eq hlt]
  simp [Instr.index, asIntOf, h0, hb, run_underlying ht]
end
section
variable {C : Ctx} {k : List CK} {s : S} {R : List (Nat × Row)} {G : Mem} {arr : Array Oper} {o : Oper} {r : List Oper}
theorem X.strAdd {t t' : Nat} {x y : Operand} {a b : ByteArray} (hop : o.op = .binOp .add t x y t') (hx : s.ev x = some (.v (.string a))) (hy : s.ev y = some (.v (.string b))) (hg : (guardOk s arr o && s.can o.dst) = true) (hz : a.size + b.size ≤ 9223372036854775807)
    (H : X C (.ops arr r) k (s.put o.dst (.v (.string (a ++ b)))) R G) : X C (.ops arr (o :: r)) k s R G := by
  simp only [Bool.and_eq_true] at hg
  refine X.val _ hg.1 hg.2 (fun ρ ac w hs => ?_) H
  simp only [execOp, hop, hs.ev hx, hs.ev hy, AV.real]
  refine run_v ?_
  have h1 : ¬ (((a.size + b.size : Nat) : Int) > IntKind.i64.max) := by
    have : IntKind.i64.max = 9223372036854775807 := by decide
    omega
  have h2 : (Op.stringOp .add a b).run C.P w = .ok (.string (a ++ b)) w := by
    simp only [Op.stringOp, h1, if_false]
    rfl
  have h3 : (eqGuard .add t x y (.string a) (.string b)).run C.P w = .ok () w := by simp [eqGuard]
  first
    | (rw [binOp_string_add]; exact h2)
    | (rw [run_bind_ok h3, binOp_string_add]; exact h2)
end
end Go.Proofs.YthpinlcfcgnilaaX
