/- IP packets read: what they are told by; rules for an array's pointer and a cut with a bound in a drawn region. Conditions: none. -/
import Derived.Test.YtjgpdbkkpomhjaaYJ0
namespace Go.Proofs.YtjgpdbkkpomhjaaX
open Go.RowKit
open Go.Proofs.YtjgpdbkkpomhjaaW.PrintLast
set_option linter.unusedVariables false
def totI (b : List Int) : Int := b.getD 2 0 * 256 + b.getD 3 0
def fragI (b : List Int) : Int := b.getD 6 0 * 256 + b.getD 7 0
/-- The header that bytes tell. -/
def hdI (b : List Int) : Ih := ⟨b.getD 1 0, b.getD 8 0, b.getD 9 0, b.getD 4 0 * 256 + b.getD 5 0, fragI b, b.getD 12 0, b.getD 13 0, b.getD 14 0, b.getD 15 0, b.getD 16 0, b.getD 17 0, b.getD 18 0, b.getD 19 0⟩
/-- The packet that bytes tell, or an error. -/
def decI (b : List Int) : (Ih × ByteArray) × Int :=
  if b.length < 20 then ((ih0, ⟨#[]⟩), 3)
  else if b.getD 0 0 ≠ 69 ∨ totI b < 20 then ((ih0, ⟨#[]⟩), 5)
  else if (b.length : Int) < totI b then ((ih0, ⟨#[]⟩), 3)
  else if cks (b.take 20) ≠ 0 then ((ih0, ⟨#[]⟩), 6)
  else if 32768 ≤ fragI b then ((ih0, ⟨#[]⟩), 5)
  else ((hdI b, strOf ((b.take (totI b).toNat).drop 20)), 0)
theorem decI_short {b : List Int} (h : b.length < 20) : decI b = ((ih0, ⟨#[]⟩), 3) := if_pos h
theorem decI_form {b : List Int} (h : ¬ b.length < 20) (h2 : b.getD 0 0 ≠ 69 ∨ totI b < 20) : decI b = ((ih0, ⟨#[]⟩), 5) := by
  unfold decI; rw [if_neg h, if_pos h2]
theorem decI_cut {b : List Int} (h : ¬ b.length < 20) (h2 : ¬ (b.getD 0 0 ≠ 69 ∨ totI b < 20)) (h3 : (b.length : Int) < totI b) : decI b = ((ih0, ⟨#[]⟩), 3) := by
  unfold decI; rw [if_neg h, if_neg h2, if_pos h3]
theorem decI_sum {b : List Int} (h : ¬ b.length < 20) (h2 : ¬ (b.getD 0 0 ≠ 69 ∨ totI b < 20)) (h3 : ¬ (b.length : Int) < totI b) (h4 : cks (b.take 20) ≠ 0) : decI b = ((ih0, ⟨#[]⟩), 6) := by
  unfold decI; rw [if_neg h, if_neg h2, if_neg h3, if_pos h4]
theorem decI_flag {b : List Int} (h : ¬ b.length < 20) (h2 : ¬ (b.getD 0 0 ≠ 69 ∨ totI b < 20)) (h3 : ¬ (b.length : Int) < totI b) (h4 : cks (b.take 20) = 0) (h5 : 32768 ≤ fragI b) : decI b = ((ih0, ⟨#[]⟩), 5) := by
  unfold decI; rw [if_neg h, if_neg h2, if_neg h3, if_neg (fun e => e h4), if_pos h5]
theorem decI_fine {b : List Int} (h : ¬ b.length < 20) (h2 : ¬ (b.getD 0 0 ≠ 69 ∨ totI b < 20)) (h3 : ¬ (b.length : Int) < totI b) (h4 : cks (b.take 20) = 0) (h5 : ¬ 32768 ≤ fragI b) : decI b = ((hdI b, strOf ((b.take (totI b).toNat).drop 20)), 0) := by
  unfold decI; rw [if_neg h, if_neg h2, if_neg h3, if_neg (fun e => e h4), if_neg h5]
theorem getD_byte {b : List Int} (hb : isBytes b) (i : Nat) : 0 ≤ b.getD i 0 ∧ b.getD i 0 ≤ 255 := by
  by_cases h : i < b.length
  · have := hb _ (List.getElem_mem h)
    simpa [List.getD, h] using this
  · simp [List.getD, h]
theorem hdI_ok {b : List Int} (hb : isBytes b) : (hdI b).ok := by
  have g : ∀ i, 0 ≤ b.getD i 0 ∧ b.getD i 0 ≤ 255 := fun i => by
    by_cases h : i < b.length
    · have := hb _ (List.getElem_mem h)
      simpa [List.getD, h] using this
    · simp [List.getD, h]
  have := g 4; have := g 5; have := g 6; have := g 7
  constructor <;> first | exact g _ | (simp only [hdI, fragI]; omega)
theorem strOf_len (l : List Int) : (strOf l).size = l.length := by
  have : ∀ (l : List Int) (r : ByteArray), (l.foldl (fun r n => r.push (UInt8.ofNat n.toNat)) r).size = r.size + l.length := by
    intro l
    induction l with
    | nil => intro r; rfl
    | cons x l ih => intro r; rw [List.foldl_cons, ih, ByteArray.size_push, List.length_cons]; omega
  unfold strOf
  rw [this]
  simp
/-- What bytes tell: the header may be, and so may its frag; what it brings is no longer than the bytes. -/
theorem decI_ok {b : List Int} (hb : isBytes b) : (decI b).1.1.ok ∧ (decI b).1.2.size ≤ b.length ∧ (decI b).1.2.size ≤ 65515 ∧ (decI b).1.1.x4 < 32768 := by
  have z : ih0.ok ∧ (⟨#[]⟩ : ByteArray).size ≤ b.length ∧ (⟨#[]⟩ : ByteArray).size ≤ 65515 ∧ ih0.x4 < 32768 := ⟨ih0_ok, Nat.zero_le _, Nat.zero_le _, by decide⟩
  by_cases h : b.length < 20
  · rw [decI_short h]; exact z
  · by_cases h2 : b.getD 0 0 ≠ 69 ∨ totI b < 20
    · rw [decI_form h h2]; exact z
    · by_cases h3 : (b.length : Int) < totI b
      · rw [decI_cut h h2 h3]; exact z
      · by_cases h4 : cks (b.take 20) = 0
        · by_cases h5 : 32768 ≤ fragI b
          · rw [decI_flag h h2 h3 h4 h5]; exact z
          · rw [decI_fine h h2 h3 h4 h5]
            have g : ∀ i, b.getD i 0 ≤ 255 := fun i => by
              by_cases h : i < b.length
              · have := hb _ (List.getElem_mem h)
                have e : b.getD i 0 = b[i] := by simp [List.getD, h]
                rw [e]; exact this.2
              · simp [List.getD, h]
            have g2 := g 2
            have g3 := g 3
            have ht : totI b ≤ 65535 := by unfold totI; omega
            refine ⟨hdI_ok hb, ?_, ?_, by show fragI b < _; omega⟩
            · show (strOf _).size ≤ _
              rw [strOf_len, List.length_drop, List.length_take]; omega
            · show (strOf _).size ≤ _
              rw [strOf_len, List.length_drop, List.length_take]; omega
        · rw [decI_sum h h2 h3 h4]; exact z
theorem At.fourC {kd : IntKind} {G : Mem} {A : Option Addr} {b ys : List Int} {lo hi : Nat} (hys : (b.take hi).drop lo = ys) (R : List (Nat × Row)) (h : rowAt (D.int kd) G A ys) (hl : 4 ≤ ys.length) : At G R A 0 [.int kd (b.getD lo 0), .int kd (b.getD (lo + 1) 0), .int kd (b.getD (lo + 2) 0), .int kd (b.getD (lo + 3) 0)] := by
  have key : ∀ j, j < 4 → ys.getD j 0 = b.getD (lo + j) 0 := fun j hj => by
    subst hys
    have hlen : ((b.take hi).drop lo).length = min hi b.length - lo := by rw [List.length_drop, List.length_take]
    simp only [List.getD, List.getElem?_drop, List.getElem?_take]
    rw [if_pos (by omega)]
  intro w hw j v hj
  have h1 := (At.int R h j (by rcases j with _ | _ | _ | _ | j <;> first | omega | simp at hj)).1 w hw 0 (.int kd (ys.getD j 0)) rfl
  rw [Nat.mul_one, Nat.add_zero] at h1
  rw [Nat.zero_add]
  refine ⟨h1.1, ?_⟩
  rw [h1.2]
  rcases j with _ | _ | _ | _ | j
  · rw [key 0 (by omega)]; simpa using hj
  · rw [key 1 (by omega)]; simpa using hj
  · rw [key 2 (by omega)]; simpa using hj
  · rw [key 3 (by omega)]; simpa using hj
  · simp at hj
section
variable {C : Ctx} {arr : Array Oper} {ρ0 : Nat → Nat} {F : List Pin} {RF : List (Nat × Row)} {G0 G : Mem} {ds : List Nat} {l l' : Array Bool} {k : List CK} {s : S} {R : List (Nat × Row)} {m : Nat}
theorem XD.s2a {i : Nat} {o : Oper} {t len e n c : Nat} {A : Option Addr} {x : Operand} (hQ : QOk C) (ho : arr[i]? = some o) (hc : takeB .any arr ds l l' i = true) (hop : o.op = .sliceToArrayPointer t x) (hx : s.ev x = some (.v (.slice A n c))) (ht : C.P.underlying t = some (.array len e)) (hg : (guardOk s arr o && s.can o.dst) = true) (hd : F.all (offPin o.dst) = true) (hn : len ≤ n) (hA : ∀ w, Mm G0 RF w → A.isSome = true)
    (H : XD C arr ρ0 F RF G0 ds m l' k (s.put o.dst (.v (elt A 0))) R G) : XD C arr ρ0 F RF G0 ds (m + 1) l k s R G :=
  XD.takeV _ hQ ho hc hg (fun ρ a w hs => by
    have e1 : a.eval x = .slice A n c := hs.ev (x := x) hx
    simp only [execOp, hop, e1]
    refine run_v ?_
    unfold Instr.arrayAt
    rw [run_bind_ok (run_underlying ht w)]
    simp only
    rw [if_neg (by omega)]
    obtain ⟨ad, rfl⟩ := Option.isSome_iff_exists.mp (hA w hs.mm)
    show _ = Result.ok (Value.pointer (some (adr (some ad) 0))) w
    rw [show adr (some ad) 0 = ad from add_zero ad]
    rfl) hd H
theorem XD.cutM {i : Nat} {o : Oper} {t e sz n c : Nat} {A : Option Addr} {x h z : Operand} {l0 : Option Operand} {lv : Option Value} {hv zv : Value} (lo hi mx : Nat) (hQ : QOk C) (ho : arr[i]? = some o) (hc : takeB .any arr ds l l' i = true) (hop : o.op = .slice t x l0 (some h) (some z)) (hx : s.ev x = some (.v (.slice A n c))) (hlv : evO s l0 = some lv) (hhv : evO s (some h) = some (some hv)) (hzv : evO s (some z) = some (some zv)) (ht : C.P.underlying t = some (.slice e)) (hsz : spure C.P (sizeOf e) = some sz) (hg : (guardOk s arr o && s.can o.dst) = true) (hd : F.all (offPin o.dst) = true) (h0 : lo ≤ hi) (h2 : hi ≤ mx) (h3 : mx ≤ c) (hl : bndV lv 0 lo) (hh : bndV (some hv) n hi) (hz : bndV (some zv) 0 mx)
    (H : XD C arr ρ0 F RF G0 ds m l' k (s.put o.dst (.v (.slice (cutA A mx lo sz) (hi - lo) (mx - lo)))) R G) : XD C arr ρ0 F RF G0 ds (m + 1) l k s R G :=
  XD.takeV _ hQ ho hc hg (fun ρ a w hs => by
    have e1 : a.eval x = .slice A n c := hs.ev (x := x) hx
    have e2 := evO_ok (C := ⟨C.P, C.Q, w, ⟨fun _ => True, fun _ => none⟩⟩) (s := s.pinned F) hs hlv
    have e3 := evO_ok (C := ⟨C.P, C.Q, w, ⟨fun _ => True, fun _ => none⟩⟩) (s := s.pinned F) hs (show evO (s.pinned F) (some h) = some (some hv) from hhv)
    have e4 := evO_ok (C := ⟨C.P, C.Q, w, ⟨fun _ => True, fun _ => none⟩⟩) (s := s.pinned F) hs (show evO (s.pinned F) (some z) = some (some zv) from hzv)
    simp only [Option.map_some, Option.some.injEq] at e3 e4
    simp only [execOp, hop, e1, e2, Option.map_some, e3, e4]
    exact run_v (run_cutM ht hsz hl hh hz h0 h2 h3 w)) hd H
end
end Go.Proofs.YtjgpdbkkpomhjaaX
