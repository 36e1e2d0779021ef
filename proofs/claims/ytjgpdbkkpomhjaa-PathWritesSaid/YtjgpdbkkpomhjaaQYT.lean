/- States told by what is new; shorter words. Conditions: none. -/
import Derived.Test.YtjgpdbkkpomhjaaQYS
namespace Go.Proofs.YtjgpdbkkpomhjaaX
open Go.RowKit
open Go.Proofs.YtjgpdbkkpomhjaaW.PrintLast
set_option linter.unusedVariables false
def memN (i : Nat) : List Nat → Bool
  | [] => false
  | j :: r => if Nat.beq i j then true else memN i r
def ndel {β : Type} : List Nat → List (Nat × β) → List (Nat × β)
  | _, [] => []
  | dr, p :: r => if memN p.1 dr then ndel dr r else p :: ndel (p.1 :: dr) r
def dl (s : S) (nw : List (Nat × AV)) (dr : List Nat) : S := ⟨s.n, nw ++ ndel (nw.map (·.1) ++ dr) s.tmps, s.boxes⟩
def db (s : S) (nw : List (Nat × AV)) (dr : List Nat) (nb : List (Nat × Box)) (e : List Nat) : S := ⟨s.n, nw ++ ndel (nw.map (·.1) ++ dr) s.tmps, nb ++ ndel (nb.map (·.1) ++ e) s.boxes⟩
section
variable {C : Ctx} {cur : Cur} {arr : Array Oper} {ρ0 : Nat → Nat} {F : List Pin} {RF : List (Nat × Row)} {G0 G : Mem} {ds : List Nat} {q_ : Nat} {l : Array Bool} {k : List CK} {s : S} {R : List (Nat × Row)} {o : Oper} {r : List Oper}
theorem Ra (n : Nat) (cur' : Cur) (j : Nat) (pre : List CK) (nw : List (Nat × AV)) (H : X C cur' (pre ++ k.drop j) (dl s nw []) R G) (h : (run C.P n cur k s).map (fun r => (r.1, r.2.1, r.2.2.only ((dl s nw []).tmps.map (·.1)) ((dl s nw []).boxes.map (·.1)))) = some (cur', pre ++ k.drop j, dl s nw []) := by kernel_rfl) : X C cur k s R G := Rn n cur' _ _ H h
theorem Rb (n : Nat) (cur' : Cur) (j : Nat) (pre : List CK) (nw : List (Nat × AV)) (dr : List Nat) (nb : List (Nat × Box)) (e : List Nat) (H : X C cur' (pre ++ k.drop j) (db s nw dr nb e) R G) (h : (run C.P n cur k s).map (fun r => (r.1, r.2.1, r.2.2.only ((db s nw dr nb e).tmps.map (·.1)) ((db s nw dr nb e).boxes.map (·.1)))) = some (cur', pre ++ k.drop j, db s nw dr nb e) := by kernel_rfl) : X C cur k s R G := Rn n cur' _ _ H h
theorem Rc (n : Nat) (cur' : Cur) (j : Nat) (pre : List CK) (nw : List (Nat × AV)) (dr : List Nat) (H : X C cur' (pre ++ k.drop j) (dl s nw dr) R G) (h : (run C.P n cur k s).map (fun r => (r.1, r.2.1, r.2.2.only ((dl s nw dr).tmps.map (·.1)) ((dl s nw dr).boxes.map (·.1)))) = some (cur', pre ++ k.drop j, dl s nw dr) := by kernel_rfl) : X C cur k s R G := Rn n cur' _ _ H h
theorem Td (is : List Nat) (N m q : Nat) (hQ : QOk C) (nw : List (Nat × AV)) (hp : PinsOk (dl s nw []) F) (H : XD C arr ρ0 F RF G0 ds q (lb N m) k (dl s nw []) R G) (hc : (tkB C.P arr F ds (lb N m) is l s && Nat.beq q_ (q + is.length)) = true := by kernel_rfl)
    (h : (tkS C.P arr F is s).only ((dl s nw []).tmps.map (·.1)) ((dl s nw []).boxes.map (·.1)) = dl s nw [] := by kernel_rfl) : XD C arr ρ0 F RF G0 ds q_ l k s R G := Ts is N m q q_ hQ (Dn _ hp H h) hc
theorem Sd (j : Nat) {p : Prop} {d : Decidable p} (hj : lk s.tmps j = some (.v (.bool (@decide p d)))) (H1 : p → X C cur k { s with tmps := (j, .v (.bool true)) :: s.tmps } R G) (H2 : ¬ p → X C cur k { s with tmps := (j, .v (.bool false)) :: s.tmps } R G) : X C cur k s R G := X.split j hj (fun h => H1 (of_decide_eq_true h)) (fun h => H2 (of_decide_eq_false h))
theorem Se (j : Nat) {a b : Int} (hj : lk s.tmps j = some (.v (.bool (a == b)))) (H1 : a = b → X C cur k { s with tmps := (j, .v (.bool true)) :: s.tmps } R G) (H2 : a ≠ b → X C cur k { s with tmps := (j, .v (.bool false)) :: s.tmps } R G) : X C cur k s R G := X.split j hj (fun h => H1 (eq_of_beq h)) (fun h => H2 (ne_of_beq_false h))
theorem Sn (j : Nat) {a b : Int} (hj : lk s.tmps j = some (.v (.bool (a != b)))) (H1 : a ≠ b → X C cur k { s with tmps := (j, .v (.bool true)) :: s.tmps } R G) (H2 : a = b → X C cur k { s with tmps := (j, .v (.bool false)) :: s.tmps } R G) : X C cur k s R G := X.split j hj (fun h => H1 (bne_iff_ne.mp h)) (fun h => H2 (by simpa using h))
theorem Dd (j : Nat) {p : Prop} {d : Decidable p} (hj : lk s.tmps j = some (.v (.bool (@decide p d)))) (H1 : p → XD C arr ρ0 F RF G0 ds q_ l k { s with tmps := (j, .v (.bool true)) :: s.tmps } R G) (H2 : ¬ p → XD C arr ρ0 F RF G0 ds q_ l k { s with tmps := (j, .v (.bool false)) :: s.tmps } R G) : XD C arr ρ0 F RF G0 ds q_ l k s R G := XD.split j hj (fun h => H1 (of_decide_eq_true h)) (fun h => H2 (of_decide_eq_false h))
theorem De (j : Nat) {a b : Int} (hj : lk s.tmps j = some (.v (.bool (a == b)))) (H1 : a = b → XD C arr ρ0 F RF G0 ds q_ l k { s with tmps := (j, .v (.bool true)) :: s.tmps } R G) (H2 : a ≠ b → XD C arr ρ0 F RF G0 ds q_ l k { s with tmps := (j, .v (.bool false)) :: s.tmps } R G) : XD C arr ρ0 F RF G0 ds q_ l k s R G := XD.split j hj (fun h => H1 (eq_of_beq h)) (fun h => H2 (ne_of_beq_false h))
theorem Df (j : Nat) {a b : Int} (hj : lk s.tmps j = some (.v (.bool (a != b)))) (H1 : a ≠ b → XD C arr ρ0 F RF G0 ds q_ l k { s with tmps := (j, .v (.bool true)) :: s.tmps } R G) (H2 : a = b → XD C arr ρ0 F RF G0 ds q_ l k { s with tmps := (j, .v (.bool false)) :: s.tmps } R G) : XD C arr ρ0 F RF G0 ds q_ l k s R G := XD.split j hj (fun h => H1 (bne_iff_ne.mp h)) (fun h => H2 (by simpa using h))
theorem P1 {s : S} {t b : Nat} {ty : TypeId} {cs : List AV} (h1 : lk s.tmps t = some (.own b 0) := by kernel_rfl) (h2 : lk s.boxes b = some ⟨ty, cs⟩ := by kernel_rfl) : Pinned1 s ⟨some t, b, ty, cs⟩ := ⟨fun _ h => by cases h; exact h1, h2⟩
theorem Mt {M : Mk} {F : List Pin} (h : F.all (fun p => p.t.isSome) = true := by kernel_rfl) : ∀ p ∈ F, p.t = none → (M.pin p.b).isSome = true := fun p hp hn => absurd (List.all_eq_true.mp h p hp) (by rw [hn]; decide)
theorem Oh (id : Nat) (B : Code) (p : Nat) (n : Nat) (F : List Pin) (RF : List (Nat × Row)) (ds : List Nat) (hp : PinsOk s F) (hM : ∀ p ∈ F, p.t = none → (C.M.pin p.b).isSome = true) (H : ∀ ρ0, XD C (aA B (pa p)) ρ0 F RF G ds n (lb n 0) k s R G)
    (hc : cA B (pa p) = .region id (aA B (pa p)) true := by kernel_rfl) (hm : C.P.follows .mixedOrders = true := by kernel_rfl) (hn : (aA B (pa p)).size = n := by kernel_rfl) (hl : Array.replicate n false = lb n 0 := by kernel_rfl) (hr : refsOk F = true := by kernel_rfl) (hR : pickL R (RF.map (·.1)) = RF := by kernel_rfl) : X C (.code (cA B (pa p))) k s R G := Og id B p n F RF ds hp hM H hc hm hn hl hr hR
theorem Tr (ids : List Nat) (H : X C cur k s (pickL R ids) G) : X C cur k s R G := X.tellR ids rfl H
theorem Tc (ids : List Nat) {i : Nat} {e : TypeId} {z n : Nat} {v : Value} {cs cs' : List Value} (h : cs = cs') (H : X C cur k s ((i, ⟨e, z, v, n, cs'⟩) :: pickL R ids) G) : X C cur k s ((i, ⟨e, z, v, n, cs⟩) :: R) G := by
  subst h
  exact X.rows (fun j q hj => by
    rw [lk_cons] at hj ⊢
    by_cases e1 : i = j
    · rw [if_pos e1] at hj ⊢; exact hj
    · rw [if_neg e1] at hj ⊢
      exact pickL_lk hj) H
theorem Ar (i : Nat) {e : TypeId} {z n c n' : Nat} {A : Option Addr} {cs : List Value} (h : lk R i = some ⟨e, z, .slice A n c, n', cs⟩) : At G R A 0 cs := At.of_row h rfl
theorem Bs (i : Nat) {e : TypeId} {z n c n' : Nat} {A : Option Addr} {x : Value} {cs : List Value} (h : lk R i = some ⟨e, z, .slice A n c, n', x :: cs⟩) : ∀ w, Mm G R w → A.isSome = true := rowSome h rfl (Nat.succ_pos _)
theorem Br (i : Nat) {e : TypeId} {z n c n' m c2 : Nat} {A : Option Addr} {x : Value} {cs : List Value} (h : lk R i = some ⟨e, z, .slice A n c, n', x :: cs⟩) : ∀ w, Mm G R w → A = none → m = 0 ∧ c2 = 0 := fun w hw e => absurd (Bs i h w hw) (by rw [e]; decide)
end
end Go.Proofs.YtjgpdbkkpomhjaaX
