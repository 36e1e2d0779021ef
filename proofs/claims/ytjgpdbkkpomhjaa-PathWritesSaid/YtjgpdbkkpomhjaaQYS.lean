/- A part of a law's proof. Conditions: none. -/
import Derived.Test.YtjgpdbkkpomhjaaQYB
import Derived.KernelRfl
namespace Go.Proofs.YtjgpdbkkpomhjaaX
open Go.RowKit
open Go.Proofs.YtjgpdbkkpomhjaaW.PrintLast
set_option linter.unusedVariables false
set_option linter.unusedSimpArgs false
def paGo : Nat → Nat → List Nat → List Nat
  | 0, _, l => l
  | f + 1, n, l => if Nat.ble n 1 then l else paGo f (n / 2) (n % 2 :: l)
def pa (n : Nat) : List Nat := paGo 200 n []
abbrev Qc (B : Code) (p : Nat) : Cur := .code (cA B (pa p))
abbrev Qo (B : Code) (p i : Nat) : Cur := .ops (aA B (pa p)) (oA B (pa p) i :: lA B (pa p) (i + 1))
abbrev Qs (B : Code) (p : Nat) : CK := .seq (cA B (pa p))
abbrev N6 (x : Int) : Value := .int .i64 x
abbrev N8 (x : Int) : Value := .int .u8 x
abbrev N1 (x : Int) : Value := .int .u16 x
abbrev N3 (x : Int) : Value := .int .u32 x
abbrev N7 (x : Int) : Value := .int .u64 x
abbrev I6 (x : Int) : AV := .v (.int .i64 x)
abbrev I8 (x : Int) : AV := .v (.int .u8 x)
abbrev I1 (x : Int) : AV := .v (.int .u16 x)
abbrev I3 (x : Int) : AV := .v (.int .u32 x)
abbrev I7 (x : Int) : AV := .v (.int .u64 x)
abbrev VB (b : Bool) : AV := .v (.bool b)
abbrev VL (A : Option Addr) (n c : Nat) : AV := .v (.slice A n c)
abbrev VT (b : ByteArray) : AV := .v (.string b)
abbrev RR (e : TypeId) (z : Nat) (A : Option Addr) (n c : Nat) (cs : List Value) : Row := ⟨e, z, .slice A n c, n, cs⟩
section
variable {C : Ctx} {cur : Cur} {arr : Array Oper} {ρ0 : Nat → Nat} {F : List Pin} {RF : List (Nat × Row)} {G0 G : Mem} {ds : List Nat} {q_ : Nat} {l : Array Bool} {k : List CK} {s : S} {R : List (Nat × Row)} {o : Oper} {r : List Oper}
theorem Rn (n : Nat) (cur' : Cur) (k' : List CK) (s' : S) (H : X C cur' k' s' R G) (h : (run C.P n cur k s).map (fun r => (r.1, r.2.1, r.2.2.only (s'.tmps.map (·.1)) (s'.boxes.map (·.1)))) = some (cur', k', s') := by kernel_rfl) : X C cur k s R G := X.run n _ _ cur' k' s' h H
theorem Dn (s' : S) (hp' : PinsOk s' F) (H : XD C arr ρ0 F RF G0 ds q_ l k s' R G) (h : s.only (s'.tmps.map (·.1)) (s'.boxes.map (·.1)) = s' := by kernel_rfl) : XD C arr ρ0 F RF G0 ds q_ l k s R G := XD.norm _ _ s' h hp' H
theorem En (s' : S) (H : XE C arr ρ0 F RF G0 ds q_ l k s' R G) (h : s.only (s'.tmps.map (·.1)) (s'.boxes.map (·.1)) = s' := by kernel_rfl) : XE C arr ρ0 F RF G0 ds q_ l k s R G := XE.norm _ _ s' h H
theorem Do (i N m : Nat) (B : Code) (p : Nat) (H : X C (.ops arr [oA B (pa p) i]) (.loop (fun s' R' G' => PinsOk s' F ∧ Le G0 G' ∧ pickL R' (RF.map (·.1)) = RF ∧ XD C arr ρ0 F RF G0 ds q_ (lb N m) k s' R' G') :: k) s R G)
    (ho : arr[i]? = some (oA B (pa p) i) := by kernel_rfl) (hc : (readyB .any arr l (lb N m) i && !ds.contains i) = true := by kernel_rfl) (hd : F.all (offPin (oA B (pa p) i).dst) = true := by kernel_rfl) : XD C arr ρ0 F RF G0 ds (q_ + 1) l k s R G := XD.one _ ho hc hd H
theorem Eo (i N m : Nat) (B : Code) (p : Nat) (H : X C (.ops arr [oA B (pa p) i]) (.loop (fun s' R' G' => XE C arr ρ0 F RF G0 ds q_ (lb N m) k s' R' G') :: k) s R G)
    (ho : arr[i]? = some (oA B (pa p) i) := by kernel_rfl) (hc : (readyB .any arr l (lb N m) i && ds.contains i) = true := by kernel_rfl) : XE C arr ρ0 F RF G0 ds (q_ + 1) l k s R G := XE.one _ ho hc H
theorem Tk (i N m : Nat) (B : Code) (p : Nat) (y : AV) (hQ : QOk C) (H : XD C arr ρ0 F RF G0 ds q_ (lb N m) k (s.put (oA B (pa p) i).dst y) R G)
    (ho : arr[i]? = some (oA B (pa p) i) := by kernel_rfl) (hc : takeB .any arr ds l (lb N m) i = true := by kernel_rfl) (hg : (guardOk s arr (oA B (pa p) i) && s.can (oA B (pa p) i).dst) = true := by kernel_rfl) (hv : opVal C.P (oA B (pa p) i) (s.pinned F) = some y := by kernel_rfl) (hd : F.all (offPin (oA B (pa p) i).dst) = true := by kernel_rfl) : XD C arr ρ0 F RF G0 ds (q_ + 1) l k s R G := XD.take _ y hQ ho hc hg hv hd H
def tkV (P : Program) (arr : Array Oper) (F : List Pin) (o : Oper) (s : S) : AV := if guardOk s arr o then (opVal P o (s.pinned F)).getD (.v undef) else .v undef
def tkS (P : Program) (arr : Array Oper) (F : List Pin) : List Nat → S → S
  | [], s => s
  | i :: is, s => match arr[i]? with
    | some o => tkS P arr F is (s.put o.dst (tkV P arr F o s))
    | none => s
def tkB (P : Program) (arr : Array Oper) (F : List Pin) (ds : List Nat) (l' : Array Bool) : List Nat → Array Bool → S → Bool
  | [], l, _ => l == l'
  | i :: is, l, s => match arr[i]? with
    | some o => takeB .any arr ds l (l.setIfInBounds i true) i && (F.all (offPin o.dst) && (s.can o.dst && ((if guardOk s arr o then (opVal P o (s.pinned F)).isSome else offGuard s arr o) && tkB P arr F ds l' is (l.setIfInBounds i true) (s.put o.dst (tkV P arr F o s)))))
    | none => false
theorem tkB_ok {l' : Array Bool} {hQ : QOk C} : ∀ (is : List Nat) (l : Array Bool) (s : S), tkB C.P arr F ds l' is l s = true → XD C arr ρ0 F RF G0 ds q_ l' k (tkS C.P arr F is s) R G → XD C arr ρ0 F RF G0 ds (q_ + is.length) l k s R G
  | [], l, s, h, H => by
    have e : l = l' := by simpa [tkB] using h
    subst e
    exact H
  | i :: is, l, s, h, H => by
    unfold tkB at h
    unfold tkS at H
    split at h
    · rename_i o ho
      rw [ho] at H
      simp only [Bool.and_eq_true] at h
      obtain ⟨h1, h2, h3, h4, h5⟩ := h
      have H' := tkB_ok (hQ := hQ) is _ _ h5 H
      by_cases hg : guardOk s arr o = true
      · rw [if_pos hg] at h4
        obtain ⟨y, hy⟩ := Option.isSome_iff_exists.mp h4
        have e : tkV C.P arr F o s = y := by unfold tkV; rw [if_pos hg, hy]; rfl
        rw [e] at H'
        exact XD.take o y hQ ho h1 (by rw [hg, h3]; rfl) hy h2 H'
      · rw [if_neg hg] at h4
        have e : tkV C.P arr F o s = .v undef := by unfold tkV; rw [if_neg hg]
        rw [e] at H'
        exact XD.off o hQ ho h1 (by rw [h4, h3]; rfl) h2 H'
    · cases h
theorem Ts (is : List Nat) (N m q a : Nat) (hQ : QOk C) (H : XD C arr ρ0 F RF G0 ds q (lb N m) k (tkS C.P arr F is s) R G) (hc : (tkB C.P arr F ds (lb N m) is l s && Nat.beq a (q + is.length)) = true := by kernel_rfl) : XD C arr ρ0 F RF G0 ds a l k s R G := by
  simp only [Bool.and_eq_true] at hc
  rw [Nat.eq_of_beq_eq_true hc.2]
  exact tkB_ok (hQ := hQ) is l s hc.1 H
theorem Ix (t e sz : Nat) (A : Option Addr) (n c : Nat) (ki : IntKind) (i : Int) (x ix : Operand) (h0 : 0 ≤ i) (h1 : i < n) (hA : ∀ w, Mm G R w → A.isSome = true) (H : X C (.ops arr r) k (s.put o.dst (.v (elt A (i.toNat * sz)))) R G)
    (hop : o.op = .indexAddr t x ix := by kernel_rfl) (hx : s.ev x = some (.v (.slice A n c)) := by kernel_rfl) (hi : s.ev ix = some (.v (.int ki i)) := by kernel_rfl) (ht : C.P.underlying t = some (.slice e) := by kernel_rfl) (hsz : spure C.P (sizeOf e) = some sz := by kernel_rfl) (hg : (guardOk s arr o && s.can o.dst) = true := by kernel_rfl) : X C (.ops arr (o :: r)) k s R G := X.index hop hx hi ht hsz hg h0 h1 hA H
theorem Dx (i N m : Nat) (B : Code) (p : Nat) (t e sz : Nat) (A : Option Addr) (n c : Nat) (ki : IntKind) (j : Int) (x ix : Operand) (hQ : QOk C) (h0 : 0 ≤ j) (h1 : j < n) (hA : ∀ w, Mm G0 RF w → A.isSome = true) (H : XD C arr ρ0 F RF G0 ds q_ (lb N m) k (s.put (oA B (pa p) i).dst (.v (elt A (j.toNat * sz)))) R G)
    (ho : arr[i]? = some (oA B (pa p) i) := by kernel_rfl) (hc : takeB .any arr ds l (lb N m) i = true := by kernel_rfl) (hop : (oA B (pa p) i).op = .indexAddr t x ix := by kernel_rfl) (hx : s.ev x = some (.v (.slice A n c)) := by kernel_rfl) (hi : s.ev ix = some (.v (.int ki j)) := by kernel_rfl) (ht : C.P.underlying t = some (.slice e) := by kernel_rfl) (hsz : spure C.P (sizeOf e) = some sz := by kernel_rfl) (hg : (guardOk s arr (oA B (pa p) i) && s.can (oA B (pa p) i).dst) = true := by kernel_rfl) (hd : F.all (offPin (oA B (pa p) i).dst) = true := by kernel_rfl) : XD C arr ρ0 F RF G0 ds (q_ + 1) l k s R G := XD.index hQ ho hc hop hx hi ht hsz hg h0 h1 hA hd H
theorem Ld (t : Nat) (A : Option Addr) (j : Nat) (x : Operand) (z : Value) (vs : List Value) (hat : At G R A j vs) (H : X C (.ops arr r) k (s.put o.dst (.v z)) R G) (hop : o.op = .load t x := by kernel_rfl) (hx : s.ev x = some (.v (elt A j)) := by kernel_rfl) (hz : ldRes C.P t vs = some z := by kernel_rfl) (hg : (guardOk s arr o && s.can o.dst) = true := by kernel_rfl) : X C (.ops arr (o :: r)) k s R G := X.load vs hop hx hat hz hg H
theorem Dl (i N m : Nat) (B : Code) (p : Nat) (t : Nat) (A : Option Addr) (j : Nat) (x : Operand) (z : Value) (vs : List Value) (hQ : QOk C) (hat : At G0 RF A j vs) (H : XD C arr ρ0 F RF G0 ds q_ (lb N m) k (s.put (oA B (pa p) i).dst (.v z)) R G)
    (ho : arr[i]? = some (oA B (pa p) i) := by kernel_rfl) (hc : takeB .any arr ds l (lb N m) i = true := by kernel_rfl) (hop : (oA B (pa p) i).op = .load t x := by kernel_rfl) (hx : s.ev x = some (.v (elt A j)) := by kernel_rfl) (hg : (guardOk s arr (oA B (pa p) i) && s.can (oA B (pa p) i).dst) = true := by kernel_rfl) (hz : ldRes C.P t vs = some z := by kernel_rfl) (hd : F.all (offPin (oA B (pa p) i).dst) = true := by kernel_rfl) : XD C arr ρ0 F RF G0 ds (q_ + 1) l k s R G := XD.load vs hQ ho hc hop hx hg hat hz hd H
theorem Cg (f : FuncId) (vals : List Value) (nm : Nat) {Post : Mem → Value → List Row → Prop} (hC : CallsG C.P f vals G Post) (H : ∀ v G' rows, Ge G C.w0.heap.size G' → Post G' v rows → X C (.ops arr r) k (s.put o.dst (.v v)) (nameRows nm rows ++ R) G')
    (hc : calls s o = some (f, vals.map AV.v) := by kernel_rfl) (hv : plainAll (vals.map AV.v) = some vals := by kernel_rfl) (hf : (okFn C.P f && (guardOk s arr o && s.can o.dst)) = true := by kernel_rfl) : X C (.ops arr (o :: r)) k s R G := X.callG vals nm hc hv hf hC H
theorem Ap (i : Nat) (q : Row) (t bytes : Nat) (z : Value) (x y : Operand) (n c m c2 : Nat) (A B : Option Addr) (news : List Value) (hq : lk R i = some q ∨ (A = none ∧ c = 0 ∧ q.n = 0 ∧ q.cells = [])) (hn : news.length = m * q.size) (hat : At G R B 0 news) (hB : ∀ w, Mm G R w → B = none → m = 0 ∧ c2 = 0) (h1 : ∀ u ∈ news, u.oneCell' = true) (hb : (n + m) * bytes ≤ 140737488355328)
    (H : ∀ A' c', n + m ≤ c' → X C (.ops arr r) k (s.put o.dst (.v (.slice A' (n + m) c'))) ((i, ⟨q.e, q.size, .slice A' (n + m) c', n + m, q.cells ++ news⟩) :: R) G)
    (hop : o.op = .call { callee := .builtin .append, args := #[x, y], argTypes := #[t, t] } := by kernel_rfl) (hx : s.ev x = some (.v (.slice A n c)) := by kernel_rfl) (hy : s.ev y = some (.v (.slice B m c2)) := by kernel_rfl) (ht : C.P.underlying t = some (.slice q.e) := by kernel_rfl) (hinfo : (C.P.info? q.e).map (fun i => (i.zero, i.size, i.bytes)) = some (some z, q.size, bytes) := by kernel_rfl) (hz : z.cells.size = q.size := by rfl) (h0 : 0 < q.size := by exact Nat.succ_pos _) (hg : (guardOk s arr o && s.can o.dst) = true := by kernel_rfl) (hqv : q.v = .slice A n c := by rfl) (hqn : q.n = n := by rfl) (hb0 : 0 < bytes := by decide) : X C (.ops arr (o :: r)) k s R G := X.append i q t bytes z hop hx hy ht hinfo hz h0 hg hq hqv hqn hn hat hB h1 hb hb0 H
theorem Aw (i : Nat) (q : Row) (t bytes : Nat) (z : Value) (x y : Operand) (n c m c2 : Nat) (A B : Option Addr) (news : List Value) (hq : lk R i = some q ∨ (A = none ∧ c = 0 ∧ q.n = 0 ∧ q.cells = [])) (hn : news.length = m * q.size) (hat : At G R B 0 news) (hB : ∀ w, Mm G R w → B = none → m = 0) (h1 : ∀ u ∈ news, u.oneCell' = true) (hb : (n + m) * bytes ≤ 140737488355328)
    (H : ∀ A' c', n + m ≤ c' → X C (.ops arr r) k (s.put o.dst (.v (.slice A' (n + m) c'))) ((i, ⟨q.e, q.size, .slice A' (n + m) c', n + m, q.cells ++ news⟩) :: R) G)
    (hop : o.op = .call { callee := .builtin .append, args := #[x, y], argTypes := #[t, t] } := by kernel_rfl) (hx : s.ev x = some (.v (.slice A n c)) := by kernel_rfl) (hy : s.ev y = some (.v (.slice B m c2)) := by kernel_rfl) (ht : C.P.underlying t = some (.slice q.e) := by kernel_rfl) (hinfo : (C.P.info? q.e).map (fun i => (i.zero, i.size, i.bytes)) = some (some z, q.size, bytes) := by kernel_rfl) (hz : z.cells.size = q.size := by rfl) (h0 : 0 < q.size := by exact Nat.succ_pos _) (hg : (guardOk s arr o && s.can o.dst) = true := by kernel_rfl) (hqv : q.v = .slice A n c := by rfl) (hqn : q.n = n := by rfl) (hb0 : 0 < bytes := by decide) : X C (.ops arr (o :: r)) k s R G := X.appendW i q t bytes z hop hx hy ht hinfo hz h0 hg hq hqv hqn hn hat hB h1 hb hb0 H
theorem Lt (nm : Nat) (e size n : Nat) (cs : List Value) (H : ∀ A, X C (.ops arr r) k (s.put o.dst (.v (.slice A n n))) ((nm, ⟨e, size, .slice A n n, n, cs⟩) :: R) G)
    (hp : (isLit o.op && ((plainOps o).all s.plain && (guardOk s arr o && (s.can o.dst && (Nat.beq cs.length (n * size) && Nat.ble n 9223372036854775807))))) = true := by kernel_rfl) (hrun : ∀ g, snew C.P (execOp s.real o) g = some (.cells cs.toArray e (0, 0), .value (.slice (some ⟨g, 0, none⟩) n n)) := by intro g; kernel_rfl) : X C (.ops arr (o :: r)) k s R G := X.lit nm e size n cs hp hrun H
theorem Kn (j : Nat) (k' : IntKind) {x : Int} (z : Int) (hj : lk s.tmps j = some (.v (.int k' x))) (e : x = z) (H : X C cur k { s with tmps := (j, .v (.int k' z)) :: s.tmps } R G) : X C cur k s R G := X.known j hj (congrArg (fun z_ => AV.v (.int k' z_)) e) H
theorem Dk (j : Nat) (k' : IntKind) {x : Int} (z : Int) (hj : lk s.tmps j = some (.v (.int k' x))) (e : x = z) (H : XD C arr ρ0 F RF G0 ds q_ l k { s with tmps := (j, .v (.int k' z)) :: s.tmps } R G) : XD C arr ρ0 F RF G0 ds q_ l k s R G := XD.known j hj (congrArg (fun z_ => AV.v (.int k' z_)) e) H
theorem Og (id : Nat) (B : Code) (p : Nat) (n : Nat) (F : List Pin) (RF : List (Nat × Row)) (ds : List Nat) (hp : PinsOk s F) (hM : ∀ p ∈ F, p.t = none → (C.M.pin p.b).isSome = true) (H : ∀ ρ0, XD C (aA B (pa p)) ρ0 F RF G ds n (lb n 0) k s R G) {c : Code}
    (hc : c = .region id (aA B (pa p)) true := by kernel_rfl) (hm : C.P.follows .mixedOrders = true := by kernel_rfl) (hn : (aA B (pa p)).size = n := by kernel_rfl) (hl : Array.replicate n false = lb n 0 := by kernel_rfl) (hr : refsOk F = true := by kernel_rfl) (hR : pickL R (RF.map (·.1)) = RF := by rfl) : X C (.code c) k s R G := XD.open n F RF ds hc hm hn hl hr hp hM hR H
end
theorem Dg {P : Program} {fn : Func} {G G' : Mem} {w : World} {Post : Mem → Value → List Row → Prop} {e : Exit} {s : S} {R : List (Nat × Row)} {rows : List Row} (he : e = .ret ∨ e = .normal) (vs : List Value) (ids : List Nat) (hR : pickR R ids = some rows) (hG : Ge G w.heap.size G') (H : Post G' (mkRes vs) rows) (hr : (resAll P s fn.results.toList).bind plainAll = some vs := by kernel_rfl) (hd : allDiff ids = true := by rfl) : X (CtxG P fn G w Post) (.ex e) [] s R G' := doneG he vs ids hr hR hd hG H
end Go.Proofs.YtjgpdbkkpomhjaaX
