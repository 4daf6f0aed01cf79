import PyProof.Rows.All
import Wide.All
import OpenK.AllK
import Wide.FinOn
import HandS.ForMost
import HandS.TupAny
import HandS.TupMul
import HandS.IsInst
import HandS.TupLe
import HandS.DictComp
import HandS.Conv
import HandS.Walk
import HandS.Evl
import PySem.Challenge.RW_fairtrees_k01_machines_taken
set_option Elab.async false
set_option linter.all false
set_option maxRecDepth 100000
set_option maxHeartbeats 4000000
namespace Fx
open PySem PySem.Spec PyProof.Rows L2
def topS (i : Nat) : Stmt := PySem.Challenge.pw_fairtrees_k01_machines_taken.main.body.getD i (.Pass ⟨0, 0, 0, 0⟩)

/-! ### heaps, data, the pool of draws -/
/-- a def of the text as its callers see it -/
structure Cal (P : Program) (w : World) (K : PySem.W.Frag) (mg : Str → Option Value) (base : Heap) (k : Nat) (x : Str) (ps : List Str) (sp : Sp) where
  f : Addr
  fd : FuncData
  G : FnOk P w K mg base CX0 k f fd ps sp
  g : mg x = some (.ref f)
  kp : PySem.W.keepIn K (.ref f) = true
  b : Binds K fd ps []
theorem same_upd {H : Hp} {p : Addr} {o : HO} (h : H p = none) : Same H (upd H p o) := fun b x e => by
  rw [upd_ne (ne_of_none e h)]
  exact e
/-- an object that H does not know may change -/
theorem smut {H H' : Hp} {p : Addr} {o : HO} (e : Same H H') (h : H p = none) : Same H (upd H' p o) := fun a u ha => by
  rw [upd_ne (ne_of_none ha h)]
  exact e a u ha
/-- all tuples stand -/
def Imm (H H' : Hp) : Prop := ∀ a xs, Rd H a (.tup xs) → Rd H' a (.tup xs)
theorem Imm.refl (H : Hp) : Imm H H := fun _ _ h => h
theorem Imm.trans {H H1 H2 : Hp} (a : Imm H H1) (b : Imm H1 H2) : Imm H H2 := fun x xs h => b x xs (a x xs h)
theorem simm {H H' : Hp} (e : Same H H') : Imm H H' := fun a xs h => by
  rcases h with h | ⟨o, h⟩
  · exact .inl (e _ _ h)
  · exact .inr ⟨o, e _ _ h⟩
theorem Imm.sq {K : PySem.W.Frag} {H H' : Hp} {a : Addr} {xs : List V} (e : Imm H H') (h : SqT K H a xs) : SqT K H' a xs := by
  rcases h with h | h
  · exact .inl (e _ _ h)
  · exact .inr h
theorem ssqt {K : PySem.W.Frag} {H H' : Hp} {a : Addr} {xs : List V} (e : Same H H') (h : SqT K H a xs) : SqT K H' a xs := (simm e).sq h
/-- a list that changes is no tuple -/
theorem Imm.list {H : Hp} {p : Addr} {xs : List V} {o : HO} (h : H p = some (.lst xs)) : Imm H (upd H p o) := fun a ys e => by
  rcases e with e | ⟨u, e⟩
  · exact .inl (by rw [upd_ne (ne_of h e (by intro q; cases q)).symm]; exact e)
  · exact .inr ⟨u, by rw [upd_ne (ne_of h e (by intro q; cases q)).symm]; exact e⟩
theorem Imm.new {H : Hp} {p : Addr} {o : HO} (h : H p = none) : Imm H (upd H p o) := simm (same_upd h)
/-- a list of addresses, each a tuple of such things -/
inductive Each {α : Type} (R : Addr → α → Prop) : List Addr → List α → Prop where
  | nil : Each R [] []
  | cons {a : Addr} {as : List Addr} {x : α} {xs : List α} (h : R a x) (t : Each R as xs) : Each R (a :: as) (x :: xs)
theorem Each.imp {α : Type} {R S : Addr → α → Prop} (f : ∀ a x, R a x → S a x) : ∀ {as : List Addr} {xs : List α}, Each R as xs → Each S as xs
  | _, _, .nil => .nil
  | _, _, .cons h t => .cons (f _ _ h) (t.imp f)
theorem Each.len {α : Type} {R : Addr → α → Prop} : ∀ {as : List Addr} {xs : List α}, Each R as xs → as.length = xs.length
  | _, _, .nil => rfl
  | _, _, .cons _ t => by rw [List.length_cons, List.length_cons, t.len]
theorem Each.get {α : Type} {R : Addr → α → Prop} : ∀ {as : List Addr} {xs : List α} {i : Nat} {a : Addr}, Each R as xs → as[i]? = some a → ∃ x, xs[i]? = some x ∧ R a x
  | _, _, _, _, .nil, h => by simp at h
  | _, _, 0, _, .cons (x := x) r _, h => by
    have e := Option.some.inj h
    subst e
    exact ⟨x, rfl, r⟩
  | _, _, i + 1, _, .cons _ t, h => by
    obtain ⟨x, h1, h2⟩ := t.get (i := i) (by simpa using h)
    exact ⟨x, by simpa using h1, h2⟩
theorem Each.getx {α : Type} {R : Addr → α → Prop} : ∀ {as : List Addr} {xs : List α} {i : Nat} {x : α}, Each R as xs → xs[i]? = some x → ∃ a, as[i]? = some a ∧ R a x
  | _, _, _, _, .nil, h => by simp at h
  | _, _, 0, _, .cons (a := a) r _, h => by
    have e := Option.some.inj h
    subst e
    exact ⟨a, rfl, r⟩
  | _, _, i + 1, _, .cons _ t, h => by
    obtain ⟨x, h1, h2⟩ := t.getx (i := i) (by simpa using h)
    exact ⟨x, by simpa using h1, h2⟩
theorem Each.snoc {α : Type} {R : Addr → α → Prop} {a : Addr} {x : α} (r : R a x) : ∀ {as : List Addr} {xs : List α}, Each R as xs → Each R (as ++ [a]) (xs ++ [x])
  | _, _, .nil => .cons r .nil
  | _, _, .cons h t => .cons h (t.snoc r)
theorem map_get {α : Type} {f : α → V} {xs : List α} {i : Nat} {v : V} (h : (xs.map f)[i]? = some v) : ∃ x, xs[i]? = some x ∧ v = f x := by
  rw [List.getElem?_map] at h
  cases e : xs[i]? with
  | none =>
    rw [e] at h
    cases h
  | some x =>
    rw [e] at h
    exact ⟨x, rfl, (Option.some.inj h).symm⟩
theorem get_map {α : Type} {f : α → V} {xs : List α} {i : Nat} {x : α} (h : xs[i]? = some x) : (xs.map f)[i]? = some (f x) := by
  rw [List.getElem?_map, h]
  rfl
theorem notdec {p : Prop} [Decidable p] (h : (!decide p) = true) : ¬ p := by simpa using h
theorem dec_of {p : Prop} [Decidable p] (h : ¬ ((!decide p) = true)) : p := by simpa using h
theorem ixN_nat {n j : Nat} (hj : j < n) : ixN n (j : Int) = some j := by
  unfold ixN
  rw [if_pos (by omega), if_pos (by omega)]
  simp
theorem ixN0 {n : Nat} (h : 0 < n) : ixN n 0 = some 0 := ixN_nat (j := 0) h
theorem six0 {n : Nat} (h : 0 < n) : seqIndex? 0 n = some 0 := by
  unfold seqIndex?
  simp
  omega
theorem szOk {n : Nat} (h : n ≤ 100000) : n ≤ sizeLine := Nat.le_trans h (by decide)
theorem szLt {n : Nat} (h : n < 100000) : n < sizeLine := Nat.lt_of_lt_of_le h (by decide)
theorem ty_sqt {K : PySem.W.Frag} {H : Hp} {a : Addr} {xs : List V} (h : SqT K H a xs) : TyX K H (.ref a) (.type "tuple") := by
  rcases h with (h | ⟨o, h⟩) | ⟨o, its, n, hk, hc, _⟩
  · exact .base (.tup h)
  · exact .fTuple h
  · exact .kTuple hk hc
/-- the pool's addresses: itself, its great numbers, its small ones -/
structure PA where
  p : Addr
  g : Addr
  s : Addr
def Off (a : PA) (b : Addr) : Prop := b ≠ a.p ∧ b ≠ a.g ∧ b ≠ a.s
structure Pool (H : Hp) (a : PA) (c : Nat) : Prop where
  ex : ∃ (gs ss : List Int) (st ct : Int), H a.p = some (.lst [.ref a.g, .ref a.s, .int st, .int ct]) ∧ H a.g = some (.lst (gs.map V.int)) ∧ H a.s = some (.lst (ss.map V.int)) ∧
    gs.length ≤ 63 ∧ ss.length ≤ 63 ∧ 0 ≤ st ∧ st < 2147483647 ∧ 0 ≤ ct ∧ ct ≤ c ∧ a.s ≠ a.g
/-- all but the pool stands -/
def Kp (a : PA) (H H' : Hp) : Prop := ∀ b o, H b = some o → Off a b → H' b = some o
theorem Kp.refl {a : PA} (H : Hp) : Kp a H H := fun _ _ h _ => h
theorem Kp.trans {a : PA} {H H1 H2 : Hp} (x : Kp a H H1) (y : Kp a H1 H2) : Kp a H H2 := fun c o h n => y c o (x c o h n) n
theorem skp {a : PA} {H H' : Hp} (s : Same H H') : Kp a H H' := fun b o h _ => s b o h
theorem Kp.mut {a : PA} {H H' : Hp} {q : Addr} {o : HO} (e : Kp a H H') (h : H q = none) : Kp a H (upd H' q o) := fun b u hb n => by
  rw [upd_ne (ne_of_none hb h)]
  exact e b u hb n
theorem Kp.free {a : PA} {H H' : Hp} {l : Addr} (k : Kp a H H') (h : H' l = none) (n : Off a l) : H l = none := by
  cases e : H l with
  | none => rfl
  | some o =>
    rw [k l o e n] at h
    cases h
theorem Pool.mono {H : Hp} {a : PA} {c c' : Nat} (P : Pool H a c) (h : c ≤ c') : Pool H a c' := by
  obtain ⟨gs, ss, st, ct, a1, a2, a3, a4, a5, a6, a7, a8, a9, a10⟩ := P.ex
  exact ⟨gs, ss, st, ct, a1, a2, a3, a4, a5, a6, a7, a8, by omega, a10⟩
theorem Pool.same {H H' : Hp} {a : PA} {c : Nat} (P : Pool H a c) (e : Same H H') : Pool H' a c := by
  obtain ⟨gs, ss, st, ct, a1, a2, a3, a4, a5, a6, a7, a8, a9, a10⟩ := P.ex
  exact ⟨gs, ss, st, ct, e _ _ a1, e _ _ a2, e _ _ a3, a4, a5, a6, a7, a8, a9, a10⟩
theorem Pool.off {H : Hp} {a : PA} {b : Addr} {c : Nat} (P : Pool H a c) (h : H b = none) : Off a b := by
  obtain ⟨gs, ss, st, ct, a1, a2, a3, a4, a5, a6, a7, a8, a9, a10⟩ := P.ex
  exact ⟨(ne_of_none a1 h).symm, (ne_of_none a2 h).symm, (ne_of_none a3 h).symm⟩
/-- what is no list is none of the pool's -/
theorem Pool.offo {H : Hp} {a : PA} {b : Addr} {c : Nat} {o : HO} (P : Pool H a c) (h : H b = some o) (n : ∀ xs, o ≠ .lst xs) : Off a b := by
  obtain ⟨gs, ss, st, ct, a1, a2, a3, a4, a5, a6, a7, a8, a9, a10⟩ := P.ex
  exact ⟨(ne_of a1 h (n _).symm).symm, (ne_of a2 h (n _).symm).symm, (ne_of a3 h (n _).symm).symm⟩
theorem Pool.imm {H H' : Hp} {a : PA} {c : Nat} (P : Pool H a c) (k : Kp a H H') : Imm H H' := fun b xs h => by
  rcases h with h | ⟨o, h⟩
  · exact .inl (k _ _ h (P.offo h fun _ q => by cases q))
  · exact .inr ⟨o, k _ _ h (P.offo h fun _ q => by cases q)⟩
/-- an object beside the pool is laid or changed -/
theorem Pool.upd {H : Hp} {a : PA} {b : Addr} {c : Nat} {o : HO} (P : Pool H a c) (n : Off a b) : Pool (upd H b o) a c := by
  obtain ⟨gs, ss, st, ct, a1, a2, a3, a4, a5, a6, a7, a8, a9, a10⟩ := P.ex
  exact ⟨gs, ss, st, ct, by rw [upd_ne n.1.symm]; exact a1, by rw [upd_ne n.2.1.symm]; exact a2, by rw [upd_ne n.2.2.symm]; exact a3, a4, a5, a6, a7, a8, a9, a10⟩
/-! ### rules within a comprehension's block: the written part by its name -/
section
variable {X : Cx}
theorem ixL (K : PySem.W.Frag) (h : X.K = K := by rfl) : IxR X (rIxL K) := by subst h; exact ix_list
theorem ixT (K : PySem.W.Frag) (h : X.K = K := by rfl) : IxR X (rIxT K) := by subst h; exact ix_tup
theorem inS (K : PySem.W.Frag) (h : X.K = K := by rfl) : OpR X (compareOp .In) (rIn K false) := by subst h; exact op_in_seq
theorem ninS (K : PySem.W.Frag) (h : X.K = K := by rfl) : OpR X (compareOp .NotIn) (rIn K true) := by subst h; exact op_notIn_seq
theorem lenS (K : PySem.W.Frag) (h : X.K = K := by rfl) : CallR X (.builtin "len") (fun xs H Q => ∃ p ys, xs = [.ref p] ∧ (SqL K H p ys ∨ SqT K H p ys) ∧ Q (.int ys.length) H) := by subst h; exact call_len_seq
theorem isiK (K : PySem.W.Frag) (h : X.K = K := by rfl) : CallR X (.builtin "isinstance") (rIsi K) := by subst h; exact call_isi
theorem tupOf (K : PySem.W.Frag) (h : X.K = K := by rfl) : CallR X (.type "tuple") (fun xs H Q => ∃ p ys, xs = [.ref p] ∧ ((SqL K H p ys ∧ ∀ l, H l = none → Q (.ref l) (upd H l (.tup ys))) ∨ (SqT K H p ys ∧ Q (.ref p) H))) := by subst h; exact call_tuple_of
theorem slL (K : PySem.W.Frag) (h : X.K = K := by rfl) : SlR X (rSlL K) := by subst h; exact sl_list
theorem slA (K : PySem.W.Frag) (h : X.K = K := by rfl) : SlR X (rSlA K) := by subst h; exact sl_tupA
theorem catA (K : PySem.W.Frag) (h : X.K = K := by rfl) : OpR X (binaryOp .Add) (rCatA K) := by subst h; exact op_catA
theorem sortS (K : PySem.W.Frag) (h : X.K = K := by rfl) : CallR X (.builtin "sorted") (rSortedS K) := by subst h; exact cr_sortedS
theorem sortI (K : PySem.W.Frag) (h : X.K = K := by rfl) : CallR X (.builtin "sorted") (rSorted K) := by subst h; exact cr_sorted
end
/-! ### comprehensions: what holds of the list so far -/
section
variable {K : PySem.W.Frag}
/-- over a range, its turns drawing from the pool (k draws a turn) -/
theorem lc_rangeP {lo : Int} {n j : Nat} {tt : TT} {te : TE} {vs : List Nat} {σ : L2.St} {H1 : Hp} {D : Addr} {Qd : Hp → Prop} {a : PA} {c0 : Nat} (k : Nat) (ok : Nat → List V → Prop)
    (P0 : Pool H1 a c0) (hD : H1 D = none) (hn : n ≤ 100000) (h0 : ok 0 []) (hw : ∀ x, wipe ((wipe σ vs).set j (some x)) vs = wipe σ vs)
    (turn : ∀ (i : Nat) (H : Hp) (acc : List V), i < n → Pool H a (c0 + i * k) → Kp a H1 H → ok i acc → acc.length ≤ i → ∀ (N1 : V → Hp → Prop) (N2 : Hp → Prop),
      (∀ y H', Pool H' a (c0 + i * k + k) → Kp a H H' → ok (i + 1) (acc ++ [y]) → N1 y H') → (∀ H', Pool H' a (c0 + i * k + k) → Kp a H H' → ok (i + 1) acc → N2 H') →
      tt ((wipe σ vs).set j (some (.int (lo + i)))) H fun b H3 => if b = true then te ((wipe σ vs).set j (some (.int (lo + i)))) H3 N1 else N2 H3)
    (done : ∀ (H : Hp) (acc : List V), Pool H a (c0 + n * k) → Kp a H1 H → H D = some (.lst acc) → acc.length ≤ n → ok n acc → Off a D → Qd H) :
    ∃ W : Nat → Nat → Hp → Prop, (∃ m, W 0 m (upd H1 D (.lst []))) ∧ ∀ i m H, W i m H →
      ((Itr lo n).stop i H ∧ Qd H) ∨ ((Itr lo n).go i H ∧ ∃ Nx : Hp → Prop, (∀ H', Nx H' → ∃ m', m' < m ∧ W (i + 1) m' H') ∧ ∀ x H', (Itr lo n).yld i H x H' → (gName j) x (wipe σ vs) H' fun σ2 H2 => wipe σ2 vs = wipe σ vs ∧ tt σ2 H2 fun b H3 =>
        if b = true then te σ2 H3 fun y H4 => ∃ acc, H4 D = some (.lst acc) ∧ acc.length < sizeLine ∧ Nx (upd H4 D (.lst (acc ++ [y]))) else Nx H3) := by
  have oD : Off a D := P0.off hD
  refine lc_range (lo := lo) (n := n) (fun i H => ∃ acc, Pool H a (c0 + i * k) ∧ Kp a H1 H ∧ H D = some (.lst acc) ∧ acc.length ≤ i ∧ ok i acc) ⟨[], ?_, skp (same_upd hD), upd_same, Nat.le_refl _, h0⟩ (fun i H hi p => ?_) (fun H p => ?_)
  · rw [Nat.zero_mul]
    exact P0.upd oD
  · obtain ⟨acc, p1, p2, p3, p4, p5⟩ := p
    refine ⟨hw _, turn i H acc hi p1 p2 p5 p4 _ _ (fun y H' q1 q2 q3 => ⟨acc, q2 _ _ p3 oD, szLt (by omega), acc ++ [y], ?_, ?_, upd_same, ?_, q3⟩) (fun H' q1 q2 q3 => ⟨acc, ?_, p2.trans q2, q2 _ _ p3 oD, by omega, q3⟩)⟩
    · rw [Nat.succ_mul, ← Nat.add_assoc]
      exact q1.upd oD
    · exact Kp.mut (p2.trans q2) hD
    · rw [List.length_append]
      show acc.length + 1 ≤ i + 1
      omega
    · rw [Nat.succ_mul, ← Nat.add_assoc]
      exact q1
  · obtain ⟨acc, p1, p2, p3, p4, p5⟩ := p
    exact done H acc p1 p2 p3 p4 p5 oD
/-- over a walked thing, its turns changing nothing that stood -/
theorem lc_rangeS {lo : Int} {n j : Nat} {tt : TT} {te : TE} {vs : List Nat} {σ : L2.St} {H1 : Hp} {D : Addr} {Qd : Hp → Prop} (ok : Nat → List V → Prop)
    (hD : H1 D = none) (hn : n ≤ 100000) (h0 : ok 0 []) (hw : ∀ x, wipe ((wipe σ vs).set j (some x)) vs = wipe σ vs)
    (turn : ∀ (i : Nat) (H : Hp) (acc : List V), i < n → Same H1 H → ok i acc → acc.length ≤ i → ∀ (N1 : V → Hp → Prop) (N2 : Hp → Prop),
      (∀ y H', Same H H' → ok (i + 1) (acc ++ [y]) → N1 y H') → (∀ H', Same H H' → ok (i + 1) acc → N2 H') →
      tt ((wipe σ vs).set j (some (.int (lo + i)))) H fun b H3 => if b = true then te ((wipe σ vs).set j (some (.int (lo + i)))) H3 N1 else N2 H3)
    (done : ∀ (H : Hp) (acc : List V), Same H1 H → H D = some (.lst acc) → acc.length ≤ n → ok n acc → Qd H) :
    ∃ W : Nat → Nat → Hp → Prop, (∃ m, W 0 m (upd H1 D (.lst []))) ∧ ∀ i m H, W i m H →
      ((Itr lo n).stop i H ∧ Qd H) ∨ ((Itr lo n).go i H ∧ ∃ Nx : Hp → Prop, (∀ H', Nx H' → ∃ m', m' < m ∧ W (i + 1) m' H') ∧ ∀ x H', (Itr lo n).yld i H x H' → (gName j) x (wipe σ vs) H' fun σ2 H2 => wipe σ2 vs = wipe σ vs ∧ tt σ2 H2 fun b H3 =>
        if b = true then te σ2 H3 fun y H4 => ∃ acc, H4 D = some (.lst acc) ∧ acc.length < sizeLine ∧ Nx (upd H4 D (.lst (acc ++ [y]))) else Nx H3) := by
  refine lc_range (lo := lo) (n := n) (fun i H => ∃ acc, Same H1 H ∧ H D = some (.lst acc) ∧ acc.length ≤ i ∧ ok i acc) ⟨[], same_upd hD, upd_same, Nat.le_refl _, h0⟩ (fun i H hi p => ?_) (fun H p => ?_)
  · obtain ⟨acc, p2, p3, p4, p5⟩ := p
    refine ⟨hw _, turn i H acc hi p2 p5 p4 _ _ (fun y H' q2 q3 => ⟨acc, q2 _ _ p3, szLt (by omega), acc ++ [y], smut (p2.trans q2) hD, upd_same, ?_, q3⟩) (fun H' q2 q3 => ⟨acc, p2.trans q2, q2 _ _ p3, by omega, q3⟩)⟩
    rw [List.length_append]
    show acc.length + 1 ≤ i + 1
    omega
  · obtain ⟨acc, p2, p3, p4, p5⟩ := p
    exact done H acc p2 p3 p4 p5
theorem lc_listS {a : Addr} {xs : List V} {j : Nat} {tt : TT} {te : TE} {vs : List Nat} {σ : L2.St} {H1 : Hp} {D : Addr} {Qd : Hp → Prop} (ok : Nat → List V → Prop)
    (hx : SqL K H1 a xs) (hD : H1 D = none) (hn : xs.length ≤ 100000) (h0 : ok 0 []) (hw : ∀ x, wipe ((wipe σ vs).set j (some x)) vs = wipe σ vs)
    (turn : ∀ (i : Nat) (x : V) (H : Hp) (acc : List V), xs[i]? = some x → Same H1 H → ok i acc → acc.length ≤ i → ∀ (N1 : V → Hp → Prop) (N2 : Hp → Prop),
      (∀ y H', Same H H' → ok (i + 1) (acc ++ [y]) → N1 y H') → (∀ H', Same H H' → ok (i + 1) acc → N2 H') →
      tt ((wipe σ vs).set j (some x)) H fun b H3 => if b = true then te ((wipe σ vs).set j (some x)) H3 N1 else N2 H3)
    (done : ∀ (H : Hp) (acc : List V), Same H1 H → H D = some (.lst acc) → acc.length ≤ xs.length → ok xs.length acc → Qd H) :
    ∃ W : Nat → Nat → Hp → Prop, (∃ m, W 0 m (upd H1 D (.lst []))) ∧ ∀ i m H, W i m H →
      ((Itl K a).stop i H ∧ Qd H) ∨ ((Itl K a).go i H ∧ ∃ Nx : Hp → Prop, (∀ H', Nx H' → ∃ m', m' < m ∧ W (i + 1) m' H') ∧ ∀ x H', (Itl K a).yld i H x H' → (gName j) x (wipe σ vs) H' fun σ2 H2 => wipe σ2 vs = wipe σ vs ∧ tt σ2 H2 fun b H3 =>
        if b = true then te σ2 H3 fun y H4 => ∃ acc, H4 D = some (.lst acc) ∧ acc.length < sizeLine ∧ Nx (upd H4 D (.lst (acc ++ [y]))) else Nx H3) := by
  refine lc_list (xs := xs) (fun i H => ∃ acc, Same H1 H ∧ H D = some (.lst acc) ∧ acc.length ≤ i ∧ ok i acc) ⟨[], same_upd hD, upd_same, Nat.le_refl _, h0⟩ (fun i H _ p => ?_) (fun i x H hi p => ?_) (fun H p => ?_)
  · obtain ⟨acc, p2, _⟩ := p
    exact p2.seq hx
  · obtain ⟨acc, p2, p3, p4, p5⟩ := p
    have hil : i < xs.length := (List.getElem?_eq_some_iff.mp hi).1
    refine ⟨hw _, turn i x H acc hi p2 p5 p4 _ _ (fun y H' q2 q3 => ⟨acc, q2 _ _ p3, szLt (by omega), acc ++ [y], smut (p2.trans q2) hD, upd_same, ?_, q3⟩) (fun H' q2 q3 => ⟨acc, p2.trans q2, q2 _ _ p3, by omega, q3⟩)⟩
    rw [List.length_append]
    show acc.length + 1 ≤ i + 1
    omega
  · obtain ⟨acc, p2, p3, p4, p5⟩ := p
    exact done H acc p2 p3 p4 p5
theorem lc_tupS {a : Addr} {xs : List V} {j : Nat} {tt : TT} {te : TE} {vs : List Nat} {σ : L2.St} {H1 : Hp} {D : Addr} {Qd : Hp → Prop} (ok : Nat → List V → Prop)
    (hx : SqT K H1 a xs) (hD : H1 D = none) (hn : xs.length ≤ 100000) (h0 : ok 0 []) (hw : ∀ x, wipe ((wipe σ vs).set j (some x)) vs = wipe σ vs)
    (turn : ∀ (i : Nat) (x : V) (H : Hp) (acc : List V), xs[i]? = some x → Same H1 H → ok i acc → acc.length ≤ i → ∀ (N1 : V → Hp → Prop) (N2 : Hp → Prop),
      (∀ y H', Same H H' → ok (i + 1) (acc ++ [y]) → N1 y H') → (∀ H', Same H H' → ok (i + 1) acc → N2 H') →
      tt ((wipe σ vs).set j (some x)) H fun b H3 => if b = true then te ((wipe σ vs).set j (some x)) H3 N1 else N2 H3)
    (done : ∀ (H : Hp) (acc : List V), Same H1 H → H D = some (.lst acc) → acc.length ≤ xs.length → ok xs.length acc → Qd H) :
    ∃ W : Nat → Nat → Hp → Prop, (∃ m, W 0 m (upd H1 D (.lst []))) ∧ ∀ i m H, W i m H →
      ((Itt K a).stop i H ∧ Qd H) ∨ ((Itt K a).go i H ∧ ∃ Nx : Hp → Prop, (∀ H', Nx H' → ∃ m', m' < m ∧ W (i + 1) m' H') ∧ ∀ x H', (Itt K a).yld i H x H' → (gName j) x (wipe σ vs) H' fun σ2 H2 => wipe σ2 vs = wipe σ vs ∧ tt σ2 H2 fun b H3 =>
        if b = true then te σ2 H3 fun y H4 => ∃ acc, H4 D = some (.lst acc) ∧ acc.length < sizeLine ∧ Nx (upd H4 D (.lst (acc ++ [y]))) else Nx H3) := by
  refine lc_tup (xs := xs) (fun i H => ∃ acc, Same H1 H ∧ H D = some (.lst acc) ∧ acc.length ≤ i ∧ ok i acc) ⟨[], same_upd hD, upd_same, Nat.le_refl _, h0⟩ (fun i H _ p => ?_) (fun i x H hi p => ?_) (fun H p => ?_)
  · obtain ⟨acc, p2, _⟩ := p
    exact ssqt p2 hx
  · obtain ⟨acc, p2, p3, p4, p5⟩ := p
    have hil : i < xs.length := (List.getElem?_eq_some_iff.mp hi).1
    refine ⟨hw _, turn i x H acc hi p2 p5 p4 _ _ (fun y H' q2 q3 => ⟨acc, q2 _ _ p3, szLt (by omega), acc ++ [y], smut (p2.trans q2) hD, upd_same, ?_, q3⟩) (fun H' q2 q3 => ⟨acc, p2.trans q2, q2 _ _ p3, by omega, q3⟩)⟩
    rw [List.length_append]
    show acc.length + 1 ≤ i + 1
    omega
  · obtain ⟨acc, p2, p3, p4, p5⟩ := p
    exact done H acc p2 p3 p4 p5
end

/-- what the top leaves of the names that the text reads -/
structure Bi (mg : Str → Option Value) : Prop where
  len : mg "len" = none
  isinstance : mg "isinstance" = none
  int : mg "int" = none
  bool : mg "bool" = none
  str : mg "str" = none
  tuple : mg "tuple" = none
  range : mg "range" = none
  sorted : mg "sorted" = none

/-! ### _law_pool, _law_draw -/
abbrev s_law_pool : Stmt := topS 23
theorem sc_law_pool : FnScope ["_law_script", "_law_great", "_law_cell"] ["_law_script"] (defScope s_law_pool) := ⟨rfl, rfl, rfl, by decide +kernel, rfl, by decide +kernel, by decide +kernel⟩
abbrev s_law_draw : Stmt := topS 24
theorem sc_law_draw : FnScope ["_law_pool_here", "_law_many", "_law_cell"] ["_law_pool_here", "_law_many"] (defScope s_law_draw) := ⟨rfl, rfl, rfl, by decide +kernel, rfl, by decide +kernel, by decide +kernel⟩
section
variable {P : Program} {w : World} {K : PySem.W.Frag} {mg : Str → Option Value} {base : Heap}
def spPool (K : PySem.W.Frag) : Sp := fun vs H Q _ => ∃ (l : Addr) (ns : List Int), vs = [.ref l] ∧ SqL K H l (ns.map V.int) ∧ ns.length ≤ 63 ∧ ∀ H' a, Same H H' → Pool H' a 0 → Q (.ref a.p) H'
theorem ok_pool {f : Addr} {fd : FuncData} (F : Fun K "_law_pool" "_law_pool" s_law_pool f fd) : FnOk P w K mg base CX0 1 f fd ["_law_script"] (spPool K) := by
  refine F.ok sc_law_pool (fun vs H Q E h => ?_) (fun cdv A outer s H vs Q E hr h => ?_)
  · obtain ⟨l, ns, rfl, _⟩ := h
    rfl
  · obtain ⟨l, ns, rfl, hS, hlen, q⟩ := h
    refine ⟨_, (pss_cons (ps_setLc (i := 1) (own := [("_law_cell", 2)]) (g := gName 2) (by rfl) sc_law_pool.nd rfl rfl (sw_true rfl rfl rfl (by decide +kernel)) (pi_list (pv 0)) (blkOk_by (own := [("_law_cell", 2)]) (N := ["_law_script", "_law_great", "_law_cell"]) (sc := defScope s_law_pool) (by decide +kernel)) (fun _ _ _ _ _ => (pg_name (i := 2) sc_law_pool.nd rfl (.inl rfl))) (fun _ _ _ _ _ => (pts_one (pt_cmpR op_ge (pv 2) (pe_op op_pow pe_int pe_int) (nomark _)))) (fun _ _ _ _ _ => (pv 2)))
      (pss_one (ps_ret (pe_lst (pa_cons (pv 1) (pa_cons (pe_lc (own := [("_law_cell", 2)]) (g := gName 2) rfl sc_law_pool.nd (pi_list (pv 0)) (blkOk_by (own := [("_law_cell", 2)]) (N := ["_law_script", "_law_great", "_law_cell"]) (sc := defScope s_law_pool) (by decide +kernel)) (fun _ _ _ _ _ => (pg_name (i := 2) sc_law_pool.nd rfl (.inl rfl))) (fun _ _ _ _ _ => (pts_one (pt_cmpR op_lt (pv 2) (pe_op op_pow pe_int pe_int) (nomark _)))) (fun _ _ _ _ _ => (pv 2))) (pa_cons pe_int (pa_cons pe_int pa_nil)))))))), ?_⟩
    refine ⟨_, rfl, l, rfl, ⟨_, hS⟩, fun D hD => lc_listS (K := K) (a := l) (xs := ns.map V.int) (fun i acc => ∃ gs : List Int, acc = gs.map V.int) hS hD (by rw [List.length_map]; omega) ⟨[], rfl⟩ (fun _ => rfl) ?_ ?_⟩
    · intro i x H1 acc hx s1 ⟨gs, hg⟩ _ N1 N2 k1 k2
      obtain ⟨z, hz, rfl⟩ := map_get hx
      refine ⟨_, rfl, _, _, rfl, rfl, ⟨by decide, by decide, by decide⟩, _, _, rfl, rfl, _, rfl, ite2 (fun e => ?_) (fun e => ?_)⟩
      · exact ⟨_, rfl, k1 _ _ (Same.refl _) ⟨gs ++ [z], by rw [hg, List.map_append]; rfl⟩⟩
      · exact k2 _ (Same.refl _) ⟨gs, hg⟩
    · intro H1 acc s1 hD1 la ⟨gs, hg⟩
      subst hg
      have hS1 : SqL K H1 l (ns.map V.int) := s1.seq hS
      refine ⟨_, rfl, _, rfl, l, rfl, ⟨_, hS1⟩, fun D2 hD2 => lc_listS (K := K) (a := l) (xs := ns.map V.int) (fun i acc => ∃ gs : List Int, acc = gs.map V.int) hS1 hD2 (by rw [List.length_map]; omega) ⟨[], rfl⟩ (fun _ => rfl) ?_ ?_⟩
      · intro i x H2 acc hx s2 ⟨gs, hg⟩ _ N1 N2 k1 k2
        obtain ⟨z, hz, rfl⟩ := map_get hx
        refine ⟨_, rfl, _, _, rfl, rfl, ⟨by decide, by decide, by decide⟩, _, _, rfl, rfl, _, rfl, ite2 (fun e => ?_) (fun e => ?_)⟩
        · exact ⟨_, rfl, k1 _ _ (Same.refl _) ⟨gs ++ [z], by rw [hg, List.map_append]; rfl⟩⟩
        · exact k2 _ (Same.refl _) ⟨gs, hg⟩
      · intro H2 acc s2 hD2' la2 ⟨ss, hs⟩
        subst hs
        refine ⟨by show 4 ≤ sizeLine; decide, fun p hp => q _ ⟨p, D, D2⟩ ((s1.trans s2).trans (same_upd hp)) ⟨gs, ss, 5, 0, upd_same, ?_, ?_, ?_, ?_, by decide, by decide, by decide, by decide, ?_⟩⟩
        · show upd H2 p _ D = _
          rw [upd_ne (ne_of_none (s2 _ _ hD1) hp)]
          exact s2 _ _ hD1
        · show upd H2 p _ D2 = _
          rw [upd_ne (ne_of_none hD2' hp)]
          exact hD2'
        · rw [List.length_map, List.length_map] at la
          omega
        · rw [List.length_map, List.length_map] at la2
          omega
        · exact (ne_of_none hD1 hD2).symm
def spDraw : Sp := fun vs H Q _ => ∃ (a : PA) (c : Nat) (m : Int), vs = [.ref a.p, .int m] ∧ Pool H a c ∧ c < 1000000 ∧ 0 < m ∧ m < 1073741824 ∧
  ∀ H' r, 0 ≤ r → r < m → Pool H' a (c + 1) → Kp a H H' → Q (.int r) H'
theorem ok_draw {f : Addr} {fd : FuncData} (F : Fun K "_law_draw" "_law_draw" s_law_draw f fd) (T : Bi mg) : FnOk P w K mg base CX0 1 f fd ["_law_pool_here", "_law_many"] spDraw := by
  refine F.ok sc_law_draw (fun vs H Q E h => ?_) (fun cdv A outer s H vs Q E hr h => ?_)
  · obtain ⟨a, c, m, rfl, _⟩ := h
    rfl
  · obtain ⟨⟨p, g, s⟩, c, m, rfl, PP, hc, hm0, hm1, q⟩ := h
    obtain ⟨gs, ss, st, ct, a1, a2, a3, a4, a5, a6, a7, a8, a9, a10⟩ := PP.ex
    have npg : p ≠ g := ne_of a1 a2 (by intro q; have := HO.lst.inj q; cases gs <;> cases this)
    have nps : p ≠ s := ne_of a1 a3 (by intro q; have := HO.lst.inj q; cases ss <;> cases this)
    refine ⟨_, (pss_cons (ps_if (pt_cmpR op_gt (pe_callB call_len_seq (by rfl) T.len PySem.boot_len (pa_cons (pe_ix ix_list (pv 0) pe_int (fun _ _ => rfl)) pa_nil)) pe_int (nomark _))
        (pss_cons (ps_set (i := 2) sc_law_draw.nd rfl (.inl rfl) (pe_ix ix_list (pe_ix ix_list (pv 0) pe_int (fun _ _ => rfl)) pe_int (fun _ _ => rfl)))
        (pss_cons (ps_asg (pe_op op_fdiv (pv 2) (pv 1)) (pg_sub (pe_ix ix_list (pv 0) pe_int (fun _ _ => rfl)) pe_int set_list))
        (pss_cons (ps_if (pt_cmpR op_eq (pe_op op_fdiv (pv 2) (pv 1)) pe_int (nomark _))
          (pss_one (ps_expr (pe_bm PySem.F.plainAttrs_list PySem.F.slot_list_pop PySem.F.type_list_pop mt_popAt (pe_ix ix_list (pv 0) pe_int (fun _ _ => rfl)) (pa_cons pe_int pa_nil))))
          pss_nil)
        (pss_one (ps_ret (pe_op op_mod (pv 2) (pv 1)))))))
        pss_nil)
      (pss_cons (ps_asg (pe_op op_add (pe_ix ix_list (pv 0) pe_int (fun _ _ => rfl)) pe_int) (pg_sub (pv 0) pe_int set_list))
      (pss_cons (ps_set (i := 2) sc_law_draw.nd rfl (.inl rfl) pe_int)
      (pss_cons (ps_if (pt_cmpR op_gt (pe_callB call_len_seq (by rfl) T.len PySem.boot_len (pa_cons (pe_ix ix_list (pv 0) pe_int (fun _ _ => rfl)) pa_nil)) pe_int (nomark _))
        (pss_one (ps_set (i := 2) sc_law_draw.nd rfl (.inl rfl) (pe_ix ix_list (pe_ix ix_list (pv 0) pe_int (fun _ _ => rfl)) (pe_op op_mod (pe_ix ix_list (pv 0) pe_int (fun _ _ => rfl)) (pe_callB call_len_seq (by rfl) T.len PySem.boot_len (pa_cons (pe_ix ix_list (pv 0) pe_int (fun _ _ => rfl)) pa_nil))) (fun _ _ => rfl))))
        pss_nil)
      (pss_cons (ps_set (i := 2) sc_law_draw.nd rfl (.inl rfl) (pe_op op_mul (pe_op op_mod (pv 2) pe_int) (pe_op op_add (pe_op op_mul (pe_ix ix_list (pv 0) pe_int (fun _ _ => rfl)) (pe_ix ix_list (pv 0) pe_int (fun _ _ => rfl))) pe_int)))
      (pss_cons (ps_asg (pe_op op_mod (pe_op op_add (pe_op op_add (pe_op op_mul (pe_ix ix_list (pv 0) pe_int (fun _ _ => rfl)) pe_int) (pv 2)) (pe_op op_mul pe_int (pe_ix ix_list (pv 0) pe_int (fun _ _ => rfl)))) pe_int) (pg_sub (pv 0) pe_int set_list))
      (pss_one (ps_ret (pe_op op_mod (pe_op op_fdiv (pe_op op_mod (pe_op op_pow (pe_ix ix_list (pv 0) pe_int (fun _ _ => rfl)) pe_int) pe_int) pe_int) (pv 1)))))))))), ?_⟩
    -- if len(pool[0]) > 0
    refine ⟨_, rfl, p, _, _, _, rfl, rfl, SqL.of a1, at_of (j := 0) rfl rfl, g, _, rfl, .inl (SqL.of a2), _, _, rfl, rfl, _, rfl, ite2 (fun e => ?_) (fun e => ?_)⟩
    · obtain ⟨z, r, rfl⟩ : ∃ z r, gs = z :: r := by
        cases gs with
        | nil => exact absurd e (by decide)
        | cons z r => exact ⟨z, r, rfl⟩
      refine ⟨_, rfl, p, _, _, _, rfl, rfl, SqL.of a1, at_of (j := 0) rfl rfl, g, _, _, .int z, rfl, rfl, SqL.of a2, at_of (j := 0) rfl rfl, ?_⟩
      have a1' : ∀ o, upd H g o p = some (.lst [.ref g, .ref s, .int st, .int ct]) := fun o => by
        rw [upd_ne npg]
        exact a1
      have a3' : ∀ o, upd H g o s = some (.lst (ss.map V.int)) := fun o => by
        rw [upd_ne a10]
        exact a3
      refine ⟨_, rfl, _, rfl, _, _, rfl, rfl, ⟨hm0, hm1⟩, _, rfl, p, _, _, _, rfl, rfl, SqL.of a1, at_of (j := 0) rfl rfl, g, _, 0, 0, rfl, rfl, a2, ixN0 (by simp), ?_⟩
      refine ⟨_, rfl, _, rfl, _, _, rfl, rfl, ⟨hm0, hm1⟩, rfl, _, rfl, ite2 (fun e0 => ?_) (fun e0 => ?_)⟩
      · refine ⟨_, rfl, p, _, _, _, rfl, rfl, SqL.of (a1' _), at_of (j := 0) rfl rfl, .inl ⟨rfl, _, SqL.of upd_same⟩, g, _, 0, 0, _, rfl, rfl, upd_same, by decide, by decide, six0 (by simp), rfl, ?_⟩
        refine ⟨_, rfl, _, rfl, _, _, rfl, rfl, hm0, ?_⟩
        refine q _ _ (Int.emod_nonneg _ (by omega)) (Int.emod_lt_of_pos _ hm0) ⟨r, ss, st, ct, ?_, ?_, ?_, ?_, a5, a6, a7, a8, by omega, a10⟩ (fun b o hb n => ?_)
        · rw [upd_upd]
          exact a1' _
        · show upd _ g _ g = _
          rw [upd_same]
          rfl
        · rw [upd_upd]
          exact a3' _
        · simp at a4
          omega
        · rw [upd_ne n.2.1, upd_ne n.2.1]
          exact hb
      · refine ⟨_, rfl, _, rfl, _, _, rfl, rfl, hm0, ?_⟩
        refine q _ _ (Int.emod_nonneg _ (by omega)) (Int.emod_lt_of_pos _ hm0) ⟨(z / m) :: r, ss, st, ct, a1' _, ?_, a3' _, ?_, a5, a6, a7, a8, by omega, a10⟩ (fun b o hb n => ?_)
        · show upd _ g _ g = _
          rw [upd_same]
          rfl
        · simpa using a4
        · rw [upd_ne n.2.1]
          exact hb
    · -- pool[3] = pool[3] + 1
      refine ⟨_, rfl, p, _, _, _, rfl, rfl, SqL.of a1, at_of (j := 3) rfl rfl, _, _, rfl, rfl, _, rfl, p, _, 3, 3, rfl, rfl, a1, rfl, ?_⟩
      have w1 : upd H p (.lst [.ref g, .ref s, .int st, .int (ct + 1)]) p = some (.lst [.ref g, .ref s, .int st, .int (ct + 1)]) := upd_same
      have w2 : ∀ o, upd H p o g = some (.lst (gs.map V.int)) := fun o => by
        rw [upd_ne npg.symm]
        exact a2
      have w3 : ∀ o, upd H p o s = some (.lst (ss.map V.int)) := fun o => by
        rw [upd_ne nps.symm]
        exact a3
      -- cell = 0; if len(pool[1]) > 0
      refine ⟨_, rfl, p, _, _, _, rfl, rfl, SqL.of w1, at_of (j := 1) rfl rfl, s, _, rfl, .inl (SqL.of (w3 _)), _, _, rfl, rfl, _, rfl, ite2 (fun e => ?_) (fun e => ?_)⟩
      · have l0 : 0 < ss.length := by
          have := of_decide_eq_true e
          simpa using this
        have l1 : 0 ≤ (ct + 1) % (ss.length : Int) := Int.emod_nonneg _ (by omega)
        have l2 : (ct + 1) % (ss.length : Int) < ss.length := Int.emod_lt_of_pos _ (by omega)
        obtain ⟨j, ej⟩ : ∃ j : Nat, (ct + 1) % (ss.length : Int) = (j : Int) := ⟨_, (Int.toNat_of_nonneg l1).symm⟩
        have hj : j < ss.length := by omega
        have gj : (ss.map V.int)[j]? = some (.int ss[j]) := get_map (List.getElem?_eq_getElem hj)
        refine ⟨_, rfl, p, _, _, _, rfl, rfl, SqL.of w1, at_of (j := 1) rfl rfl, _, rfl, p, _, _, _, rfl, rfl, SqL.of w1, at_of (j := 3) rfl rfl, _, rfl, p, _, _, _, rfl, rfl, SqL.of w1, at_of (j := 1) rfl rfl, s, _, rfl, .inl (SqL.of (w3 _)), _, _, rfl, rfl, (by rw [List.length_map]; omega),
          s, _, _, _, rfl, rfl, SqL.of (w3 _), at_of (by rw [List.length_map]; exact ej) gj, ?_⟩
        generalize ss[j] = y
        refine ⟨_, rfl, _, _, rfl, rfl, (by show (0 : Int) < _; decide), _, rfl, p, _, _, _, rfl, rfl, SqL.of w1, at_of (j := 3) rfl rfl, _, rfl, p, _, _, _, rfl, rfl, SqL.of w1, at_of (j := 3) rfl rfl, _, _, rfl, rfl, .inl ⟨by omega, by omega⟩, _, _, rfl, rfl, _, _, rfl, rfl, .inl ⟨by omega, by omega⟩, ?_⟩
        refine ⟨_, rfl, p, _, _, _, rfl, rfl, SqL.of w1, at_of (j := 2) rfl rfl, _, _, rfl, rfl, .inl ⟨by omega, by omega⟩, _, rfl, _, _, rfl, rfl, _, rfl, p, _, _, _, rfl, rfl, SqL.of w1, at_of (j := 3) rfl rfl, _, _, rfl, rfl, .inl ⟨by omega, by omega⟩, _, _, rfl, rfl, _, _, rfl, rfl, (by show (0 : Int) < _; decide), _, rfl, p, _, 2, 2, rfl, rfl, w1, rfl, ?_⟩
        dsimp only [List.set]
        generalize hz : ((st * 48271 + y % 2147483629 * ((ct + 1) * (ct + 1) + 1) + 97 * (ct + 1)) % 2147483647 : Int) = z
        have hz0 : 0 ≤ z := by omega
        have hz1 : z < 2147483647 := by omega
        have w5 : upd (upd H p (.lst [.ref g, .ref s, .int st, .int (ct + 1)])) p (.lst [.ref g, .ref s, .int z, .int (ct + 1)]) p = some (.lst [.ref g, .ref s, .int z, .int (ct + 1)]) := upd_same
        refine ⟨_, rfl, p, _, _, _, rfl, rfl, SqL.of w5, at_of (j := 2) rfl rfl, _, _, rfl, rfl, ⟨by decide, by decide, by omega⟩, _, _, rfl, rfl, (by show (0 : Int) < _; decide), _, _, rfl, rfl, ⟨by decide, by decide⟩, _, rfl, _, _, rfl, rfl, hm0, ?_⟩
        refine q _ _ (Int.emod_nonneg _ (by omega)) (Int.emod_lt_of_pos _ hm0) ⟨gs, ss, z, ct + 1, w5, ?_, ?_, a4, a5, hz0, hz1, by omega, by omega, a10⟩ (fun b o hb n => ?_)
        · rw [upd_upd]
          exact w2 _
        · rw [upd_upd]
          exact w3 _
        · rw [upd_upd, upd_ne n.1]
          exact hb
      · refine ⟨_, rfl, _, _, rfl, rfl, (by show (0 : Int) < _; decide), _, rfl, p, _, _, _, rfl, rfl, SqL.of w1, at_of (j := 3) rfl rfl, _, rfl, p, _, _, _, rfl, rfl, SqL.of w1, at_of (j := 3) rfl rfl, _, _, rfl, rfl, .inl ⟨by omega, by omega⟩, _, _, rfl, rfl, _, _, rfl, rfl, .inl ⟨by omega, by omega⟩, ?_⟩
        refine ⟨_, rfl, p, _, _, _, rfl, rfl, SqL.of w1, at_of (j := 2) rfl rfl, _, _, rfl, rfl, .inl ⟨by omega, by omega⟩, _, rfl, _, _, rfl, rfl, _, rfl, p, _, _, _, rfl, rfl, SqL.of w1, at_of (j := 3) rfl rfl, _, _, rfl, rfl, .inl ⟨by omega, by omega⟩, _, _, rfl, rfl, _, _, rfl, rfl, (by show (0 : Int) < _; decide), _, rfl, p, _, 2, 2, rfl, rfl, w1, rfl, ?_⟩
        dsimp only [List.set]
        generalize hz : ((st * 48271 + 0 % 2147483629 * ((ct + 1) * (ct + 1) + 1) + 97 * (ct + 1)) % 2147483647 : Int) = z
        have hz0 : 0 ≤ z := by omega
        have hz1 : z < 2147483647 := by omega
        have w5 : upd (upd H p (.lst [.ref g, .ref s, .int st, .int (ct + 1)])) p (.lst [.ref g, .ref s, .int z, .int (ct + 1)]) p = some (.lst [.ref g, .ref s, .int z, .int (ct + 1)]) := upd_same
        refine ⟨_, rfl, p, _, _, _, rfl, rfl, SqL.of w5, at_of (j := 2) rfl rfl, _, _, rfl, rfl, ⟨by decide, by decide, by omega⟩, _, _, rfl, rfl, (by show (0 : Int) < _; decide), _, _, rfl, rfl, ⟨by decide, by decide⟩, _, rfl, _, _, rfl, rfl, hm0, ?_⟩
        refine q _ _ (Int.emod_nonneg _ (by omega)) (Int.emod_lt_of_pos _ hm0) ⟨gs, ss, z, ct + 1, w5, ?_, ?_, a4, a5, hz0, hz1, by omega, by omega, a10⟩ (fun b o hb n => ?_)
        · rw [upd_upd]
          exact w2 _
        · rw [upd_upd]
          exact w3 _
        · rw [upd_upd, upd_ne n.1]
          exact hb
end

def wordsL : List Str := ["yes", "no", "not", "and", "or", "step", "some", "all", "next", "once", "ever", "until", "unless"]
def lettersS : Str := "abcdefghijklmnopqrstuvwxyz"
structure Wd (K : PySem.W.Frag) (mg : Str → Option Value) where
  aW : Addr
  uL : Value
  gWORDS : mg "WORDS" = some (.ref aW)
  rWORDS : RelV (.ref aW) (.ref aW)
  sW : ∀ H, SqT K H aW (wordsL.map V.str)
  gLETTERS : mg "LETTERS" = some uL
  rLETTERS : RelV (.str lettersS) uL
/-- a text that is_name takes -/
structure GoodName (z : Str) : Prop where
  lo : 1 ≤ z.length
  hi : z.length ≤ 8
  nw : z ∉ wordsL
  al : ∀ c ∈ z.cps.toList, c ∈ lettersS.cps.toList
theorem flat_str (xs : List Str) : (xs.map V.str).all flatV = true := by
  rw [List.all_map, List.all_eq_true]
  exact fun _ _ => rfl
theorem flat_int (xs : List Int) : (xs.map V.int).all flatV = true := by
  rw [List.all_map, List.all_eq_true]
  exact fun _ _ => rfl
theorem inV_str (z : Str) (xs : List Str) : inV (.str z) (xs.map V.str) = decide (z ∈ xs) := by
  unfold inV
  rw [List.any_map]
  by_cases h : z ∈ xs
  · rw [decide_eq_true h, List.any_eq_true]
    exact ⟨z, h, by simp [Function.comp, eqV]⟩
  · rw [decide_eq_false h, List.any_eq_false]
    intro y hy q
    exact h (by simp [Function.comp, eqV] at q; rw [← q]; exact hy)
theorem inV_int (z : Int) (xs : List Int) : inV (.int z) (xs.map V.int) = decide (z ∈ xs) := by
  unfold inV
  rw [List.any_map]
  by_cases h : z ∈ xs
  · rw [decide_eq_true h, List.any_eq_true]
    exact ⟨z, h, by simp [Function.comp, eqV]⟩
  · rw [decide_eq_false h, List.any_eq_false]
    intro y hy q
    exact h (by simp [Function.comp, eqV] at q; rw [← q]; exact hy)

/-! ### fairtrees.signs, on what it takes -/
abbrev sis_whole : Stmt := topS 7
theorem scis_whole : FnScope ["thing"] ["thing"] (defScope sis_whole) := ⟨rfl, rfl, rfl, by decide +kernel, rfl, by decide +kernel, by decide +kernel⟩
abbrev sis_number : Stmt := topS 8
theorem scis_number : FnScope ["thing", "low", "high"] ["thing", "low", "high"] (defScope sis_number) := ⟨rfl, rfl, rfl, by decide +kernel, rfl, by decide +kernel, by decide +kernel⟩
abbrev sis_row : Stmt := topS 9
theorem scis_row : FnScope ["thing", "least", "most"] ["thing", "least", "most"] (defScope sis_row) := ⟨rfl, rfl, rfl, by decide +kernel, rfl, by decide +kernel, by decide +kernel⟩
abbrev sis_name : Stmt := topS 10
theorem scis_name : FnScope ["thing", "sign"] ["thing"] (defScope sis_name) := ⟨rfl, rfl, rfl, by decide +kernel, rfl, by decide +kernel, by decide +kernel⟩
abbrev sis_set : Stmt := topS 11
theorem scis_set : FnScope ["thing", "many", "last", "one"] ["thing", "many"] (defScope sis_set) := ⟨rfl, rfl, rfl, by decide +kernel, rfl, by decide +kernel, by decide +kernel⟩
abbrev sare_names : Stmt := topS 12
theorem scare_names : FnScope ["thing", "most", "last", "name"] ["thing", "most"] (defScope sare_names) := ⟨rfl, rfl, rfl, by decide +kernel, rfl, by decide +kernel, by decide +kernel⟩
section
variable {P : Program} {w : World} {K : PySem.W.Frag} {mg : Str → Option Value} {base : Heap}
def spWhole : Sp := fun vs H Q _ => ∃ i : Int, vs = [.int i] ∧ Q (.bl true) H
theorem ok_whole {f : Addr} {fd : FuncData} (F : Fun K "is_whole" "is_whole" sis_whole f fd) (T : Bi mg) : FnOk P w K mg base CX0 1 f fd ["thing"] spWhole := by
  refine F.ok scis_whole (fun vs H Q E h => ?_) (fun cdv A outer s H vs Q E hr h => ?_)
  · obtain ⟨i, rfl, _⟩ := h
    rfl
  · obtain ⟨i, rfl, q⟩ := h
    refine ⟨_, (pss_one (ps_ret (pe_and (pe_callB call_isi (by rfl) T.isinstance (by decide +kernel) (pa_cons (pv 0) (pa_cons (pe_bltn (v := .ty "int") (u := .type "int") (by rfl) T.int (by decide +kernel) rfl) pa_nil))) (pe_one (pe_not (pe_callB call_isi (by rfl) T.isinstance (by decide +kernel) (pa_cons (pv 0) (pa_cons (pe_bltn (v := .ty "bool") (u := .type "bool") (by rfl) T.bool (by decide +kernel) rfl) pa_nil)))))))), ?_⟩
    exact ⟨_, rfl, _, _, _, _, true, rfl, .ty "int", .base (.int _), kit_ty (by decide +kernel), true, rfl, iteT ⟨_, rfl, _, _, _, _, false, rfl, .ty "bool", .base (.int _), kit_ty (by decide +kernel), _, rfl, q⟩⟩
def spNumber : Sp := fun vs H Q _ => ∃ i lo hi : Int, vs = [.int i, .int lo, .int hi] ∧ Q (.bl (decide (lo ≤ i) && decide (i < hi))) H
theorem ok_number {f : Addr} {fd : FuncData} (F : Fun K "is_number" "is_number" sis_number f fd) (T : Bi mg) (cis_whole : Cal P w K mg base 1 "is_whole" ["thing"] spWhole) : FnOk P w K mg base CX0 2 f fd ["thing", "low", "high"] spNumber := by
  refine F.ok scis_number (fun vs H Q E h => ?_) (fun cdv A outer s H vs Q E hr h => ?_)
  · obtain ⟨i, lo, hi, rfl, _⟩ := h
    rfl
  · obtain ⟨i, lo, hi, rfl, q⟩ := h
    refine ⟨_, (pss_one (ps_ret (pe_and (pe_call cis_whole.G hr (by rfl) cis_whole.g cis_whole.kp cis_whole.b .nil pass0 (pa_cons (pv 0) pa_nil)) (pe_one (pe_chain op_le op_lt (pv 1) (pv 0) (pv 2)))))), ?_⟩
    refine ⟨_, rfl, i, rfl, true, rfl, iteT ⟨_, rfl, _, rfl, lo, i, rfl, rfl, _, rfl, ite2 (fun e => ?_) (fun e => ?_)⟩⟩
    · refine ⟨_, rfl, i, hi, rfl, rfl, ?_⟩
      rw [e, Bool.true_and] at q
      exact q
    · have e' : decide (lo ≤ i) = false := by simpa using e
      rw [e', Bool.false_and] at q
      exact q
def spRow (K : PySem.W.Frag) : Sp := fun vs H Q _ => ∃ (a : Addr) (xs : List V) (lo hi : Int), vs = [.ref a, .int lo, .int hi] ∧ SqT K H a xs ∧ Q (.bl (decide (lo ≤ xs.length) && decide ((xs.length : Int) ≤ hi))) H
theorem ok_row {f : Addr} {fd : FuncData} (F : Fun K "is_row" "is_row" sis_row f fd) (T : Bi mg) : FnOk P w K mg base CX0 1 f fd ["thing", "least", "most"] (spRow K) := by
  refine F.ok scis_row (fun vs H Q E h => ?_) (fun cdv A outer s H vs Q E hr h => ?_)
  · obtain ⟨a, xs, lo, hi, rfl, _⟩ := h
    rfl
  · obtain ⟨a, xs, lo, hi, rfl, hx, q⟩ := h
    refine ⟨_, (pss_one (ps_ret (pe_and (pe_callB call_isi (by rfl) T.isinstance (by decide +kernel) (pa_cons (pv 0) (pa_cons (pe_bltn (v := .ty "tuple") (u := .type "tuple") (by rfl) T.tuple (by decide +kernel) rfl) pa_nil))) (pe_one (pe_chain op_le op_le (pv 1) (pe_callB call_len_seq (by rfl) T.len PySem.boot_len (pa_cons (pv 0) pa_nil)) (pv 2)))))), ?_⟩
    refine ⟨_, rfl, _, _, _, _, true, rfl, .ty "tuple", ty_sqt hx, kit_ty (by decide +kernel), true, rfl, iteT ⟨_, rfl, _, rfl, a, xs, rfl, .inr hx, lo, _, rfl, rfl, _, rfl, ite2 (fun e => ?_) (fun e => ?_)⟩⟩
    · refine ⟨_, rfl, _, hi, rfl, rfl, ?_⟩
      rw [e, Bool.true_and] at q
      exact q
    · have e' : decide (lo ≤ (xs.length : Int)) = false := by simpa using e
      rw [e', Bool.false_and] at q
      exact q
def spName : Sp := fun vs H Q _ => ∃ z : Str, vs = [.str z] ∧ GoodName z ∧ Q (.bl true) H
theorem ok_name {f : Addr} {fd : FuncData} (F : Fun K "is_name" "is_name" sis_name f fd) (T : Bi mg) (W : Wd K mg) : FnOk P w K mg base CX0 1 f fd ["thing"] spName := by
  refine F.ok scis_name (fun vs H Q E h => ?_) (fun cdv A outer s H vs Q E hr h => ?_)
  · obtain ⟨z, rfl, _⟩ := h
    rfl
  · obtain ⟨z, rfl, g, q⟩ := h
    have l1 := g.lo
    have l2 := g.hi
    refine ⟨_, (pss_cons (ps_if (PW.pt (pw_or (pt_not (pt_val (pe_callB call_isi (by rfl) T.isinstance (by decide +kernel) (pa_cons (pv 0) (pa_cons (pe_bltn (v := .ty "str") (u := .type "str") (by rfl) T.str (by decide +kernel) rfl) pa_nil))))) (pw_or (pt_not (pt_chain op_le op_le pe_int (pe_callB call_len_str (by rfl) T.len PySem.boot_len (pa_cons (pv 0) pa_nil)) pe_int)) (pw_or1 (pt_cmpR op_in_seq (pv 0) (pe_glob rfl W.gWORDS W.rWORDS) (by rfl))))))
        (pss_one (ps_ret pe_bl))
        pss_nil)
      (pss_cons (ps_for PassesOwn.never rfl (pi_str (pv 0)) (pg_name (i := 1) scis_name.nd rfl (.inl rfl))
        (pss_one (ps_if (pt_cmpR op_notIn_sign (pv 1) (pe_glob rfl W.gLETTERS W.rLETTERS) (by rfl))
          (pss_one (ps_ret pe_bl))
          pss_nil)))
      (pss_one (ps_ret pe_bl)))), ?_⟩
    refine ⟨_, rfl, _, _, _, _, true, rfl, .ty "str", .base (.str _), kit_ty (by decide +kernel), _, rfl, iteF ?_⟩
    refine ⟨_, rfl, z, rfl, szOk (by omega), 1, _, rfl, rfl, _, rfl, ite2 (fun e => ?_) (fun e => ?_)⟩
    · refine ⟨_, _, rfl, rfl, _, rfl, ?_⟩
      rw [show decide ((z.length : Int) ≤ 8) = true from decide_eq_true (by omega)]
      refine iteF ⟨_, rfl, _, _, rfl, .inr (W.sW _), rfl, flat_str _, _, rfl, ?_⟩
      rw [inV_str, decide_eq_false g.nw]
      refine iteF ⟨_, rfl, z, rfl, for_it walk_str (fun i σ H' => ∃ y, σ = [some (.str z), y] ∧ H' = H) ⟨_, rfl, rfl⟩ (fun _ _ _ _ _ => trivial) ?_ ?_⟩
      · rintro i x σ H1 H2 hi ⟨y, rfl, rfl⟩ ⟨rfl, c, hc, rfl⟩
        refine ⟨_, rfl, c, lettersS, rfl, rfl, _, rfl, ?_⟩
        rw [decide_eq_true (g.al c (by rw [← Array.getElem?_toList] at hc; exact List.mem_of_getElem? hc))]
        exact iteF ⟨_, rfl, rfl⟩
      · rintro σ H1 ⟨y, rfl, rfl⟩
        exact q
    · exact absurd (decide_eq_true (by omega)) e
/-- a rising row of numbers below many -/
def RiseI (many : Int) (ns : List Int) : Prop := ns.Pairwise (· < ·) ∧ ∀ n ∈ ns, 0 ≤ n ∧ n < many
theorem rise_len {many : Int} {ns : List Int} (h : RiseI many ns) (hm : 0 ≤ many) : (ns.length : Int) ≤ many := by
  have key : ∀ (ns : List Int) (lo : Int), ns.Pairwise (· < ·) → (∀ n ∈ ns, lo ≤ n ∧ n < many) → lo ≤ many → (ns.length : Int) ≤ many - lo := by
    intro ns
    induction ns with
    | nil =>
      intro lo _ _ h
      show (0 : Int) ≤ _
      omega
    | cons x r ih =>
      intro lo hp hb hl
      obtain ⟨p1, p2⟩ := List.pairwise_cons.mp hp
      have b1 := hb x List.mem_cons_self
      have := ih (x + 1) p2 (fun n hn => ⟨by have := p1 n hn; omega, (hb n (List.mem_cons_of_mem _ hn)).2⟩) (by omega)
      rw [List.length_cons]
      omega
  have := key ns 0 h.1 h.2 hm
  omega
def spSet (K : PySem.W.Frag) : Sp := fun vs H Q _ => ∃ (a : Addr) (ns : List Int) (many : Int), vs = [.ref a, .int many] ∧ SqT K H a (ns.map V.int) ∧ RiseI many ns ∧ 0 ≤ many ∧ Q (.bl true) H
theorem ok_set {f : Addr} {fd : FuncData} (F : Fun K "is_set" "is_set" sis_set f fd) (cis_row : Cal P w K mg base 1 "is_row" ["thing", "least", "most"] (spRow K)) (cis_number : Cal P w K mg base 2 "is_number" ["thing", "low", "high"] spNumber) :
    FnOk P w K mg base CX0 3 f fd ["thing", "many"] (spSet K) := by
  refine F.ok scis_set (fun vs H Q E h => ?_) (fun cdv A outer s H vs Q E hr h => ?_)
  · obtain ⟨a, ns, many, rfl, _⟩ := h
    rfl
  · obtain ⟨a, ns, many, rfl, hx, hr1, hm, q⟩ := h
    have hl := rise_len hr1 hm
    refine ⟨_, (pss_cons (ps_if (pt_not (pt_val (pe_call cis_row.G (hr.mono (by decide)) (by rfl) cis_row.g cis_row.kp cis_row.b .nil pass0 (pa_cons (pv 0) (pa_cons pe_int (pa_cons (pv 1) pa_nil))))))
        (pss_one (ps_ret pe_bl))
        pss_nil)
      (pss_cons (ps_set (i := 2) scis_set.nd rfl (.inl rfl) (pe_un un_neg pe_int))
      (pss_cons (ps_for PassesOwn.never rfl (pi_tup (pv 0)) (pg_name (i := 3) scis_set.nd rfl (.inl rfl))
        (pss_cons (ps_if (pt_not (pt_val (pe_call cis_number.G hr (by rfl) cis_number.g cis_number.kp cis_number.b .nil pass0 (pa_cons (pv 3) (pa_cons (pe_op op_add (pv 2) pe_int) (pa_cons (pv 1) pa_nil))))))
          (pss_one (ps_ret pe_bl))
          pss_nil)
        (pss_one (ps_set (i := 2) scis_set.nd rfl (.inl rfl) (pv 3)))))
      (pss_one (ps_ret pe_bl))))), ?_⟩
    refine ⟨_, rfl, _, rfl, a, _, 0, many, rfl, hx, _, rfl, ?_⟩
    rw [List.length_map, show (decide ((0 : Int) ≤ ns.length) && decide ((ns.length : Int) ≤ many)) = true by rw [decide_eq_true (by omega), decide_eq_true hl] <;> rfl]
    refine iteF ⟨_, rfl, _, rfl, a, rfl, ⟨_, hx⟩, for_tup (K := K) (a := a) (xs := ns.map V.int) (fun i σ H' => ∃ y, σ = [some (.ref a), some (.int many), some (.int (if i = 0 then -1 else ns.getD (i - 1) 0)), y] ∧ H' = H) ⟨_, rfl, rfl⟩ (fun i σ H' _ ⟨_, _, e⟩ => by rw [e]; exact hx) ?_ ?_⟩
    · rintro i x σ H1 hi ⟨y, rfl, rfl⟩
      obtain ⟨n, hn, rfl⟩ := map_get hi
      have hil : i < ns.length := (List.getElem?_eq_some_iff.mp hn).1
      have hb := hr1.2 n (List.mem_of_getElem? hn)
      have hlast : (if i = 0 then -1 else ns.getD (i - 1) 0) + 1 ≤ n := by
        by_cases h0 : i = 0
        · rw [if_pos h0]
          omega
        · rw [if_neg h0]
          have h1 : i - 1 < ns.length := by omega
          have e2 : ns[i] = n := Option.some.inj ((List.getElem?_eq_getElem hil).symm.trans hn)
          have := (List.pairwise_iff_getElem.mp hr1.1) (i - 1) i h1 hil (by omega)
          rw [List.getD_eq_getElem?_getD, List.getElem?_eq_getElem h1]
          show ns[i - 1] + 1 ≤ n
          omega
      refine ⟨_, rfl, _, rfl, _, _, rfl, rfl, _, rfl, n, _, many, rfl, _, rfl, ?_⟩
      rw [decide_eq_true hlast, decide_eq_true hb.2]
      refine iteF ⟨_, rfl, some (V.int n), ?_, rfl⟩
      rw [if_neg (Nat.succ_ne_zero i), Nat.add_sub_cancel, show ns.getD i 0 = n by rw [List.getD_eq_getElem?_getD, hn] <;> rfl]
      rfl
    · rintro σ H1 ⟨y, rfl, rfl⟩
      exact q
/-- a rising row of names -/
def RiseS (zs : List Str) : Prop := zs.Pairwise (fun x y => x.cps.toList < y.cps.toList) ∧ ∀ z ∈ zs, GoodName z
def spNames (K : PySem.W.Frag) : Sp := fun vs H Q _ => ∃ (a : Addr) (zs : List Str) (most : Int), vs = [.ref a, .int most] ∧ SqT K H a (zs.map V.str) ∧ RiseS zs ∧ (zs.length : Int) ≤ most ∧ Q (.bl true) H
theorem ok_names {f : Addr} {fd : FuncData} (F : Fun K "are_names" "are_names" sare_names f fd) (cis_row : Cal P w K mg base 1 "is_row" ["thing", "least", "most"] (spRow K)) (cis_name : Cal P w K mg base 1 "is_name" ["thing"] spName) :
    FnOk P w K mg base CX0 2 f fd ["thing", "most"] (spNames K) := by
  refine F.ok scare_names (fun vs H Q E h => ?_) (fun cdv A outer s H vs Q E hr h => ?_)
  · obtain ⟨a, zs, most, rfl, _⟩ := h
    rfl
  · obtain ⟨a, zs, most, rfl, hx, hr1, hm, q⟩ := h
    refine ⟨_, (pss_cons (ps_if (pt_not (pt_val (pe_call cis_row.G hr (by rfl) cis_row.g cis_row.kp cis_row.b .nil pass0 (pa_cons (pv 0) (pa_cons pe_int (pa_cons (pv 1) pa_nil))))))
        (pss_one (ps_ret pe_bl))
        pss_nil)
      (pss_cons (ps_set (i := 2) scare_names.nd rfl (.inl rfl) pe_str)
      (pss_cons (ps_for PassesOwn.never rfl (pi_tup (pv 0)) (pg_name (i := 3) scare_names.nd rfl (.inl rfl))
        (pss_cons (ps_if (PW.pt (pw_or (pt_not (pt_val (pe_call cis_name.G hr (by rfl) cis_name.g cis_name.kp cis_name.b .nil pass0 (pa_cons (pv 3) pa_nil)))) (pw_or1 (pt_cmpR op_le_str (pv 3) (pv 2) (nomark _)))))
          (pss_one (ps_ret pe_bl))
          pss_nil)
        (pss_one (ps_set (i := 2) scare_names.nd rfl (.inl rfl) (pv 3)))))
      (pss_one (ps_ret pe_bl))))), ?_⟩
    refine ⟨_, rfl, _, rfl, a, _, 0, most, rfl, hx, _, rfl, ?_⟩
    rw [List.length_map, show (decide ((0 : Int) ≤ zs.length) && decide ((zs.length : Int) ≤ most)) = true by rw [decide_eq_true (by omega), decide_eq_true hm] <;> rfl]
    refine iteF ⟨_, rfl, a, rfl, ⟨_, hx⟩, for_tup (K := K) (a := a) (xs := zs.map V.str) (fun i σ H' => ∃ y, σ = [some (.ref a), some (.int most), some (.str (if i = 0 then Str.ofString "" else zs.getD (i - 1) Str.empty)), y] ∧ H' = H) ⟨_, rfl, rfl⟩ (fun i σ H' _ ⟨_, _, e⟩ => by rw [e]; exact hx) ?_ ?_⟩
    · rintro i x σ H1 hi ⟨y, rfl, rfl⟩
      obtain ⟨n, hn, rfl⟩ := map_get hi
      have hil : i < zs.length := (List.getElem?_eq_some_iff.mp hn).1
      have hb := hr1.2 n (List.mem_of_getElem? hn)
      have hlast : (if i = 0 then Str.ofString "" else zs.getD (i - 1) Str.empty).cps.toList < n.cps.toList := by
        by_cases h0 : i = 0
        · rw [if_pos h0]
          have e0 : (Str.ofString "").cps.toList = [] := by decide +kernel
          rw [e0]
          have l1 := hb.lo
          have l2 : n.cps.toList.length = n.length := by simp [Str.length]
          cases e : n.cps.toList with
          | nil =>
            rw [e] at l2
            simp at l2
            omega
          | cons c r => exact List.Lex.nil
        · rw [if_neg h0]
          have h1 : i - 1 < zs.length := by omega
          have e2 : zs[i] = n := Option.some.inj ((List.getElem?_eq_getElem hil).symm.trans hn)
          have := (List.pairwise_iff_getElem.mp hr1.1) (i - 1) i h1 hil (by omega)
          rw [List.getD_eq_getElem?_getD, List.getElem?_eq_getElem h1]
          show zs[i - 1].cps.toList < n.cps.toList
          rw [← e2]
          exact this
      refine ⟨_, rfl, n, rfl, hb, _, rfl, iteF ⟨_, rfl, _, rfl, n, _, rfl, rfl, _, rfl, ?_⟩⟩
      rw [decide_eq_true hlast]
      refine iteF ⟨_, rfl, some (V.str n), ?_, rfl⟩
      rw [if_neg (Nat.succ_ne_zero i), Nat.add_sub_cancel, show zs.getD i Str.empty = n by rw [List.getD_eq_getElem?_getD, hn] <;> rfl]
      rfl
    · rintro σ H1 ⟨y, rfl, rfl⟩
      exact q
end

/-! ### fairtrees.machines, on what it takes -/
structure MachAt (K : PySem.W.Frag) (H : Hp) (m : Addr) (steps : List (List Int)) (marks : List (List Str)) : Prop where
  ex : ∃ (s k : Addr) (sa ka : List Addr), SqT K H m [.ref s, .ref k] ∧ SqT K H s (sa.map V.ref) ∧ SqT K H k (ka.map V.ref) ∧
    Each (fun a ns => SqT K H a (ns.map V.int)) sa steps ∧ Each (fun a zs => SqT K H a (zs.map V.str)) ka marks
structure GoodMach (steps : List (List Int)) (marks : List (List Str)) : Prop where
  len : steps.length = marks.length
  lo : 1 ≤ steps.length
  hi : steps.length ≤ 40
  st : ∀ r ∈ steps, RiseI steps.length r
  mr : ∀ r ∈ marks, RiseS r ∧ r.length ≤ 8
theorem MachAt.imm {K : PySem.W.Frag} {H H' : Hp} {m : Addr} {steps : List (List Int)} {marks : List (List Str)} (M : MachAt K H m steps marks) (e : Imm H H') : MachAt K H' m steps marks := by
  obtain ⟨s, k, sa, ka, h1, h2, h3, h4, h5⟩ := M.ex
  exact ⟨s, k, sa, ka, e.sq h1, e.sq h2, e.sq h3, h4.imp fun _ _ h => e.sq h, h5.imp fun _ _ h => e.sq h⟩
structure WishAt (K : PySem.W.Frag) (H : Hp) (t : Addr) (ws : List (Str × Str)) : Prop where
  ex : ∃ wa : List Addr, SqT K H t (wa.map V.ref) ∧ Each (fun a (x : Str × Str) => SqT K H a [.str x.1, .str x.2]) wa ws
theorem WishAt.imm {K : PySem.W.Frag} {H H' : Hp} {t : Addr} {ws : List (Str × Str)} (M : WishAt K H t ws) (e : Imm H H') : WishAt K H' t ws := by
  obtain ⟨wa, h1, h2⟩ := M.ex
  exact ⟨wa, e.sq h1, h2.imp fun _ _ h => e.sq h⟩
theorem ref_get {as : List Addr} {i : Nat} {v : V} (h : (as.map V.ref)[i]? = some v) : ∃ a, as[i]? = some a ∧ v = .ref a := map_get h
theorem dec_str (x y : Str) : decide (V.str x = V.str y) = decide (x = y) := by
  by_cases h : x = y
  · rw [decide_eq_true h, decide_eq_true (by rw [h])]
  · rw [decide_eq_false h, decide_eq_false fun q => h (V.str.inj q)]
theorem dec_int (x y : Int) : decide (V.int x = V.int y) = decide (x = y) := by
  by_cases h : x = y
  · rw [decide_eq_true h, decide_eq_true (by rw [h])]
  · rw [decide_eq_false h, decide_eq_false fun q => h (V.int.inj q)]
abbrev sis_machine : Stmt := topS 14
theorem scis_machine : FnScope ["thing", "steps", "marks", "many", "ahead", "names"] ["thing"] (defScope sis_machine) := ⟨rfl, rfl, rfl, by decide +kernel, rfl, by decide +kernel, by decide +kernel⟩
abbrev scheck : Stmt := topS 15
theorem sccheck : FnScope ["thing"] ["thing"] (defScope scheck) := ⟨rfl, rfl, rfl, by decide +kernel, rfl, by decide +kernel, by decide +kernel⟩
abbrev scheck_wishes : Stmt := topS 16
theorem sccheck_wishes : FnScope ["thing", "wish"] ["thing"] (defScope scheck_wishes) := ⟨rfl, rfl, rfl, by decide +kernel, rfl, by decide +kernel, by decide +kernel⟩
abbrev sbears : Stmt := topS 17
theorem scbears : FnScope ["machine", "standing", "name"] ["machine", "standing", "name"] (defScope sbears) := ⟨rfl, rfl, rfl, by decide +kernel, rfl, by decide +kernel, by decide +kernel⟩
abbrev sbearers : Stmt := topS 18
theorem scbearers : FnScope ["machine", "name", "one"] ["machine", "name"] (defScope sbearers) := ⟨rfl, rfl, rfl, by decide +kernel, rfl, by decide +kernel, by decide +kernel⟩
section
variable {P : Program} {w : World} {K : PySem.W.Frag} {mg : Str → Option Value} {base : Heap}
def spMachine (K : PySem.W.Frag) : Sp := fun vs H Q _ => ∃ (m : Addr) (steps : List (List Int)) (marks : List (List Str)), vs = [.ref m] ∧ MachAt K H m steps marks ∧ GoodMach steps marks ∧ Q (.bl true) H
theorem ok_machine {f : Addr} {fd : FuncData} (F : Fun K "is_machine" "is_machine" sis_machine f fd) (T : Bi mg) (cis_row : Cal P w K mg base 1 "is_row" ["thing", "least", "most"] (spRow K)) (cis_set : Cal P w K mg base 3 "is_set" ["thing", "many"] (spSet K))
    (care_names : Cal P w K mg base 2 "are_names" ["thing", "most"] (spNames K)) : FnOk P w K mg base CX0 4 f fd ["thing"] (spMachine K) := by
  refine F.ok scis_machine (fun vs H Q E h => ?_) (fun cdv A outer s H vs Q E hr h => ?_)
  · obtain ⟨m, steps, marks, rfl, _⟩ := h
    rfl
  · obtain ⟨m, steps, marks, rfl, M, G, q⟩ := h
    obtain ⟨s, k, sa, ka, h1, h2, h3, h4, h5⟩ := M.ex
    have l1 := h4.len
    have l2 := h5.len
    have g1 := G.len
    have g2 := G.lo
    have g3 := G.hi
    refine ⟨_, (pss_cons (ps_if (PW.pt (pw_or (pt_not (pt_val (pe_call cis_row.G (hr.mono (by decide)) (by rfl) cis_row.g cis_row.kp cis_row.b .nil pass0 (pa_cons (pv 0) (pa_cons pe_int (pa_cons pe_int pa_nil)))))) (pw_or1 (pt_not (pt_val (pe_call cis_row.G (hr.mono (by decide)) (by rfl) cis_row.g cis_row.kp cis_row.b .nil pass0 (pa_cons (pe_ix ix_tup (pv 0) pe_int (fun _ _ => rfl)) (pa_cons pe_int (pa_cons pe_int pa_nil)))))))))
        (pss_one (ps_ret pe_bl))
        pss_nil)
      (pss_cons (ps_asg (pv 0) (pg_tup rfl (pgs_cons (pg_name (i := 1) scis_machine.nd rfl (.inl rfl)) (pgs_cons (pg_name (i := 2) scis_machine.nd rfl (.inl rfl)) pgs_nil))))
      (pss_cons (ps_set (i := 3) scis_machine.nd rfl (.inl rfl) (pe_callB call_len_seq (by rfl) T.len PySem.boot_len (pa_cons (pv 1) pa_nil)))
      (pss_cons (ps_if (pt_not (pt_val (pe_call cis_row.G (hr.mono (by decide)) (by rfl) cis_row.g cis_row.kp cis_row.b .nil pass0 (pa_cons (pv 2) (pa_cons (pv 3) (pa_cons (pv 3) pa_nil))))))
        (pss_one (ps_ret pe_bl))
        pss_nil)
      (pss_cons (ps_for PassesOwn.never rfl (pi_tup (pv 1)) (pg_name (i := 4) scis_machine.nd rfl (.inl rfl))
        (pss_one (ps_if (pt_not (pt_val (pe_call cis_set.G hr (by rfl) cis_set.g cis_set.kp cis_set.b .nil pass0 (pa_cons (pv 4) (pa_cons (pv 3) pa_nil)))))
          (pss_one (ps_ret pe_bl))
          pss_nil)))
      (pss_cons (ps_for PassesOwn.never rfl (pi_tup (pv 2)) (pg_name (i := 5) scis_machine.nd rfl (.inl rfl))
        (pss_one (ps_if (pt_not (pt_val (pe_call care_names.G (hr.mono (by decide)) (by rfl) care_names.g care_names.kp care_names.b .nil pass0 (pa_cons (pv 5) (pa_cons pe_int pa_nil)))))
          (pss_one (ps_ret pe_bl))
          pss_nil)))
      (pss_one (ps_ret pe_bl)))))))), ?_⟩
    refine ⟨_, rfl, m, _, 2, 2, rfl, h1, true, rfl, iteF ⟨_, rfl, m, _, 0, .ref s, rfl, rfl, h1, at_of (j := 0) rfl rfl, s, _, 1, 40, rfl, h2, _, rfl, ?_⟩⟩
    rw [List.length_map, show (decide ((1 : Int) ≤ sa.length) && decide ((sa.length : Int) ≤ 40)) = true by rw [decide_eq_true (by omega), decide_eq_true (by omega)] <;> rfl]
    refine iteF ⟨_, rfl, m, _, rfl, h1, rfl, _, _, rfl, _, _, rfl, rfl, ?_⟩
    refine ⟨_, rfl, s, _, rfl, .inr h2, ?_⟩
    refine ⟨_, rfl, _, rfl, _, rfl, k, _, _, _, rfl, h3, _, rfl, ?_⟩
    rw [List.length_map, List.length_map, show (decide ((sa.length : Int) ≤ ka.length) && decide ((ka.length : Int) ≤ sa.length)) = true by rw [decide_eq_true (by omega), decide_eq_true (by omega)] <;> rfl]
    refine iteF ⟨_, rfl, s, rfl, ⟨_, h2⟩, for_tup (K := K) (a := s) (xs := sa.map V.ref) (fun i σ H' => ∃ y z, σ = [some (.ref m), some (.ref s), some (.ref k), some (.int sa.length), y, z] ∧ H' = H) ⟨none, none, rfl, rfl⟩ (fun i σ H' _ ⟨_, _, _, e⟩ => by rw [e]; exact h2) ?_ ?_⟩
    · rintro i x σ H1 hi ⟨y, z, rfl, rfl⟩
      obtain ⟨a, ha, rfl⟩ := ref_get hi
      obtain ⟨r, hr1, hr2⟩ := h4.get ha
      have hg := G.st r (List.mem_of_getElem? hr1)
      rw [← l1] at hg
      refine ⟨_, rfl, _, rfl, a, r, _, rfl, hr2, hg, by omega, _, rfl, iteF ⟨_, _, rfl, rfl⟩⟩
    · rintro σ H1 ⟨y, z, rfl, rfl⟩
      refine ⟨_, rfl, k, rfl, ⟨_, h3⟩, for_tup (K := K) (a := k) (xs := ka.map V.ref) (fun i σ H' => ∃ z, σ = [some (.ref m), some (.ref s), some (.ref k), some (.int sa.length), y, z] ∧ H' = H1) ⟨_, rfl, rfl⟩ (fun i σ H' _ ⟨_, _, e⟩ => by rw [e]; exact h3) ?_ ?_⟩
      · rintro i x σ H2 hi ⟨z, rfl, rfl⟩
        obtain ⟨a, ha, rfl⟩ := ref_get hi
        obtain ⟨r, hr1, hr2⟩ := h5.get ha
        have hg := G.mr r (List.mem_of_getElem? hr1)
        refine ⟨_, rfl, a, r, 8, rfl, hr2, hg.1, (by have := hg.2; omega), _, rfl, iteF ⟨_, rfl, rfl⟩⟩
      · rintro σ H2 ⟨z, rfl, rfl⟩
        exact q
theorem ok_check {f : Addr} {fd : FuncData} (F : Fun K "check" "check" scheck f fd) (cis_machine : Cal P w K mg base 4 "is_machine" ["thing"] (spMachine K)) : FnOk P w K mg base CX0 5 f fd ["thing"] (spMachine K) := by
  refine F.ok sccheck (fun vs H Q E h => ?_) (fun cdv A outer s H vs Q E hr h => ?_)
  · obtain ⟨m, steps, marks, rfl, _⟩ := h
    rfl
  · obtain ⟨m, steps, marks, rfl, M, G, q⟩ := h
    refine ⟨_, (pss_cons (ps_if (pt_not (pt_val (pe_call cis_machine.G hr (by rfl) cis_machine.g cis_machine.kp cis_machine.b .nil pass0 (pa_cons (pv 0) pa_nil))))
        (pss_one ps_never)
        pss_nil)
      (pss_one (ps_ret pe_bl))), ?_⟩
    exact ⟨_, rfl, m, steps, marks, rfl, M, G, _, rfl, iteF q⟩
def spWishes (K : PySem.W.Frag) : Sp := fun vs H Q _ => ∃ (t : Addr) (ws : List (Str × Str)), vs = [.ref t] ∧ WishAt K H t ws ∧ ws.length ≤ 4 ∧ (∀ x ∈ ws, (x.1 = Str.ofString "" ∨ GoodName x.1) ∧ GoodName x.2) ∧ Q (.bl true) H
theorem ok_check_wishes {f : Addr} {fd : FuncData} (F : Fun K "check_wishes" "check_wishes" scheck_wishes f fd) (T : Bi mg) (cis_row : Cal P w K mg base 1 "is_row" ["thing", "least", "most"] (spRow K)) (cis_name : Cal P w K mg base 1 "is_name" ["thing"] spName) :
    FnOk P w K mg base CX0 2 f fd ["thing"] (spWishes K) := by
  refine F.ok sccheck_wishes (fun vs H Q E h => ?_) (fun cdv A outer s H vs Q E hr h => ?_)
  · obtain ⟨t, ws, rfl, _⟩ := h
    rfl
  · obtain ⟨t, ws, rfl, M, hl, hg, q⟩ := h
    obtain ⟨wa, h1, h2⟩ := M.ex
    have l1 := h2.len
    refine ⟨_, (pss_cons (ps_if (pt_not (pt_val (pe_call cis_row.G hr (by rfl) cis_row.g cis_row.kp cis_row.b .nil pass0 (pa_cons (pv 0) (pa_cons pe_int (pa_cons pe_int pa_nil))))))
        (pss_one ps_never)
        pss_nil)
      (pss_cons (ps_for PassesOwn.never rfl (pi_tup (pv 0)) (pg_name (i := 1) sccheck_wishes.nd rfl (.inl rfl))
        (pss_cons (ps_if (PW.pt (pw_or (pt_not (pt_val (pe_call cis_row.G hr (by rfl) cis_row.g cis_row.kp cis_row.b .nil pass0 (pa_cons (pv 1) (pa_cons pe_int (pa_cons pe_int pa_nil)))))) (pw_or1 (pt_not (pt_val (pe_call cis_name.G hr (by rfl) cis_name.g cis_name.kp cis_name.b .nil pass0 (pa_cons (pe_ix ix_tup (pv 1) pe_int (fun _ _ => rfl)) pa_nil)))))))
          (pss_one ps_never)
          pss_nil)
        (pss_one (ps_if (PW.pt (pw_or (pt_not (pt_val (pe_callB call_isi (by rfl) T.isinstance (by decide +kernel) (pa_cons (pe_ix ix_tup (pv 1) pe_int (fun _ _ => rfl)) (pa_cons (pe_bltn (v := .ty "str") (u := .type "str") (by rfl) T.str (by decide +kernel) rfl) pa_nil))))) (pw_or1 (PW.pt (pw_and (pt_cmpR op_ne (pe_ix ix_tup (pv 1) pe_int (fun _ _ => rfl)) pe_str (nomark _)) (pw_and1 (pt_not (pt_val (pe_call cis_name.G hr (by rfl) cis_name.g cis_name.kp cis_name.b .nil pass0 (pa_cons (pe_ix ix_tup (pv 1) pe_int (fun _ _ => rfl)) pa_nil))))))))))
          (pss_one ps_never)
          pss_nil))))
      (pss_one (ps_ret pe_bl)))), ?_⟩
    refine ⟨_, rfl, t, _, 0, 4, rfl, h1, _, rfl, ?_⟩
    rw [List.length_map, show (decide ((0 : Int) ≤ wa.length) && decide ((wa.length : Int) ≤ 4)) = true by rw [decide_eq_true (by omega), decide_eq_true (by omega)] <;> rfl]
    refine iteF ⟨_, rfl, t, rfl, ⟨_, h1⟩, for_tup (K := K) (a := t) (xs := wa.map V.ref) (fun i σ H' => ∃ y, σ = [some (.ref t), y] ∧ H' = H) ⟨_, rfl, rfl⟩ (fun i σ H' _ ⟨_, _, e⟩ => by rw [e]; exact h1) ?_ ?_⟩
    · rintro i x σ H1 hi ⟨y, rfl, rfl⟩
      obtain ⟨a, ha, rfl⟩ := ref_get hi
      obtain ⟨r, hr1, hr2⟩ := h2.get ha
      obtain ⟨n1, n2⟩ := hg r (List.mem_of_getElem? hr1)
      refine ⟨_, rfl, a, _, 2, 2, rfl, hr2, true, rfl, iteF ⟨_, rfl, a, _, 1, .str r.2, rfl, rfl, hr2, at_of (j := 1) rfl rfl, r.2, rfl, n2, true, rfl, iteF ?_⟩⟩
      refine ⟨_, rfl, a, _, 0, .str r.1, rfl, rfl, hr2, at_of (j := 0) rfl rfl, _, _, _, _, true, rfl, .ty "str", .base (.str _), kit_ty (by decide +kernel), _, rfl, iteF ?_⟩
      refine ⟨_, rfl, a, _, 0, .str r.1, rfl, rfl, hr2, at_of (j := 0) rfl rfl, rfl, _, rfl, ?_⟩
      rw [dec_str]
      rcases n1 with n1 | n1
      · rw [decide_eq_true n1]
        exact iteF (iteF ⟨_, rfl, rfl⟩)
      · have nz : r.1 ≠ Str.ofString "" := fun z => by
          have := n1.lo
          rw [z] at this
          exact absurd this (by decide +kernel)
        rw [decide_eq_false nz]
        exact iteT ⟨_, rfl, a, _, 0, .str r.1, rfl, rfl, hr2, at_of (j := 0) rfl rfl, r.1, rfl, n1, true, rfl, iteF ⟨_, rfl, rfl⟩⟩
    · rintro σ H1 ⟨y, rfl, rfl⟩
      exact q
def spBears (K : PySem.W.Frag) : Sp := fun vs H Q _ => ∃ (m : Addr) (steps : List (List Int)) (marks : List (List Str)) (j : Nat) (row : List Str) (z : Str), vs = [.ref m, .int j, .str z] ∧ MachAt K H m steps marks ∧ marks[j]? = some row ∧
  Q (.bl (decide (z = Str.ofString "") || decide (z ∈ row))) H
theorem ok_bears {f : Addr} {fd : FuncData} (F : Fun K "bears" "bears" sbears f fd) : FnOk P w K mg base CX0 1 f fd ["machine", "standing", "name"] (spBears K) := by
  refine F.ok scbears (fun vs H Q E h => ?_) (fun cdv A outer s H vs Q E hr h => ?_)
  · obtain ⟨m, steps, marks, j, row, z, rfl, _⟩ := h
    rfl
  · obtain ⟨m, steps, marks, j, row, z, rfl, M, hj, q⟩ := h
    obtain ⟨s, k, sa, ka, h1, h2, h3, h4, h5⟩ := M.ex
    obtain ⟨a, ha, hra⟩ := h5.getx hj
    refine ⟨_, (pss_one (ps_ret (pe_or (pe_cmpR op_eq (pv 2) pe_str (nomark _)) (pe_one (pe_cmpR op_in_seq (pv 2) (pe_ix ix_tup (pe_ix ix_tup (pv 0) pe_int (fun _ _ => rfl)) (pv 1) (fun _ _ => rfl)) (by rfl)))))), ?_⟩
    refine ⟨_, rfl, rfl, _, rfl, ite2 (fun e => ?_) (fun e => ?_)⟩
    · rw [dec_str] at e
      rw [e, Bool.true_or] at q
      exact q
    · rw [dec_str] at e
      have e' : decide (z = Str.ofString "") = false := by simpa using e
      rw [e', Bool.false_or] at q
      refine ⟨_, rfl, _, rfl, m, _, 1, .ref k, rfl, rfl, h1, at_of (j := 1) rfl rfl, _, rfl, k, _, _, .ref a, rfl, rfl, h3, at_of (j := j) rfl (get_map ha), a, _, rfl, .inr hra, rfl, flat_str _, ?_⟩
      rw [← inV_str] at q
      exact q
/-- the standings that bear a name -/
def bearersOf (marks : List (List Str)) (z : Str) (n : Nat) : List Int := ((List.range n).filter fun j => decide (z = Str.ofString "") || decide (z ∈ marks.getD j [])).map Int.ofNat
theorem bearersOf_yes {marks : List (List Str)} {z : Str} {n : Nat} (h : (decide (z = Str.ofString "") || decide (z ∈ marks.getD n [])) = true) : bearersOf marks z (n + 1) = bearersOf marks z n ++ [(n : Int)] := by
  unfold bearersOf
  rw [List.range_succ, List.filter_append, List.map_append, List.filter_cons, if_pos h] <;> rfl
theorem bearersOf_no {marks : List (List Str)} {z : Str} {n : Nat} (h : (decide (z = Str.ofString "") || decide (z ∈ marks.getD n [])) = false) : bearersOf marks z (n + 1) = bearersOf marks z n := by
  unfold bearersOf
  rw [List.range_succ, List.filter_append, List.map_append, List.filter_cons, if_neg (by rw [h]; decide)]
  show _ ++ [] = _
  rw [List.append_nil]
def spBearers (K : PySem.W.Frag) : Sp := fun vs H Q _ => ∃ (m : Addr) (steps : List (List Int)) (marks : List (List Str)) (z : Str), vs = [.ref m, .str z] ∧ MachAt K H m steps marks ∧ steps.length = marks.length ∧ marks.length ≤ 1000 ∧
  ∀ H' r, Same H H' → H' r = some (.tup ((bearersOf marks z marks.length).map V.int)) → Q (.ref r) H'
theorem ok_bearers {f : Addr} {fd : FuncData} (F : Fun K "bearers" "bearers" sbearers f fd) (T : Bi mg) (cbears : Cal P w K mg base 1 "bears" ["machine", "standing", "name"] (spBears K)) : FnOk P w K mg base CX0 2 f fd ["machine", "name"] (spBearers K) := by
  refine F.ok scbearers (fun vs H Q E h => ?_) (fun cdv A outer s H vs Q E hr h => ?_)
  · obtain ⟨m, steps, marks, z, rfl, _⟩ := h
    rfl
  · obtain ⟨m, steps, marks, z, rfl, M, hl, hz, q⟩ := h
    obtain ⟨s, k, sa, ka, h1, h2, h3, h4, h5⟩ := M.ex
    have l1 := h4.len
    refine ⟨_, (pss_one (ps_ret (pe_callTy call_tuple_of (by rfl) T.tuple (by decide +kernel) (pa_cons (pe_lc (own := [("one", 2)]) (g := gName 2) rfl scbearers.nd (pi_range1 (by rfl) T.range (pa_cons (pe_callB call_len_seq (by rfl) T.len PySem.boot_len (pa_cons (pe_ix ix_tup (pv 0) pe_int (fun _ _ => rfl)) pa_nil)) pa_nil)) (blkOk_by (own := [("one", 2)]) (N := ["machine", "name", "one"]) (sc := defScope sbearers) (by decide +kernel)) (fun _ _ _ _ _ => (pg_name (i := 2) scbearers.nd rfl (.inl rfl))) (fun _ _ _ _ _ => (pts_one (pt_val (pe_call cbears.G hr (by rfl) cbears.g cbears.kp cbears.b .nil pass0 (pa_cons (pv 0) (pa_cons (pv 2) (pa_cons (pv 1) pa_nil))))))) (fun _ _ _ _ _ => (pv 2))) pa_nil)))), ?_⟩
    refine ⟨_, rfl, m, _, 0, .ref s, rfl, rfl, h1, at_of (j := 0) rfl rfl, s, _, rfl, .inr h2, _, rfl, by omega, by rw [List.length_map]; omega, fun D hD => ?_⟩
    rw [List.length_map, l1, hl, show ((marks.length : Int)).toNat = marks.length from Int.toNat_natCast _]
    refine lc_rangeS (fun i acc => acc = (bearersOf marks z i).map V.int) hD (by omega) rfl (fun _ => rfl) ?_ ?_
    · intro i H1 acc hi s1 hacc _ N1 N2 k1 k2
      subst hacc
      have hrow : marks[i]? = some (marks.getD i []) := by rw [List.getD_eq_getElem?_getD, List.getElem?_eq_getElem hi] <;> rfl
      refine ⟨_, rfl, _, rfl, _, rfl, m, steps, marks, i, _, z, by rw [Int.zero_add] <;> rfl, M.imm (simm s1), hrow, _, rfl, ite2 (fun e => ?_) (fun e => ?_)⟩
      · refine ⟨_, rfl, k1 _ _ (Same.refl _) ?_⟩
        rw [bearersOf_yes e, List.map_append, Int.zero_add]
        rfl
      · refine k2 _ (Same.refl _) ?_
        rw [bearersOf_no (by simpa using e)]
    · intro H1 acc s1 hD1 _ hacc
      subst hacc
      exact ⟨D, _, rfl, .inl ⟨SqL.of hD1, fun l hl => q _ l (s1.trans (same_upd hl)) upd_same⟩⟩
end

/-! ### _law_name, _law_names -/
theorem letters_eq : lettersS.cps.toList = List.range' 97 26 := by decide +kernel
theorem letters_at {j : Nat} (hj : j < 26) : lettersS.cps.toList[j]? = some (97 + j) := by
  rw [letters_eq, List.getElem?_range' hj]
  simp
theorem letters_len : lettersS.length ≤ 100000 := by
  show lettersS.cps.size ≤ 100000
  rw [← Array.length_toList, letters_eq]
  simp
theorem letters_mem {j : Nat} (hj : j < 26) : 97 + j ∈ lettersS.cps.toList := List.mem_of_getElem? (letters_at hj)
def Alpha (z : Str) : Prop := ∀ c ∈ z.cps.toList, c ∈ lettersS.cps.toList
theorem app_list (x y : Str) : (x ++ y).cps.toList = x.cps.toList ++ y.cps.toList := by
  show (x.cps ++ y.cps).toList = _
  rw [Array.toList_append]
theorem app_len (x y : Str) : (x ++ y).length = x.length + y.length := by
  show (x ++ y).cps.size = x.cps.size + y.cps.size
  rw [← Array.length_toList, ← Array.length_toList, ← Array.length_toList, app_list, List.length_append]
theorem alpha_app {x : Str} {j : Nat} (h : Alpha x) (hj : j < 26) : Alpha (x ++ ⟨#[97 + j]⟩) := fun c hc => by
  rw [app_list] at hc
  rcases List.mem_append.mp hc with hc | hc
  · exact h c hc
  · have e : c = 97 + j := by simpa using hc
    rw [e]
    exact letters_mem hj
theorem pigeon {α : Type} [BEq α] [LawfulBEq α] : ∀ (l m : List α), l.Nodup → (∀ x ∈ l, x ∈ m) → l.length ≤ m.length
  | [], _, _, _ => Nat.zero_le _
  | x :: r, m, nd, h => by
    obtain ⟨n1, n2⟩ := List.nodup_cons.mp nd
    have hx := h x List.mem_cons_self
    have := pigeon r (m.erase x) n2 fun y hy => (List.mem_erase_of_ne (fun q => n1 (by rw [← q]; exact hy))).mpr (h y (List.mem_cons_of_mem _ hy))
    rw [List.length_erase_of_mem hx] at this
    have : 0 < m.length := List.length_pos_of_mem hx
    rw [List.length_cons]
    omega
/-- what the loop tries at its k-th turn -/
def cand (nm : Str) (last k : Nat) : Str := nm ++ ⟨#[97 + (last + k) % 26]⟩
theorem cand_inj {nm : Str} {last j k : Nat} (hj : j < 26) (hk : k < 26) (h : cand nm last j = cand nm last k) : j = k := by
  have e : (cand nm last j).cps.toList = (cand nm last k).cps.toList := by rw [h]
  unfold cand at e
  rw [app_list, app_list] at e
  have e2 := List.append_cancel_left e
  simp at e2
  omega
theorem cand_some {nm : Str} {last : Nat} {words taken : List Str} (hw : words.length + taken.length < 26) (h : ∀ j, j < 26 → cand nm last j ∈ words ∨ cand nm last j ∈ taken) : False := by
  have nd : ((List.range 26).map (cand nm last)).Nodup := by
    refine List.pairwise_map.mpr ((List.pairwise_lt_range (n := 26)).imp_of_mem fun ha hb hab e => ?_)
    have := cand_inj (List.mem_range.mp ha) (List.mem_range.mp hb) e
    omega
  have := pigeon _ (words ++ taken) nd fun x hx => by
    obtain ⟨j, hj, rfl⟩ := List.mem_map.mp hx
    exact List.mem_append.mpr (h j (List.mem_range.mp hj))
  rw [List.length_map, List.length_range, List.length_append] at this
  omega
abbrev s_law_name : Stmt := topS 25
theorem sc_law_name : FnScope ["_law_pool_here", "_law_start", "_law_taken", "_law_letters", "_law_name_here", "_law_k", "_law_last", "_law_words", "_law_found"] ["_law_pool_here", "_law_start", "_law_taken"] (defScope s_law_name) := ⟨rfl, rfl, rfl, by decide +kernel, rfl, by decide +kernel, by decide +kernel⟩
abbrev s_law_names : Stmt := topS 26
theorem sc_law_names : FnScope ["_law_pool_here", "_law_many", "_law_letters", "_law_start", "_law_k", "_law_names_here"] ["_law_pool_here", "_law_many"] (defScope s_law_names) := ⟨rfl, rfl, rfl, by decide +kernel, rfl, by decide +kernel, by decide +kernel⟩
section
variable {P : Program} {w : World} {K : PySem.W.Frag} {mg : Str → Option Value} {base : Heap}
def spLName : Sp := fun vs H Q _ => ∃ (a : PA) (c : Nat) (start : Str) (t : Addr) (taken : List Str), vs = [.ref a.p, .str start, .ref t] ∧ Pool H a c ∧ c < 900000 ∧ H t = some (.lst (taken.map V.str)) ∧ Off a t ∧ Alpha start ∧ start.length ≤ 4 ∧ taken.length ≤ 12 ∧
  ∀ H' z, GoodName z → z ∉ taken → Pool H' a (c + 5) → Kp a H H' → Q (.str z) H'
theorem ok_lname {f : Addr} {fd : FuncData} (F : Fun K "_law_name" "_law_name" s_law_name f fd) (T : Bi mg) (c_law_draw : Cal P w K mg base 1 "_law_draw" ["_law_pool_here", "_law_many"] spDraw) : FnOk P w K mg base CX0 2 f fd ["_law_pool_here", "_law_start", "_law_taken"] spLName := by
  refine F.ok sc_law_name (fun vs H Q E h => ?_) (fun cdv A outer s H vs Q E hr h => ?_)
  · obtain ⟨a, c, start, t, taken, rfl, _⟩ := h
    rfl
  · obtain ⟨a, c, start, t, taken, rfl, PP, hc, ht, ot, al, sl, tl, q⟩ := h
    refine ⟨_, (pss_cons (ps_set (i := 3) sc_law_name.nd rfl (.inl rfl) pe_str)
      (pss_cons (ps_set (i := 4) sc_law_name.nd rfl (.inl rfl) (pv 1))
      (pss_cons (ps_for PassesOwn.never rfl (pi_range1 (by rfl) T.range (pa_cons (pe_call c_law_draw.G hr (by rfl) c_law_draw.g c_law_draw.kp c_law_draw.b .nil pass0 (pa_cons (pv 0) (pa_cons pe_int pa_nil))) pa_nil)) (pg_name (i := 5) sc_law_name.nd rfl (.inl rfl))
        (pss_one (ps_set (i := 4) sc_law_name.nd rfl (.inl rfl) (pe_op op_add_str (pv 4) (pe_ix ix_str (pv 3) (pe_call c_law_draw.G hr (by rfl) c_law_draw.g c_law_draw.kp c_law_draw.b .nil pass0 (pa_cons (pv 0) (pa_cons pe_int pa_nil))) (fun _ _ => rfl))))))
      (pss_cons (ps_set (i := 6) sc_law_name.nd rfl (.inl rfl) (pe_call c_law_draw.G hr (by rfl) c_law_draw.g c_law_draw.kp c_law_draw.b .nil pass0 (pa_cons (pv 0) (pa_cons pe_int pa_nil))))
      (pss_cons (ps_set (i := 7) sc_law_name.nd rfl (.inl rfl) (pe_lst (pa_cons pe_str (pa_cons pe_str (pa_cons pe_str (pa_cons pe_str (pa_cons pe_str (pa_cons pe_str (pa_cons pe_str (pa_cons pe_str (pa_cons pe_str (pa_cons pe_str (pa_cons pe_str (pa_cons pe_str (pa_cons pe_str pa_nil)))))))))))))))
      (pss_cons (ps_for PassesOwn.never rfl (pi_range1 (by rfl) T.range (pa_cons pe_int pa_nil)) (pg_name (i := 5) sc_law_name.nd rfl (.inl rfl))
        (pss_cons (ps_set (i := 8) sc_law_name.nd rfl (.inl rfl) (pe_op op_add_str (pv 4) (pe_ix ix_str (pv 3) (pe_op op_mod (pe_op op_add (pv 6) (pv 5)) pe_int) (fun _ _ => rfl))))
        (pss_one (ps_if (PW.pt (pw_and (pt_cmpR op_notIn_seq (pv 8) (pv 7) (by rfl)) (pw_and1 (pt_cmpR op_notIn_seq (pv 8) (pv 2) (by rfl)))))
          (pss_one (ps_ret (pv 8)))
          pss_nil))))
      (pss_one (ps_ret (pe_op op_add_str (pv 4) pe_str))))))))), ?_⟩
    -- for k in range(draw(pool, 4))
    refine ⟨_, rfl, _, rfl, a, c, 4, rfl, PP, by omega, by decide, by decide, fun H1 r r0 r1 P1 k1 => ⟨r, rfl, by omega, by omega, for_range (lo := 0) (n := r.toNat) (fun i σ H' => ∃ nm y,
      σ = [some (.ref a.p), some (.str start), some (.ref t), some (.str lettersS), some (.str nm), y, none, none, none] ∧ Alpha nm ∧ nm.length = start.length + i ∧ Pool H' a (c + 1 + i) ∧ Kp a H H')
      ⟨start, none, rfl, al, rfl, P1, k1⟩ ?_ ?_⟩⟩
    · rintro i σ H2 hi ⟨nm, y, rfl, an, ln, P2, k2⟩
      refine ⟨_, rfl, _, rfl, _, rfl, a, _, 26, rfl, P2, by omega, by decide, by decide, fun H3 r' r0' r1' P3 k3 => ?_⟩
      obtain ⟨j, rfl⟩ : ∃ j : Nat, r' = (j : Int) := ⟨r'.toNat, by omega⟩
      have hj : j < 26 := by omega
      refine ⟨lettersS, _, 97 + j, rfl, rfl, szOk letters_len, atI_nat (letters_at hj), nm, _, rfl, rfl, ?_, ?_⟩
      · show nm.length + 1 ≤ sizeLine
        exact szOk (by omega)
      · refine ⟨nm ++ ⟨#[97 + j]⟩, _, rfl, alpha_app an hj, ?_, ?_, k2.trans k3⟩
        · rw [app_len, ln]
          rfl
        · exact P3
    · rintro σ H2 ⟨nm, y, rfl, an, ln, P2, k2⟩
      -- last = draw(pool, 26); words
      refine ⟨_, rfl, a, _, 26, rfl, P2, by omega, by decide, by decide, fun H3 r' r0' r1' P3 k3 => ?_⟩
      obtain ⟨last, rfl⟩ : ∃ j : Nat, r' = (j : Int) := ⟨r'.toNat, by omega⟩
      refine ⟨by show 13 ≤ sizeLine; decide, fun l hl => ?_⟩
      have hl2 : upd H3 l (.lst (wordsL.map V.str)) l = some (.lst (wordsL.map V.str)) := upd_same
      have ht3 : H3 t = some (.lst (taken.map V.str)) := (k2.trans k3) _ _ ht ot
      have ht4 : ∀ o, upd H3 l o t = some (.lst (taken.map V.str)) := fun o => by
        rw [upd_ne (ne_of_none ht3 hl)]
        exact ht3
      refine ⟨26, rfl, by decide, by decide, for_range (lo := 0) (n := 26) (fun i σ H' => ∃ y z,
        σ = [some (.ref a.p), some (.str start), some (.ref t), some (.str lettersS), some (.str nm), y, some (.int last), some (.ref l), z] ∧ H' = upd H3 l (.lst (wordsL.map V.str)) ∧ ∀ j, j < i → cand nm last j ∈ wordsL ∨ cand nm last j ∈ taken)
        ⟨_, _, rfl, rfl, fun j hj => absurd hj (Nat.not_lt_zero _)⟩ ?_ ?_⟩
      · rintro i σ H' hi ⟨y', z, rfl, rfl, all⟩
        have hm : (last + i) % 26 < 26 := Nat.mod_lt _ (by decide)
        have em : ((last : Int) + (0 + (i : Int))) % 26 = (((last + i) % 26 : Nat) : Int) := by omega
        refine ⟨_, rfl, _, rfl, _, rfl, _, rfl, _, _, rfl, rfl, _, _, rfl, rfl, (by show (0 : Int) < _; decide), lettersS, _, 97 + (last + i) % 26, rfl, rfl, szOk letters_len, (by
          show atI _ (((last : Int) + (0 + (i : Int))) % 26) = _
          rw [em]
          exact atI_nat (letters_at hm)), nm, _, rfl, rfl, ?_, ?_⟩
        · show nm.length + 1 ≤ sizeLine
          exact szOk (by omega)
        · refine ⟨_, rfl, _, rfl, l, _, rfl, .inl (SqL.of hl2), rfl, flat_str _, _, rfl, ?_⟩
          rw [inV_str]
          refine ite2 (fun e => ?_) (fun e => ?_)
          · refine ⟨_, rfl, _, rfl, t, _, rfl, .inl (SqL.of (ht4 _)), rfl, flat_str _, _, rfl, ?_⟩
            rw [inV_str]
            refine ite2 (fun e2 => ?_) (fun e2 => ?_)
            · have n1 : cand nm last i ∉ wordsL := notdec e
              have n2 : cand nm last i ∉ taken := notdec e2
              have lc : (cand nm last i).length = nm.length + 1 := by
                unfold cand
                rw [app_len]
                rfl
              refine ⟨_, rfl, q _ (cand nm last i) ⟨by omega, by omega, n1, alpha_app an hm⟩ n2 ((P3.upd (P3.off hl)).mono (by omega)) ((k2.trans k3).mut ((k2.trans k3).free hl (P3.off hl)))⟩
            · refine ⟨_, _, rfl, rfl, fun j hj => ?_⟩
              by_cases h : j < i
              · exact all j h
              · have e3 : j = i := by omega
                rw [e3]
                exact .inr (dec_of e2)
          · refine iteF ⟨_, _, rfl, rfl, fun j hj => ?_⟩
            by_cases h : j < i
            · exact all j h
            · have e3 : j = i := by omega
              rw [e3]
              exact .inl (dec_of e)
      · rintro σ H' ⟨y', z, rfl, rfl, all⟩
        exact (cand_some (words := wordsL) (by show 13 + taken.length < 26; omega) all).elim
def spLNames : Sp := fun vs H Q _ => ∃ (a : PA) (c : Nat) (n : Nat), vs = [.ref a.p, .int n] ∧ Pool H a c ∧ c < 800000 ∧ n ≤ 12 ∧
  ∀ (H' : Hp) (l : Addr) (zs : List Str), Pool H' a (c + 5 + n * 5) → Kp a H H' → H' l = some (.lst (zs.map V.str)) → Off a l → zs.Nodup → (∀ z ∈ zs, GoodName z) → zs.length = n → Q (.ref l) H'
theorem ok_lnames {f : Addr} {fd : FuncData} (F : Fun K "_law_names" "_law_names" s_law_names f fd) (T : Bi mg) (c_law_draw : Cal P w K mg base 1 "_law_draw" ["_law_pool_here", "_law_many"] spDraw) (c_law_name : Cal P w K mg base 2 "_law_name" ["_law_pool_here", "_law_start", "_law_taken"] spLName) :
    FnOk P w K mg base CX0 3 f fd ["_law_pool_here", "_law_many"] spLNames := by
  refine F.ok sc_law_names (fun vs H Q E h => ?_) (fun cdv A outer s H vs Q E hr h => ?_)
  · obtain ⟨a, c, n, rfl, _⟩ := h
    rfl
  · obtain ⟨a, c, n, rfl, PP, hc, hn, q⟩ := h
    refine ⟨_, (pss_cons (ps_set (i := 2) sc_law_names.nd rfl (.inl rfl) pe_str)
      (pss_cons (ps_set (i := 3) sc_law_names.nd rfl (.inl rfl) pe_str)
      (pss_cons (ps_for PassesOwn.never rfl (pi_range1 (by rfl) T.range (pa_cons (pe_ix ix_list (pe_lst (pa_cons pe_int (pa_cons pe_int (pa_cons pe_int (pa_cons pe_int pa_nil))))) (pe_call c_law_draw.G (hr.mono (by decide)) (by rfl) c_law_draw.g c_law_draw.kp c_law_draw.b .nil pass0 (pa_cons (pv 0) (pa_cons pe_int pa_nil))) (fun _ _ => rfl)) pa_nil)) (pg_name (i := 4) sc_law_names.nd rfl (.inl rfl))
        (pss_one (ps_set (i := 3) sc_law_names.nd rfl (.inl rfl) (pe_op op_add_str (pv 3) (pe_ix ix_str (pv 2) (pe_call c_law_draw.G (hr.mono (by decide)) (by rfl) c_law_draw.g c_law_draw.kp c_law_draw.b .nil pass0 (pa_cons (pv 0) (pa_cons pe_int pa_nil))) (fun _ _ => rfl))))))
      (pss_cons (ps_set (i := 5) sc_law_names.nd rfl (.inl rfl) (pe_lst pa_nil))
      (pss_cons (ps_for PassesOwn.never rfl (pi_range1 (by rfl) T.range (pa_cons (pv 1) pa_nil)) (pg_name (i := 4) sc_law_names.nd rfl (.inl rfl))
        (pss_one (ps_expr (pe_bm PySem.F.plainAttrs_list PySem.F.slot_list_append PySem.F.type_list_append mt_append (pv 5) (pa_cons (pe_call c_law_name.G hr (by rfl) c_law_name.g c_law_name.kp c_law_name.b .nil pass0 (pa_cons (pv 0) (pa_cons (pv 3) (pa_cons (pv 5) pa_nil)))) pa_nil)))))
      (pss_one (ps_ret (pv 5)))))))), ?_⟩
    refine ⟨by show 4 ≤ sizeLine; decide, fun d hd => ⟨_, rfl, a, c, 4, rfl, PP.upd (PP.off hd), by omega, by decide, by decide, fun H1 r r0 r1 P1 k1 => ?_⟩⟩
    have k1' : Kp a H H1 := (skp (same_upd hd)).trans k1
    have hd1 : H1 d = some (.lst [.int 0, .int 0, .int 1, .int 4]) := k1 _ _ upd_same (PP.off hd)
    obtain ⟨v, v0, v1, hv⟩ : ∃ v : Int, 0 ≤ v ∧ v ≤ 4 ∧ atI [V.int 0, .int 0, .int 1, .int 4] r = some (.int v) := by
      have : r = 0 ∨ r = 1 ∨ r = 2 ∨ r = 3 := by omega
      rcases this with rfl | rfl | rfl | rfl
      · exact ⟨0, by decide, by decide, rfl⟩
      · exact ⟨0, by decide, by decide, rfl⟩
      · exact ⟨1, by decide, by decide, rfl⟩
      · exact ⟨4, by decide, by decide, rfl⟩
    refine ⟨d, _, r, .int v, rfl, rfl, SqL.of hd1, hv, v, rfl, by omega, by omega, for_range (lo := 0) (n := v.toNat) (fun i σ H' => ∃ nm y,
      σ = [some (.ref a.p), some (.int n), some (.str lettersS), some (.str nm), y, none] ∧ Alpha nm ∧ nm.length = i ∧ Pool H' a (c + 1 + i) ∧ Kp a H H')
      ⟨Str.ofString "", none, rfl, (fun c hc => absurd hc (by rw [show (Str.ofString "").cps.toList = [] by decide +kernel]; exact List.not_mem_nil)), (by decide +kernel), P1, k1'⟩ ?_ ?_⟩
    · rintro i σ H2 hi ⟨nm, y, rfl, an, ln, P2, k2⟩
      refine ⟨_, rfl, _, rfl, _, rfl, a, _, 26, rfl, P2, by omega, by decide, by decide, fun H3 r' r0' r1' P3 k3 => ?_⟩
      obtain ⟨j, rfl⟩ : ∃ j : Nat, r' = (j : Int) := ⟨r'.toNat, by omega⟩
      have hj : j < 26 := by omega
      refine ⟨lettersS, _, 97 + j, rfl, rfl, szOk letters_len, atI_nat (letters_at hj), nm, _, rfl, rfl, ?_, ?_⟩
      · show nm.length + 1 ≤ sizeLine
        exact szOk (by omega)
      · refine ⟨nm ++ ⟨#[97 + j]⟩, _, rfl, alpha_app an hj, ?_, P3, k2.trans k3⟩
        rw [app_len, ln]
        rfl
    · rintro σ H2 ⟨nm, y, rfl, an, ln, P2, k2⟩
      refine ⟨Nat.zero_le _, fun l hl => ?_⟩
      have ol := P2.off hl
      have hl0 := k2.free hl ol
      refine ⟨_, rfl, n, rfl, by omega, by omega, for_range (lo := 0) (n := (n : Int).toNat) (fun i σ H' => ∃ (zs : List Str) (y : Option V),
        σ = [some (.ref a.p), some (.int n), some (.str lettersS), some (.str nm), y, some (.ref l)] ∧ zs.length = i ∧ zs.Nodup ∧ (∀ z ∈ zs, GoodName z) ∧ H' l = some (.lst (zs.map V.str)) ∧ Pool H' a (c + 5 + i * 5) ∧ Kp a H H')
        ⟨[], _, rfl, rfl, List.nodup_nil, (fun z hz => absurd hz List.not_mem_nil), upd_same, ((P2.mono (by omega)).upd ol), k2.mut hl0⟩ ?_ ?_⟩
      · rintro i σ H3 hi ⟨zs, y', rfl, lz, nz, gz, hz, P3, k3⟩
        refine ⟨_, rfl, .inl ⟨rfl, _, SqL.of hz⟩, _, rfl, _, rfl, _, rfl, a, _, nm, l, zs, rfl, P3, by omega, hz, ol, an, by omega, by omega, fun H4 z g4 n4 P4 k4 => ?_⟩
        have hz4 := k4 _ _ hz ol
        refine ⟨l, _, _, rfl, rfl, hz4, szLt (by rw [List.length_map]; omega), zs ++ [z], _, rfl, ?_, ?_, ?_, ?_, ?_, ?_⟩
        · rw [List.length_append, lz]
          rfl
        · rw [List.nodup_append]
          refine ⟨nz, by simp, fun x hx y hy e => ?_⟩
          have : y = z := by simpa using hy
          rw [this] at e
          exact n4 (by rw [← e]; exact hx)
        · intro x hx
          rcases List.mem_append.mp hx with hx | hx
          · exact gz x hx
          · have : x = z := by simpa using hx
            rw [this]
            exact g4
        · rw [upd_same, List.map_append]
          rfl
        · rw [show c + 5 + (i + 1) * 5 = c + 5 + i * 5 + 5 by omega]
          exact P4.upd ol
        · exact (k3.trans k4).mut hl0
      · rintro σ H3 ⟨zs, y', rfl, lz, nz, gz, hz, P3, k3⟩
        rw [Int.toNat_natCast] at lz P3
        exact ⟨_, rfl, q _ l zs P3 k3 hz ol nz gz lz⟩
end

/-! ### _law_great_machine -/
theorem nlt_trans {a b c : List Nat} (h1 : ¬ b < a) (h2 : ¬ c < b) : ¬ c < a := by
  rw [List.not_lt] at *
  exact List.le_trans h1 h2
theorem lt_of {a b : List Nat} (h : ¬ b < a) (n : a ≠ b) : a < b := by
  rw [List.not_lt] at h
  rcases List.le_iff_lt_or_eq.mp h with h | h
  · exact h
  · exact absurd h n
theorem rising_pw : ∀ (l : List Str) (p : Str), risingS p l = true → (p :: l).Pairwise (fun x y => ¬ y.cps.toList < x.cps.toList)
  | [], p, _ => List.pairwise_singleton _ _
  | x :: r, p, h => by
    have h' : (!Spec.ltCps x.cps.toList p.cps.toList && risingS x r) = true := h
    rw [Bool.and_eq_true, ltCps_eq] at h'
    have ih := rising_pw r x h'.2
    refine List.pairwise_cons.mpr ⟨fun y hy => ?_, ih⟩
    rcases List.mem_cons.mp hy with rfl | hy
    · exact notdec h'.1
    · exact nlt_trans (notdec h'.1) ((List.pairwise_cons.mp ih).1 y hy)
theorem sorted_rise {ys : List Str} (h : sortedS ys = true) (nd : ys.Nodup) (g : ∀ z ∈ ys, GoodName z) : RiseS ys := by
  refine ⟨?_, g⟩
  have pw : ys.Pairwise (fun x y => ¬ y.cps.toList < x.cps.toList) := by
    cases ys with
    | nil => exact List.Pairwise.nil
    | cons x r => exact rising_pw r x h
  exact (pw.and nd).imp fun {x y} h => lt_of h.1 fun e => h.2 (Str.ext' (Array.toList_inj.mp e))
abbrev s_law_great_machine : Stmt := topS 27
theorem sc_law_great_machine : FnScope ["_law_pool_here", "_law_names_here", "_law_many", "_law_dense", "_law_steps", "_law_marks", "_law_k", "_law_bits", "_law_worn", "_law_to", "_law_j"] ["_law_pool_here", "_law_names_here"] (defScope s_law_great_machine) := ⟨rfl, rfl, rfl, by decide +kernel, rfl, by decide +kernel, by decide +kernel⟩
section
variable {P : Program} {w : World} {K : PySem.W.Frag} {mg : Str → Option Value} {base : Heap}
def spGreat (K : PySem.W.Frag) : Sp := fun vs H Q _ => ∃ (a : PA) (c : Nat) (l : Addr) (zs : List Str), vs = [.ref a.p, .ref l] ∧ Pool H a c ∧ c < 700000 ∧ H l = some (.lst (zs.map V.str)) ∧ Off a l ∧ zs.Nodup ∧ (∀ z ∈ zs, GoodName z) ∧ zs.length ≤ 8 ∧
  ∀ (H' : Hp) (m : Addr) (steps : List (List Int)) (marks : List (List Str)), Pool H' a (c + 203) → Kp a H H' → MachAt K H' m steps marks → GoodMach steps marks → Q (.ref m) H'
theorem ok_great {f : Addr} {fd : FuncData} (F : Fun K "_law_great_machine" "_law_great_machine" s_law_great_machine f fd) (T : Bi mg) (c_law_draw : Cal P w K mg base 1 "_law_draw" ["_law_pool_here", "_law_many"] spDraw) : FnOk P w K mg base CX0 2 f fd ["_law_pool_here", "_law_names_here"] (spGreat K) := by
  refine F.ok sc_law_great_machine (fun vs H Q E h => ?_) (fun cdv A outer s H vs Q E hr h => ?_)
  · obtain ⟨a, c, l, zs, rfl, _⟩ := h
    rfl
  · obtain ⟨a, c, l, zs, rfl, PP, hc, hl, ol, nz, gz, lz, q⟩ := h
    refine ⟨_, (pss_cons (ps_set (i := 2) sc_law_great_machine.nd rfl (.inl rfl) (pe_op op_add pe_int (pe_call c_law_draw.G hr (by rfl) c_law_draw.g c_law_draw.kp c_law_draw.b .nil pass0 (pa_cons (pv 0) (pa_cons pe_int pa_nil)))))
      (Evl.pss_cut (ps_if (pt_cmpR op_eq (pe_call c_law_draw.G hr (by rfl) c_law_draw.g c_law_draw.kp c_law_draw.b .nil pass0 (pa_cons (pv 0) (pa_cons pe_int pa_nil))) pe_int (nomark _))
        (pss_one (ps_set (i := 2) sc_law_great_machine.nd rfl (.inl rfl) pe_int))
        pss_nil)
      (pss_cons (ps_set (i := 3) sc_law_great_machine.nd rfl (.inl rfl) (pe_call c_law_draw.G hr (by rfl) c_law_draw.g c_law_draw.kp c_law_draw.b .nil pass0 (pa_cons (pv 0) (pa_cons pe_int pa_nil))))
      (pss_cons (ps_set (i := 4) sc_law_great_machine.nd rfl (.inl rfl) (pe_lst pa_nil))
      (pss_cons (ps_set (i := 5) sc_law_great_machine.nd rfl (.inl rfl) (pe_lst pa_nil))
      (pss_cons (ps_for PassesOwn.never rfl (pi_range1 (by rfl) T.range (pa_cons (pv 2) pa_nil)) (pg_name (i := 6) sc_law_great_machine.nd rfl (.inl rfl))
        (pss_cons (ps_set (i := 7) sc_law_great_machine.nd rfl (.inr rfl) (pe_lst (pa_cons (pe_call c_law_draw.G hr (by rfl) c_law_draw.g c_law_draw.kp c_law_draw.b .nil pass0 (pa_cons (pv 0) (pa_cons pe_int pa_nil))) (pa_cons (pe_call c_law_draw.G hr (by rfl) c_law_draw.g c_law_draw.kp c_law_draw.b .nil pass0 (pa_cons (pv 0) (pa_cons pe_int pa_nil))) pa_nil))))
        (Evl.pss_cut (ps_if (pt_cmpR op_gt (pv 3) pe_int (nomark _))
          (pss_one (ps_set (i := 7) sc_law_great_machine.nd rfl (.inr rfl) (pe_lst (pa_cons (pe_op op_and (pe_ix ix_list (pv 7) pe_int (fun _ _ => rfl)) (pe_call c_law_draw.G hr (by rfl) c_law_draw.g c_law_draw.kp c_law_draw.b .nil pass0 (pa_cons (pv 0) (pa_cons pe_int pa_nil)))) (pa_cons (pe_op op_and (pe_ix ix_list (pv 7) pe_int (fun _ _ => rfl)) (pe_call c_law_draw.G hr (by rfl) c_law_draw.g c_law_draw.kp c_law_draw.b .nil pass0 (pa_cons (pv 0) (pa_cons pe_int pa_nil)))) pa_nil)))))
          pss_nil)
        (pss_cons (ps_expr (pe_bm PySem.F.plainAttrs_list PySem.F.slot_list_append PySem.F.type_list_append mt_append (pv 4) (pa_cons (pe_callTy call_tuple_of (by rfl) T.tuple (by decide +kernel) (pa_cons (pe_lc (own := [("_law_to", 9)]) (g := gName 9) rfl sc_law_great_machine.nd (pi_range1 (by rfl) T.range (pa_cons (pv 2) pa_nil)) (blkOk_by (own := [("_law_to", 9)]) (N := ["_law_pool_here", "_law_names_here", "_law_many", "_law_dense", "_law_steps", "_law_marks", "_law_k", "_law_bits", "_law_worn", "_law_to", "_law_j"]) (sc := defScope s_law_great_machine) (by decide +kernel)) (fun _ _ _ _ _ => (pg_name (i := 9) sc_law_great_machine.nd rfl (.inl rfl))) (fun _ _ _ _ _ => (pts_one (pt_cmpR op_eq (pe_op op_and (pe_op op_shr (pe_ix (ixL K) (pv 7) (pe_op op_fdiv (pv 9) pe_int) (fun _ _ => rfl)) (pe_op op_mod (pv 9) pe_int)) pe_int) pe_int (nomark _)))) (fun _ _ _ _ _ => (pv 9))) pa_nil)) pa_nil)))
        (pss_cons (ps_set (i := 8) sc_law_great_machine.nd rfl (.inr rfl) (pe_call c_law_draw.G hr (by rfl) c_law_draw.g c_law_draw.kp c_law_draw.b .nil pass0 (pa_cons (pv 0) (pa_cons pe_int pa_nil))))
        (pss_one (ps_expr (pe_bm PySem.F.plainAttrs_list PySem.F.slot_list_append PySem.F.type_list_append mt_append (pv 5) (pa_cons (pe_callTy call_tuple_of (by rfl) T.tuple (by decide +kernel) (pa_cons (pe_callB cr_sortedS (by rfl) T.sorted (by decide +kernel) (pa_cons (pe_lc (own := [("_law_j", 10)]) (g := gName 10) rfl sc_law_great_machine.nd (pi_range1 (by rfl) T.range (pa_cons (pe_callB call_len_seq (by rfl) T.len PySem.boot_len (pa_cons (pv 1) pa_nil)) pa_nil)) (blkOk_by (own := [("_law_j", 10)]) (N := ["_law_pool_here", "_law_names_here", "_law_many", "_law_dense", "_law_steps", "_law_marks", "_law_k", "_law_bits", "_law_worn", "_law_to", "_law_j"]) (sc := defScope s_law_great_machine) (by decide +kernel)) (fun _ _ _ _ _ => (pg_name (i := 10) sc_law_great_machine.nd rfl (.inl rfl))) (fun _ _ _ _ _ => (pts_one (pt_cmpR op_eq (pe_op op_and (pe_op op_shr (pv 8) (pv 10)) pe_int) pe_int (nomark _)))) (fun _ _ _ _ _ => (pe_ix (ixL K) (pv 1) (pv 10) (fun _ _ => rfl)))) pa_nil)) pa_nil)) pa_nil)))))))))
      (pss_one (ps_ret (pe_tup (pa_cons (pe_callTy call_tuple_of (by rfl) T.tuple (by decide +kernel) (pa_cons (pv 4) pa_nil)) (pa_cons (pe_callTy call_tuple_of (by rfl) T.tuple (by decide +kernel) (pa_cons (pv 5) pa_nil)) pa_nil))))))))))), ?_⟩
    -- many
    refine ⟨_, rfl, a, c, 40, rfl, PP, by omega, by decide, by decide, fun H1 r r0 r1 P1 k1 => ⟨_, _, rfl, rfl, ?_⟩⟩
    refine ⟨fun σ H' => ∃ many : Nat, σ = [some (.ref a.p), some (.ref l), some (.int many), none, none, none, none, none, none, none, none] ∧ 1 ≤ many ∧ many ≤ 40 ∧ Pool H' a (c + 2) ∧ Kp a H H', ?_, ?_⟩
    · refine ⟨_, rfl, a, _, 4, rfl, P1, by omega, by decide, by decide, fun H2 r' _ _ P2 k2 => ⟨rfl, _, rfl, ite2 (fun _ => ?_) (fun _ => ?_)⟩⟩
      · exact ⟨40, rfl, by decide, by decide, P2, k1.trans k2⟩
      · refine ⟨(1 + r).toNat, ?_, by omega, by omega, P2, k1.trans k2⟩
        rw [show (((1 + r).toNat : Nat) : Int) = 1 + r by omega]
        rfl
    · rintro σ H2 ⟨many, rfl, m1, m2, P2, k2⟩
      -- dense, steps, marks
      refine ⟨_, rfl, a, _, 3, rfl, P2, by omega, by decide, by decide, fun H3 dense _ _ P3 k3 => ⟨Nat.zero_le _, fun ls hls => ⟨Nat.zero_le _, fun lm hlm => ?_⟩⟩⟩
      have os := P3.off hls
      have hls0 := (k2.trans k3).free hls os
      have P4 := P3.upd (o := .lst []) os
      have om := P4.off hlm
      have nsm : ls ≠ lm := fun e => by
        rw [← e, upd_same] at hlm
        cases hlm
      have hlm' : H3 lm = none := by
        rw [← hlm, upd_ne nsm.symm]
      have hlm0 := (k2.trans k3).free hlm' om
      refine ⟨_, rfl, many, rfl, by omega, by omega, for_range (lo := 0) (n := (many : Int).toNat) (fun i σ H' => ∃ (sa ka : List Addr) (steps : List (List Int)) (marks : List (List Str)) (y6 y7 y8 : Option V),
        σ = [some (.ref a.p), some (.ref l), some (.int many), some (.int dense), some (.ref ls), some (.ref lm), y6, y7, y8, none, none] ∧ Pool H' a (c + 3 + i * 5) ∧ Kp a H H' ∧ H' ls = some (.lst (sa.map V.ref)) ∧ H' lm = some (.lst (ka.map V.ref)) ∧
        Each (fun a ns => SqT K H' a (ns.map V.int)) sa steps ∧ Each (fun a zs => SqT K H' a (zs.map V.str)) ka marks ∧ steps.length = i ∧ marks.length = i ∧ (∀ r ∈ steps, RiseI many r) ∧ (∀ r ∈ marks, RiseS r ∧ r.length ≤ 8))
        ⟨[], [], [], [], none, none, none, rfl, P4.upd om, ((k2.trans k3).mut hls0).mut hlm0, ?_, upd_same, .nil, .nil, rfl, rfl, fun _ h => absurd h List.not_mem_nil, fun _ h => absurd h List.not_mem_nil⟩ ?_ ?_⟩
      · rw [upd_ne nsm, upd_same]
        rfl
      · rintro i σ H5 hi ⟨sa, ka, steps, marks, y6, y7, y8, rfl, P5, k5, g1, g2, g3, g4, g5, g6, g7, g8⟩
        have hi' : i < 40 := by omega
        have lsa : sa.length = i := by rw [g3.len, g5]
        have lka : ka.length = i := by rw [g4.len, g6]
        have hl5 := k5 _ _ hl ol
        -- bits
        refine ⟨_, rfl, a, _, 1048576, rfl, P5, by omega, by decide, by decide, fun H6 b0 _ _ P6 k6 => ⟨_, rfl, a, _, 1048576, rfl, P6, by omega, by decide, by decide, fun H7 b1 _ _ P7 k7 => ⟨by show 2 ≤ sizeLine; decide, fun lb hlb => ?_⟩⟩⟩
        have k57 : Kp a H5 H7 := k6.trans k7
        have ob := P7.off hlb
        refine ⟨fun σ H' => ∃ (lb : Addr) (b0 b1 : Int), σ = [some (.ref a.p), some (.ref l), some (.int many), some (.int dense), some (.ref ls), some (.ref lm), some (.int i), some (.ref lb), y8, none, none] ∧ Pool H' a (c + 3 + i * 5 + 4) ∧ Kp a H5 H' ∧ H' lb = some (.lst [.int b0, .int b1]) ∧ Off a lb, ?_, ?_⟩
        · have hlb1 : upd H7 lb (.lst [.int b0, .int b1]) lb = some (.lst [.int b0, .int b1]) := upd_same
          refine ⟨_, rfl, _, _, rfl, rfl, _, rfl, ite2 (fun _ => ?_) (fun _ => ?_)⟩
          · refine ⟨_, rfl, lb, _, 0, .int b0, rfl, rfl, SqL.of hlb1, at_of (j := 0) rfl rfl, _, rfl, a, _, 1048576, rfl, P7.upd ob, by omega, by decide, by decide, fun H8 r8 _ _ P8 k8 => ⟨_, _, rfl, rfl, ?_⟩⟩
            have hlb2 := k8 _ _ hlb1 ob
            refine ⟨_, rfl, lb, _, 1, .int b1, rfl, rfl, SqL.of hlb2, at_of (j := 1) rfl rfl, _, rfl, a, _, 1048576, rfl, P8, by omega, by decide, by decide, fun H9 r9 _ _ P9 k9 => ⟨_, _, rfl, rfl, ?_⟩⟩
            refine ⟨by show 2 ≤ sizeLine; decide, fun lb' hlb' => ⟨lb', _, _, ?_, P9.upd (P9.off hlb'), ?_, upd_same, P9.off hlb'⟩⟩
            · rw [Int.zero_add]
              rfl
            · have e1 : Kp a H5 (upd H7 lb (.lst [.int b0, .int b1])) := k57.mut (k57.free hlb ob)
              have e2 := (e1.trans k8).trans k9
              exact e2.mut (e2.free hlb' (P9.off hlb'))
          · refine ⟨lb, b0, b1, ?_, (P7.upd ob).mono (by omega), k57.mut (k57.free hlb ob), hlb1, ob⟩
            rw [Int.zero_add]
            rfl
        · rintro σ H8 ⟨lb, b0, b1, rfl, P8, k8, hb, ob⟩
          have g1' := k8 _ _ g1 os
          have g2' := k8 _ _ g2 om
          have e58 := P5.imm k8
          have g3' := g3.imp fun _ _ h => e58.sq h
          have g4' := g4.imp fun _ _ h => e58.sq h
          -- steps.append(..)
          refine ⟨_, rfl, .inl ⟨rfl, _, SqL.of g1'⟩, _, rfl, many, rfl, by omega, by omega, fun D hD => lc_rangeS (fun i acc => ∃ ns : List Int, acc = ns.map V.int ∧ ns.Pairwise (· < ·) ∧ ∀ n ∈ ns, 0 ≤ n ∧ n < i) hD (by omega) ⟨[], rfl, List.Pairwise.nil, fun _ h => absurd h List.not_mem_nil⟩ (fun _ => rfl) ?_ ?_⟩
          · intro j H9 acc hj s9 ⟨ns, hns, pw, bd⟩ _ N1 N2 k1 k2
            have hb9 := s9 _ _ hb
            obtain ⟨v, hv⟩ : ∃ v : Int, atI [V.int b0, .int b1] ((0 + (j : Int)) / 20) = some (.int v) := by
              have : (0 + (j : Int)) / 20 = 0 ∨ (0 + (j : Int)) / 20 = 1 := by omega
              rcases this with h | h
              · exact ⟨b0, by rw [h]; rfl⟩
              · exact ⟨b1, by rw [h]; rfl⟩
            refine ⟨_, rfl, _, rfl, _, _, rfl, rfl, ⟨by decide, by decide⟩, lb, _, _, .int v, rfl, rfl, SqL.of hb9, hv, _, rfl, _, _, rfl, rfl, (by show (0 : Int) < _; decide), _, _, rfl, rfl, (by show (0 : Int) ≤ _ % 20; omega), _, _, rfl, rfl, rfl, _, rfl, ite2 (fun _ => ?_) (fun _ => ?_)⟩
            · refine ⟨_, rfl, k1 _ _ (Same.refl _) ⟨ns ++ [(j : Int)], ?_, ?_, ?_⟩⟩
              · rw [hns, List.map_append, Int.zero_add]
                rfl
              · refine List.pairwise_append.mpr ⟨pw, List.pairwise_singleton _ _, fun x hx y hy => ?_⟩
                have : y = j := by simpa using hy
                have := (bd x hx).2
                omega
              · intro n hn
                rcases List.mem_append.mp hn with hn | hn
                · have := bd n hn
                  omega
                · have : n = j := by simpa using hn
                  omega
            · refine k2 _ (Same.refl _) ⟨ns, hns, pw, fun n hn => ?_⟩
              have := bd n hn
              omega
          · intro H9 acc s9 hD9 _ ⟨ns, hns, pw, bd⟩
            subst hns
            refine ⟨D, _, rfl, .inl ⟨SqL.of hD9, fun t ht => ?_⟩⟩
            have s9' : Same H8 (upd H9 t (.tup (ns.map V.int))) := s9.trans (same_upd ht)
            refine ⟨ls, _, _, rfl, rfl, s9' _ _ g1', szLt (by rw [List.length_map]; omega), ?_⟩
            have tls : t ≠ ls := (ne_of_none (s9 _ _ g1') ht).symm
            have tlm : lm ≠ t := ne_of_none (s9 _ _ g2') ht
            have P9 : Pool (upd (upd H9 t (.tup (ns.map V.int))) ls (.lst (sa.map V.ref ++ [.ref t]))) a (c + 3 + i * 5 + 4) := (P8.same s9').upd os
            have k9 : Kp a H (upd (upd H9 t (.tup (ns.map V.int))) ls (.lst (sa.map V.ref ++ [.ref t]))) := ((k5.trans k8).trans (skp s9')).mut hls0
            have h1 : upd (upd H9 t (.tup (ns.map V.int))) ls (.lst (sa.map V.ref ++ [.ref t])) ls = some (.lst ((sa ++ [t]).map V.ref)) := by
              rw [upd_same, List.map_append]
              rfl
            have h2 : upd (upd H9 t (.tup (ns.map V.int))) ls (.lst (sa.map V.ref ++ [.ref t])) lm = some (.lst (ka.map V.ref)) := by
              rw [upd_ne nsm.symm]
              exact s9' _ _ g2'
            have e9 : Imm H8 (upd (upd H9 t (.tup (ns.map V.int))) ls (.lst (sa.map V.ref ++ [.ref t]))) := (simm s9').trans (Imm.list (s9' _ _ g1'))
            have h3 := (g3'.imp fun _ _ h => e9.sq h).snoc (a := t) (x := ns) (SqT.of (by rw [upd_ne tls, upd_same]))
            have h4 := g4'.imp fun _ _ h => e9.sq h
            have hl9 := k9 _ _ hl ol
            generalize upd (upd H9 t (.tup (ns.map V.int))) ls (.lst (sa.map V.ref ++ [.ref t])) = H10 at P9 k9 h1 h2 h3 h4 hl9 ⊢
            have h5 : ∀ r ∈ steps ++ [ns], RiseI many r := fun r hr => by
              rcases List.mem_append.mp hr with hr | hr
              · exact g7 r hr
              · have : r = ns := by simpa using hr
                rw [this]
                exact ⟨pw, fun n hn => by have := bd n hn; omega⟩
            -- worn
            refine ⟨_, rfl, a, _, 256, rfl, P9, by omega, by decide, by decide, fun H11 worn _ _ P11 k11 => ?_⟩
            have h1' := k11 _ _ h1 os
            have h2' := k11 _ _ h2 om
            have hl11 := k11 _ _ hl9 ol
            have e11 := P9.imm k11
            have h3' := h3.imp fun _ _ h => e11.sq h
            have h4' := h4.imp fun _ _ h => e11.sq h
            -- marks.append(tuple(sorted(..)))
            refine ⟨_, rfl, .inl ⟨rfl, _, SqL.of h2'⟩, _, rfl, l, _, rfl, .inl (SqL.of hl11), _, rfl, by omega, by rw [List.length_map]; omega, fun D2 hD2 => lc_rangeS (fun j acc => ∃ ss : List Str, acc = ss.map V.str ∧ ss.Sublist (zs.take j)) hD2 (by rw [List.length_map]; omega) ⟨[], rfl, List.nil_sublist _⟩ (fun _ => rfl) ?_ ?_⟩
            · intro j H12 acc hj s12 ⟨ss, hss, sub⟩ _ N1 N2 k1 k2
              have hl12 := s12 _ _ hl11
              have hj' : j < zs.length := by
                rw [Int.toNat_natCast, List.length_map] at hj
                exact hj
              have gz' : (zs.map V.str)[j]? = some (.str zs[j]) := get_map (List.getElem?_eq_getElem hj')
              have etk : zs.take (j + 1) = zs.take j ++ [zs[j]] := by
                rw [List.take_add_one, List.getElem?_eq_getElem hj']
                rfl
              refine ⟨_, rfl, _, rfl, _, _, rfl, rfl, (by show (0 : Int) ≤ 0 + (j : Int); omega), _, _, rfl, rfl, rfl, _, rfl, ite2 (fun _ => ?_) (fun _ => ?_)⟩
              · refine ⟨_, rfl, _, rfl, l, _, _, _, rfl, rfl, SqL.of hl12, at_of (Int.zero_add _) gz', k1 _ _ (Same.refl _) ⟨ss ++ [zs[j]], ?_, ?_⟩⟩
                · rw [hss, List.map_append]
                  rfl
                · rw [etk]
                  exact sub.append (List.Sublist.refl _)
              · refine k2 _ (Same.refl _) ⟨ss, hss, ?_⟩
                rw [etk]
                exact sub.trans (List.sublist_append_left _ _)
            · intro H12 acc s12 hD12 _ ⟨ss, hss, sub⟩
              subst hss
              have sub' : ss.Sublist zs := sub.trans (List.take_sublist _ _)
              have lss := sub'.length_le
              refine ⟨D2, ss, rfl, SqL.of hD12, by omega, fun ys p pm so hp => ?_⟩
              have lys := pm.length_eq
              have s13 : Same H12 (upd H12 p (.lst (ys.map V.str))) := same_upd hp
              refine ⟨p, _, rfl, .inl ⟨SqL.of upd_same, fun t2 ht2 => ?_⟩⟩
              have s14 := (s12.trans s13).trans (same_upd (o := .tup (ys.map V.str)) ht2)
              refine ⟨lm, _, _, rfl, rfl, s14 _ _ h2', szLt (by rw [List.length_map]; omega), ?_⟩
              have t2m : t2 ≠ lm := (ne_of_none ((s12.trans s13) _ _ h2') ht2).symm
              have e15 := (simm s14).trans (Imm.list (o := .lst (ka.map V.ref ++ [.ref t2])) (s14 _ _ h2'))
              have h4'' := (h4'.imp fun _ _ h => e15.sq h).snoc (a := t2) (x := ys) (SqT.of (by rw [upd_ne t2m, upd_same]))
              refine ⟨sa ++ [t], ka ++ [t2], steps ++ [ns], marks ++ [ys], some (.int i), some (.ref lb), some (.int worn), rfl, ?_, ?_, ?_, ?_, h3'.imp fun _ _ h => e15.sq h, h4'', ?_, ?_, h5, ?_⟩
              · rw [show c + 3 + (i + 1) * 5 = c + 3 + i * 5 + 4 + 1 by omega]
                exact (P11.same s14).upd om
              · exact ((k9.trans k11).trans (skp s14)).mut hlm0
              · rw [upd_ne nsm]
                exact s14 _ _ h1'
              · rw [upd_same, List.map_append]
                rfl
              · rw [List.length_append, g5]
                rfl
              · rw [List.length_append, g6]
                rfl
              · intro r hr
                rcases List.mem_append.mp hr with hr | hr
                · exact g8 r hr
                · have : r = ys := by simpa using hr
                  rw [this]
                  exact ⟨sorted_rise so (pm.nodup_iff.mpr (nz.sublist sub')) fun z hz => gz z (sub'.subset (pm.mem_iff.mp hz)), by omega⟩
      · rintro σ H5 ⟨sa, ka, steps, marks, y6, y7, y8, rfl, P5, k5, g1, g2, g3, g4, g5, g6, g7, g8⟩
        rw [Int.toNat_natCast] at P5 g5 g6
        refine ⟨_, rfl, ls, _, rfl, .inl ⟨SqL.of g1, fun s hs => ?_⟩⟩
        have s1 : Same H5 (upd H5 s (.tup (sa.map V.ref))) := same_upd hs
        refine ⟨_, rfl, lm, _, rfl, .inl ⟨SqL.of (s1 _ _ g2), fun k hk => ⟨by show 2 ≤ sizeLine; decide, fun m hm => ?_⟩⟩⟩
        have s2 := s1.trans (same_upd (o := .tup (ka.map V.ref)) hk)
        have s3 := s2.trans (same_upd (o := .tup [.ref s, .ref k]) hm)
        have nsk : s ≠ k := ne_of_none (show upd H5 s (.tup (sa.map V.ref)) s = _ from upd_same) hk
        have nsm' : s ≠ m := ne_of_none ((same_upd (o := .tup (ka.map V.ref)) hk) _ _ (show upd H5 s (.tup (sa.map V.ref)) s = _ from upd_same)) hm
        have nkm : k ≠ m := ne_of_none (show upd (upd H5 s (.tup (sa.map V.ref))) k (.tup (ka.map V.ref)) k = _ from upd_same) hm
        refine q _ m steps marks ((P5.same s3).mono (by omega)) (k5.trans (skp s3)) ⟨s, k, sa, ka, SqT.of upd_same, SqT.of ?_, SqT.of ?_, g3.imp fun _ _ h => (simm s3).sq h, g4.imp fun _ _ h => (simm s3).sq h⟩ ⟨by omega, by omega, by omega, ?_, g8⟩
        · rw [upd_ne nsm', upd_ne nsk, upd_same]
        · rw [upd_ne nkm, upd_same]
        · rw [g5]
          exact g7
end

/-! ### the law's own wishes, its comparison, the law -/
theorem good_unborne : GoodName (Str.ofString "unborne") := ⟨by decide +kernel, by decide +kernel, by decide +kernel, by decide +kernel⟩
abbrev s_law_wishes_by : Stmt := topS 28
theorem sc_law_wishes_by : FnScope ["_law_pool_here", "_law_names_here", "_law_some", "_law_wishes", "_law_k"] ["_law_pool_here", "_law_names_here"] (defScope s_law_wishes_by) := ⟨rfl, rfl, rfl, by decide +kernel, rfl, by decide +kernel, by decide +kernel⟩
abbrev s_law_alike : Stmt := topS 29
theorem sc_law_alike : FnScope ["_law_found", "_law_due", "_law_k"] ["_law_found", "_law_due"] (defScope s_law_alike) := ⟨rfl, rfl, rfl, by decide +kernel, rfl, by decide +kernel, by decide +kernel⟩
abbrev slaw : Stmt := topS 30
theorem sclaw : FnScope ["_law_script", "_law_pool_here", "_law_names_here", "_law_wishes", "_law_machine", "_law_name_here", "_law_due", "_law_k"] ["_law_script"] (defScope slaw) := ⟨rfl, rfl, rfl, by decide +kernel, rfl, by decide +kernel, by decide +kernel⟩
/-- the bounds and what is left out -/
structure Wg (K : PySem.W.Frag) (mg : Str → Option Value) where
  aF : Addr
  uM : Value
  uB : Value
  gFREE : mg "FREE" = some (.ref aF)
  rFREE : RelV (.ref aF) (.ref aF)
  sF : ∀ H, SqT K H aF []
  gMOST : mg "MOST" = some uM
  rMOST : RelV (.int 40) uM
  gBOOK : mg "BOOK" = some uB
  rBOOK : RelV (.int 300) uB
section
variable {P : Program} {w : World} {K : PySem.W.Frag} {mg : Str → Option Value} {base : Heap}
def spWB (K : PySem.W.Frag) : Sp := fun vs H Q _ => ∃ (a : PA) (c : Nat) (l : Addr) (zs : List Str), vs = [.ref a.p, .ref l] ∧ Pool H a c ∧ c < 700000 ∧ H l = some (.lst (zs.map V.str)) ∧ Off a l ∧ (∀ z ∈ zs, GoodName z) ∧ zs.length ≤ 8 ∧
  ∀ (H' : Hp) (t : Addr) (ws : List (Str × Str)), Pool H' a (c + 9) → Kp a H H' → WishAt K H' t ws → ws.length ≤ 4 → (∀ x ∈ ws, (x.1 = Str.ofString "" ∨ GoodName x.1) ∧ GoodName x.2) → Q (.ref t) H'
theorem ok_wb {f : Addr} {fd : FuncData} (F : Fun K "_law_wishes_by" "_law_wishes_by" s_law_wishes_by f fd) (T : Bi mg) (c_law_draw : Cal P w K mg base 1 "_law_draw" ["_law_pool_here", "_law_many"] spDraw) : FnOk P w K mg base CX0 2 f fd ["_law_pool_here", "_law_names_here"] (spWB K) := by
  refine F.ok sc_law_wishes_by (fun vs H Q E h => ?_) (fun cdv A outer s H vs Q E hr h => ?_)
  · obtain ⟨a, c, l, zs, rfl, _⟩ := h
    rfl
  · obtain ⟨a, c, l, zs, rfl, PP, hc, hl, ol, gz, lz, q⟩ := h
    refine ⟨_, (pss_cons (ps_set (i := 2) sc_law_wishes_by.nd rfl (.inl rfl) (pe_op op_cat (pe_lst (pa_cons pe_str (pa_cons pe_str pa_nil))) (pv 1)))
      (pss_cons (ps_set (i := 3) sc_law_wishes_by.nd rfl (.inl rfl) (pe_lst pa_nil))
      (pss_cons (ps_for PassesOwn.never rfl (pi_range1 (by rfl) T.range (pa_cons (pe_call c_law_draw.G hr (by rfl) c_law_draw.g c_law_draw.kp c_law_draw.b .nil pass0 (pa_cons (pv 0) (pa_cons pe_int pa_nil))) pa_nil)) (pg_name (i := 4) sc_law_wishes_by.nd rfl (.inl rfl))
        (pss_one (ps_expr (pe_bm PySem.F.plainAttrs_list PySem.F.slot_list_append PySem.F.type_list_append mt_append (pv 3) (pa_cons (pe_tup (pa_cons (pe_ix ix_list (pv 2) (pe_call c_law_draw.G hr (by rfl) c_law_draw.g c_law_draw.kp c_law_draw.b .nil pass0 (pa_cons (pv 0) (pa_cons (pe_callB call_len_seq (by rfl) T.len PySem.boot_len (pa_cons (pv 2) pa_nil)) pa_nil))) (fun _ _ => rfl)) (pa_cons (pe_ix ix_list (pv 2) (pe_op op_add pe_int (pe_call c_law_draw.G hr (by rfl) c_law_draw.g c_law_draw.kp c_law_draw.b .nil pass0 (pa_cons (pv 0) (pa_cons (pe_op op_sub (pe_callB call_len_seq (by rfl) T.len PySem.boot_len (pa_cons (pv 2) pa_nil)) pe_int) pa_nil)))) (fun _ _ => rfl)) pa_nil))) pa_nil)))))
      (pss_one (ps_ret (pe_callTy call_tuple_of (by rfl) T.tuple (by decide +kernel) (pa_cons (pv 3) pa_nil))))))), ?_⟩
    refine ⟨by show 2 ≤ sizeLine; decide, fun d hd => ⟨_, rfl, d, l, _, _, rfl, rfl, upd_same, (same_upd hd) _ _ hl, szOk (by rw [List.length_map]; show 2 + zs.length ≤ _; omega), fun so hso => ⟨Nat.zero_le _, fun lw hlw => ?_⟩⟩⟩
    have P1 := (PP.same (same_upd (o := .lst [.str "", .str "unborne"]) hd)).same (same_upd (o := .lst ([.str "", .str "unborne"] ++ zs.map V.str)) hso)
    have k1 : Kp a H (upd (upd H d (.lst [.str "", .str "unborne"])) so (.lst ([.str "", .str "unborne"] ++ zs.map V.str))) := (skp (same_upd hd)).trans (skp (same_upd hso))
    have oso := (PP.same (same_upd (o := .lst [.str "", .str "unborne"]) hd)).off hso
    have hs1 : upd (upd H d (.lst [.str "", .str "unborne"])) so (.lst ([.str "", .str "unborne"] ++ zs.map V.str)) so = some (.lst ((Str.ofString "" :: Str.ofString "unborne" :: zs).map V.str)) := upd_same
    generalize upd (upd H d (.lst [.str "", .str "unborne"])) so (.lst ([.str "", .str "unborne"] ++ zs.map V.str)) = H1 at P1 k1 hs1 hlw ⊢
    have olw := P1.off hlw
    have hlw0 := k1.free hlw olw
    refine ⟨_, rfl, a, c, 5, rfl, P1.upd olw, by omega, by decide, by decide, fun H2 r r0 r1 P2 k2 => ⟨r, rfl, by omega, by omega, for_range (lo := 0) (n := r.toNat) (fun i σ H' => ∃ (wa : List Addr) (ws : List (Str × Str)) (y : Option V),
      σ = [some (.ref a.p), some (.ref l), some (.ref so), some (.ref lw), y] ∧ Pool H' a (c + 1 + i * 2) ∧ Kp a H H' ∧ H' so = some (.lst ((Str.ofString "" :: Str.ofString "unborne" :: zs).map V.str)) ∧ H' lw = some (.lst (wa.map V.ref)) ∧
      Each (fun b (x : Str × Str) => SqT K H' b [.str x.1, .str x.2]) wa ws ∧ ws.length = i ∧ (∀ x ∈ ws, (x.1 = Str.ofString "" ∨ GoodName x.1) ∧ GoodName x.2))
      ⟨[], [], none, rfl, P2, (k1.mut hlw0).trans k2, k2 _ _ ((same_upd hlw) _ _ hs1) oso, k2 _ _ upd_same olw, .nil, rfl, fun _ h => absurd h List.not_mem_nil⟩ ?_ ?_⟩⟩
    · rintro i σ H3 hi ⟨wa, ws, y, rfl, P3, k3, hs3, hw3, e3, l3, g3⟩
      have i4 : i < 4 := by omega
      have hlen : ((Str.ofString "" :: Str.ofString "unborne" :: zs).map V.str).length = zs.length + 2 := by rw [List.length_map] <;> rfl
      have all : ∀ (j : Nat), j < zs.length + 2 → ∃ z, ((Str.ofString "" :: Str.ofString "unborne" :: zs).map V.str)[j]? = some (.str z) ∧ (z = Str.ofString "" ∨ GoodName z) ∧ (0 < j → GoodName z) := by
        intro j hj
        match j, hj with
        | 0, _ => exact ⟨_, rfl, .inl rfl, fun h => absurd h (Nat.lt_irrefl _)⟩
        | 1, _ => exact ⟨_, rfl, .inr good_unborne, fun _ => good_unborne⟩
        | j + 2, hj =>
          have hj' : j < zs.length := by omega
          have g := gz zs[j] (List.getElem_mem hj')
          exact ⟨zs[j], get_map (f := V.str) (xs := Str.ofString "" :: Str.ofString "unborne" :: zs) (by show zs[j]? = _; exact List.getElem?_eq_getElem hj'), .inr g, fun _ => g⟩
      refine ⟨_, rfl, .inl ⟨rfl, _, SqL.of hw3⟩, _, rfl, _, rfl, _, rfl, so, _, rfl, .inl (SqL.of hs3), a, _, ((zs.length + 2 : Nat) : Int), by rw [hlen] <;> rfl, P3, by omega, by omega, by omega, fun H4 r4 r40 r41 P4 k4 => ?_⟩
      obtain ⟨j, rfl⟩ : ∃ j : Nat, r4 = (j : Int) := ⟨r4.toNat, by omega⟩
      obtain ⟨z1, hz1, gz1, _⟩ := all j (by omega)
      have hs4 := k4 _ _ hs3 oso
      refine ⟨so, _, _, _, rfl, rfl, SqL.of hs4, atI_nat hz1, _, rfl, _, rfl, _, rfl, so, _, rfl, .inl (SqL.of hs4), _, _, rfl, rfl, a, _, ((zs.length + 1 : Nat) : Int), ?_, P4, by omega, by omega, by omega, fun H5 r5 r50 r51 P5 k5 => ?_⟩
      · rw [hlen]
        show [V.ref a.p, V.int (((zs.length + 2 : Nat) : Int) - 1)] ++ [] = _
        rw [show ((zs.length + 2 : Nat) : Int) - 1 = ((zs.length + 1 : Nat) : Int) by omega]
        rfl
      · obtain ⟨j2, rfl⟩ : ∃ j : Nat, r5 = (j : Int) := ⟨r5.toNat, by omega⟩
        obtain ⟨z2, hz2, _, gz2⟩ := all (1 + j2) (by omega)
        have hs5 := k5 _ _ hs4 oso
        have hw5 := k5 _ _ (k4 _ _ hw3 olw) olw
        refine ⟨_, _, rfl, rfl, so, _, _, _, rfl, rfl, SqL.of hs5, at_of (j := 1 + j2) (by omega) hz2, by show 2 ≤ sizeLine; decide, fun t ht => ?_⟩
        have s6 : Same H5 (upd H5 t (.tup [.str z1, .str z2])) := same_upd ht
        have wl := e3.len
        refine ⟨lw, _, _, rfl, rfl, s6 _ _ hw5, szLt (by rw [List.length_map]; omega), ?_⟩
        have tw : t ≠ lw := (ne_of_none hw5 ht).symm
        have swl : so ≠ lw := fun e => by
          rw [← e, hs5] at hw5
          have := HO.lst.inj (Option.some.inj hw5)
          cases wa <;> cases this
        have e36 := (((P3.imm k4).trans (P4.imm k5)).trans (simm s6)).trans (Imm.list (o := .lst (wa.map V.ref ++ [.ref t])) (s6 _ _ hw5))
        refine ⟨wa ++ [t], ws ++ [(z1, z2)], some (.int (0 + i)), rfl, ?_, (((k3.trans k4).trans k5).trans (skp s6)).mut hlw0, ?_, ?_, (e3.imp fun _ _ h => e36.sq h).snoc (a := t) (x := (z1, z2)) (SqT.of (by rw [upd_ne tw, upd_same])), ?_, ?_⟩
        · rw [show c + 1 + (i + 1) * 2 = c + 1 + i * 2 + 1 + 1 by omega]
          exact (P5.same s6).upd olw
        · rw [upd_ne swl]
          exact s6 _ _ hs5
        · rw [upd_same, List.map_append]
          rfl
        · rw [List.length_append, l3]
          rfl
        · intro x hx
          rcases List.mem_append.mp hx with hx | hx
          · exact g3 x hx
          · have : x = (z1, z2) := by simpa using hx
            rw [this]
            exact ⟨gz1, gz2 (by omega)⟩
    · rintro σ H3 ⟨wa, ws, y, rfl, P3, k3, hs3, hw3, e3, l3, g3⟩
      refine ⟨_, rfl, lw, _, rfl, .inl ⟨SqL.of hw3, fun t ht => ?_⟩⟩
      exact q _ t ws ((P3.same (same_upd ht)).mono (by omega)) (k3.trans (skp (same_upd ht))) ⟨wa, SqT.of upd_same, e3.imp fun _ _ h => (Imm.new ht).sq h⟩ (by omega) g3
def spAlike (K : PySem.W.Frag) : Sp := fun vs H Q _ => ∃ (f d : Addr) (ns : List Int), vs = [.ref f, .ref d] ∧ SqT K H f (ns.map V.int) ∧ SqL K H d (ns.map V.int) ∧ ns.length ≤ 1000 ∧ Q (.bl true) H
theorem ok_alike {f : Addr} {fd : FuncData} (F : Fun K "_law_alike" "_law_alike" s_law_alike f fd) (T : Bi mg) : FnOk P w K mg base CX0 1 f fd ["_law_found", "_law_due"] (spAlike K) := by
  refine F.ok sc_law_alike (fun vs H Q E h => ?_) (fun cdv A outer s H vs Q E hr h => ?_)
  · obtain ⟨f, d, ns, rfl, _⟩ := h
    rfl
  · obtain ⟨f, d, ns, rfl, hf, hd, ln, q⟩ := h
    refine ⟨_, (pss_cons (ps_if (PW.pt (pw_or (pt_not (pt_val (pe_callB call_isi (by rfl) T.isinstance (by decide +kernel) (pa_cons (pv 0) (pa_cons (pe_bltn (v := .ty "tuple") (u := .type "tuple") (by rfl) T.tuple (by decide +kernel) rfl) pa_nil))))) (pw_or1 (pt_cmpR op_ne (pe_callB call_len_seq (by rfl) T.len PySem.boot_len (pa_cons (pv 0) pa_nil)) (pe_callB call_len_seq (by rfl) T.len PySem.boot_len (pa_cons (pv 1) pa_nil)) (nomark _)))))
        (pss_one (ps_ret pe_bl))
        pss_nil)
      (pss_cons (ps_for PassesOwn.never rfl (pi_range1 (by rfl) T.range (pa_cons (pe_callB call_len_seq (by rfl) T.len PySem.boot_len (pa_cons (pv 1) pa_nil)) pa_nil)) (pg_name (i := 2) sc_law_alike.nd rfl (.inl rfl))
        (pss_one (ps_if (PW.pt (pw_or (pt_not (pt_val (pe_callB call_isi (by rfl) T.isinstance (by decide +kernel) (pa_cons (pe_ix ix_tup (pv 0) (pv 2) (fun _ _ => rfl)) (pa_cons (pe_bltn (v := .ty "int") (u := .type "int") (by rfl) T.int (by decide +kernel) rfl) pa_nil))))) (pw_or (pt_val (pe_callB call_isi (by rfl) T.isinstance (by decide +kernel) (pa_cons (pe_ix ix_tup (pv 0) (pv 2) (fun _ _ => rfl)) (pa_cons (pe_bltn (v := .ty "bool") (u := .type "bool") (by rfl) T.bool (by decide +kernel) rfl) pa_nil)))) (pw_or1 (pt_cmpR op_ne (pe_ix ix_tup (pv 0) (pv 2) (fun _ _ => rfl)) (pe_ix ix_list (pv 1) (pv 2) (fun _ _ => rfl)) (nomark _))))))
          (pss_one (ps_ret pe_bl))
          pss_nil)))
      (pss_one (ps_ret pe_bl)))), ?_⟩
    refine ⟨_, rfl, _, _, _, _, true, rfl, .ty "tuple", ty_sqt hf, kit_ty (by decide +kernel), _, rfl, iteF ⟨_, rfl, f, _, rfl, .inr hf, _, rfl, d, _, rfl, .inl hd, rfl, _, rfl, ?_⟩⟩
    rw [decide_eq_true rfl]
    refine iteF ⟨_, rfl, d, _, rfl, .inl hd, _, rfl, by omega, by rw [List.length_map]; omega, for_range (lo := 0) (n := (((ns.map V.int).length : Nat) : Int).toNat) (fun i σ H' => ∃ y, σ = [some (.ref f), some (.ref d), y] ∧ H' = H) ⟨_, rfl, rfl⟩ ?_ ?_⟩
    · rintro i σ H1 hi ⟨y, rfl, rfl⟩
      rw [Int.toNat_natCast, List.length_map] at hi
      have g : (ns.map V.int)[i]? = some (.int ns[i]) := get_map (List.getElem?_eq_getElem hi)
      refine ⟨_, rfl, _, rfl, f, _, _, _, rfl, rfl, hf, at_of (Int.zero_add _) g, _, _, _, _, true, rfl, .ty "int", .base (.int _), kit_ty (by decide +kernel), _, rfl, iteF ?_⟩
      refine ⟨_, rfl, _, rfl, f, _, _, _, rfl, rfl, hf, at_of (Int.zero_add _) g, _, _, _, _, false, rfl, .ty "bool", .base (.int _), kit_ty (by decide +kernel), _, rfl, iteF ?_⟩
      refine ⟨_, rfl, _, rfl, f, _, _, _, rfl, rfl, hf, at_of (Int.zero_add _) g, _, rfl, _, rfl, d, _, _, _, rfl, rfl, hd, at_of (Int.zero_add _) g, rfl, _, rfl, ?_⟩
      rw [decide_eq_true rfl]
      exact iteF ⟨_, rfl, rfl⟩
    · rintro σ H1 ⟨y, rfl, rfl⟩
      exact q
def spLaw (K : PySem.W.Frag) : Sp := fun vs H Q _ => ∃ (l : Addr) (ns : List Int), vs = [.ref l] ∧ SqL K H l (ns.map V.int) ∧ ns.length ≤ 63 ∧ ∀ H', Q (.bl true) H'
theorem ok_law {f : Addr} {fd : FuncData} (F : Fun K "law" "law" slaw f fd) (T : Bi mg) (W : Wg K mg) (c_law_pool : Cal P w K mg base 1 "_law_pool" ["_law_script"] (spPool K)) (c_law_draw : Cal P w K mg base 1 "_law_draw" ["_law_pool_here", "_law_many"] spDraw) (c_law_names : Cal P w K mg base 3 "_law_names" ["_law_pool_here", "_law_many"] spLNames)
    (c_law_wishes_by : Cal P w K mg base 2 "_law_wishes_by" ["_law_pool_here", "_law_names_here"] (spWB K)) (c_law_great_machine : Cal P w K mg base 2 "_law_great_machine" ["_law_pool_here", "_law_names_here"] (spGreat K)) (ccheck : Cal P w K mg base 5 "check" ["thing"] (spMachine K))
    (ccheck_wishes : Cal P w K mg base 2 "check_wishes" ["thing"] (spWishes K)) (cbearers : Cal P w K mg base 2 "bearers" ["machine", "name"] (spBearers K)) (c_law_alike : Cal P w K mg base 1 "_law_alike" ["_law_found", "_law_due"] (spAlike K)) :
    FnOk P w K mg base CX0 6 f fd ["_law_script"] (spLaw K) := by
  refine F.ok sclaw (fun vs H Q E h => ?_) (fun cdv A outer s H vs Q E hr h => ?_)
  · obtain ⟨l, ns, rfl, _⟩ := h
    rfl
  · obtain ⟨l, ns, rfl, hS, hlen, q⟩ := h
    refine ⟨_, (pss_cons (ps_set (i := 1) sclaw.nd rfl (.inl rfl) (pe_call c_law_pool.G (hr.mono (by decide)) (by rfl) c_law_pool.g c_law_pool.kp c_law_pool.b .nil pass0 (pa_cons (pv 0) pa_nil)))
      (pss_cons (ps_set (i := 2) sclaw.nd rfl (.inl rfl) (pe_call c_law_names.G (hr.mono (by decide)) (by rfl) c_law_names.g c_law_names.kp c_law_names.b .nil pass0 (pa_cons (pv 1) (pa_cons (pe_op op_add pe_int (pe_call c_law_draw.G (hr.mono (by decide)) (by rfl) c_law_draw.g c_law_draw.kp c_law_draw.b .nil pass0 (pa_cons (pv 1) (pa_cons pe_int pa_nil)))) pa_nil))))
      (pss_cons (ps_set (i := 3) sclaw.nd rfl (.inl rfl) (pe_call c_law_wishes_by.G (hr.mono (by decide)) (by rfl) c_law_wishes_by.g c_law_wishes_by.kp c_law_wishes_by.b .nil pass0 (pa_cons (pv 1) (pa_cons (pv 2) pa_nil))))
      (pss_cons (ps_set (i := 4) sclaw.nd rfl (.inr rfl) (pe_call c_law_great_machine.G (hr.mono (by decide)) (by rfl) c_law_great_machine.g c_law_great_machine.kp c_law_great_machine.b .nil pass0 (pa_cons (pv 1) (pa_cons (pv 2) pa_nil))))
      (pss_cons (ps_if (PW.pt (pw_or (pt_cmpR op_isnot_bl (pe_call ccheck.G hr (by rfl) ccheck.g ccheck.kp ccheck.b .nil pass0 (pa_cons (pv 4) pa_nil)) pe_bl (nomark _)) (pw_or (pt_cmpR op_isnot_bl (pe_call ccheck_wishes.G (hr.mono (by decide)) (by rfl) ccheck_wishes.g ccheck_wishes.kp ccheck_wishes.b .nil pass0 (pa_cons (pv 3) pa_nil)) pe_bl (nomark _)) (pw_or1 (pt_cmpR op_isnot_bl (pe_call ccheck_wishes.G (hr.mono (by decide)) (by rfl) ccheck_wishes.g ccheck_wishes.kp ccheck_wishes.b .nil pass0 (pa_cons (pe_glob rfl W.gFREE W.rFREE) pa_nil)) pe_bl (nomark _))))))
        (pss_one (ps_ret pe_bl))
        pss_nil)
      (pss_cons (ps_if (PW.pt (pw_or (pt_not (pt_val (pe_callB call_isi (by rfl) T.isinstance (by decide +kernel) (pa_cons (pe_glob rfl W.gFREE W.rFREE) (pa_cons (pe_bltn (v := .ty "tuple") (u := .type "tuple") (by rfl) T.tuple (by decide +kernel) rfl) pa_nil))))) (pw_or (pt_cmpR op_gt (pe_callB call_len_seq (by rfl) T.len PySem.boot_len (pa_cons (pe_glob rfl W.gFREE W.rFREE) pa_nil)) pe_int (nomark _)) (pw_or1 (pt_not (pt_val (pe_call c_law_alike.G (hr.mono (by decide)) (by rfl) c_law_alike.g c_law_alike.kp c_law_alike.b .nil pass0 (pa_cons (pe_tup (pa_cons (pe_glob rfl W.gMOST W.rMOST) (pa_cons (pe_glob rfl W.gBOOK W.rBOOK) pa_nil))) (pa_cons (pe_lst (pa_cons pe_int (pa_cons pe_int pa_nil))) pa_nil)))))))))
        (pss_one (ps_ret pe_bl))
        pss_nil)
      (pss_cons (ps_for PassesOwn.never rfl (pi_list (pe_op op_cat (pv 2) (pe_lst (pa_cons pe_str (pa_cons pe_str pa_nil))))) (pg_name (i := 5) sclaw.nd rfl (.inr rfl))
        (pss_cons (ps_setLc (i := 6) (own := [("_law_k", 7)]) (g := gName 7) (by rfl) sclaw.nd rfl rfl (sw_true rfl rfl rfl (by decide +kernel)) (pi_range1 (by rfl) T.range (pa_cons (pe_callB call_len_seq (by rfl) T.len PySem.boot_len (pa_cons (pe_ix ix_tup (pv 4) pe_int (fun _ _ => rfl)) pa_nil)) pa_nil)) (blkOk_by (own := [("_law_k", 7)]) (N := ["_law_script", "_law_pool_here", "_law_names_here", "_law_wishes", "_law_machine", "_law_name_here", "_law_due", "_law_k"]) (sc := defScope slaw) (by decide +kernel)) (fun _ _ _ _ _ => (pg_name (i := 7) sclaw.nd rfl (.inl rfl))) (fun _ _ _ _ _ => (pts_one (PW.pt (pw_or (pt_cmpR op_eq (pv 5) pe_str (nomark _)) (pw_or1 (pt_cmpR (inS K) (pv 5) (pe_ix (ixT K) (pe_ix (ixT K) (pv 4) pe_int (fun _ _ => rfl)) (pv 7) (fun _ _ => rfl)) (by rfl))))))) (fun _ _ _ _ _ => (pv 7)))
        (pss_one (ps_if (pt_not (pt_val (pe_call c_law_alike.G (hr.mono (by decide)) (by rfl) c_law_alike.g c_law_alike.kp c_law_alike.b .nil pass0 (pa_cons (pe_call cbearers.G (hr.mono (by decide)) (by rfl) cbearers.g cbearers.kp cbearers.b .nil pass0 (pa_cons (pv 4) (pa_cons (pv 5) pa_nil))) (pa_cons (pv 6) pa_nil)))))
          (pss_one (ps_ret pe_bl))
          pss_nil))))
      (pss_one (ps_ret pe_bl))))))))), ?_⟩
    refine ⟨_, rfl, l, ns, rfl, hS, hlen, fun H1 a s1 P1 => ?_⟩
    -- names
    refine ⟨_, rfl, _, rfl, a, 0, 8, rfl, P1, by omega, by decide, by decide, fun H2 r r0 r1 P2 k2 => ⟨_, _, rfl, rfl, a, 1, (1 + r).toNat, ?_, P2, by omega, by omega, fun H3 ln zs P3 k3 hl3 ol3 nz gz lz => ?_⟩⟩
    · rw [show (((1 + r).toNat : Nat) : Int) = 1 + r by omega]
      rfl
    · -- wishes, machine
      refine ⟨_, rfl, _, rfl, a, _, ln, zs, rfl, P3, by omega, hl3, ol3, gz, by omega, fun H4 wt ws P4 k4 WA lw gw => ?_⟩
      have hl4 := k4 _ _ hl3 ol3
      refine ⟨_, rfl, _, rfl, a, _, ln, zs, rfl, P4, by omega, hl4, ol3, nz, gz, by omega, fun H5 m steps marks P5 k5 MA GM => ?_⟩
      have hl5 := k5 _ _ hl4 ol3
      have WA5 := WA.imm (P4.imm k5)
      -- the checks
      refine ⟨_, rfl, m, steps, marks, rfl, MA, GM, _, _, rfl, rfl, _, rfl, iteF ⟨_, rfl, wt, ws, rfl, WA5, lw, gw, _, _, rfl, rfl, _, rfl, iteF ⟨W.aF, [], rfl, ⟨[], W.sF _, .nil⟩, by decide, fun _ h => absurd h List.not_mem_nil, _, _, rfl, rfl, _, rfl, iteF ?_⟩⟩⟩
      refine ⟨_, _, _, _, true, rfl, .ty "tuple", ty_sqt (W.sF _), kit_ty (by decide +kernel), _, rfl, iteF ⟨W.aF, [], rfl, .inr (W.sF _), _, _, rfl, rfl, _, rfl, iteF ⟨by show 2 ≤ sizeLine; decide, fun t ht => ⟨by show 2 ≤ sizeLine; decide, fun d hd => ⟨t, d, [40, 300], rfl, SqT.of ?_, SqL.of upd_same, by decide, true, rfl, iteF ?_⟩⟩⟩⟩⟩
      · rw [upd_ne (ne_of_none upd_same hd), upd_same]
        rfl
      · have s6 := (same_upd (o := .tup [.int 40, .int 300]) ht).trans (same_upd (o := .lst [.int 40, .int 300]) hd)
        generalize upd (upd H5 t (.tup [.int 40, .int 300])) d (.lst [.int 40, .int 300]) = H6 at s6 ⊢
        have hl6 := s6 _ _ hl5
        -- for name in names + ["", "strange"]
        refine ⟨_, rfl, by show 2 ≤ sizeLine; decide, fun d2 hd2 => ⟨ln, d2, _, _, rfl, rfl, (same_upd hd2) _ _ hl6, upd_same, szOk (by rw [List.length_map]; show zs.length + 2 ≤ _; omega), fun nl hnl => ?_⟩⟩
        have s7 := (s6.trans (same_upd (o := .lst [.str "", .str "strange"]) hd2)).trans (same_upd (o := .lst (zs.map V.str ++ [.str "", .str "strange"])) hnl)
        have hnl7 : upd (upd H6 d2 (.lst [.str "", .str "strange"])) nl (.lst (zs.map V.str ++ [.str "", .str "strange"])) nl = some (.lst ((zs ++ [Str.ofString "", Str.ofString "strange"]).map V.str)) := by
          rw [upd_same, List.map_append]
          rfl
        generalize upd (upd H6 d2 (.lst [.str "", .str "strange"])) nl (.lst (zs.map V.str ++ [.str "", .str "strange"])) = H7 at s7 hnl7 ⊢
        refine ⟨nl, rfl, ⟨_, SqL.of hnl7⟩, for_list (K := K) (a := nl) (xs := (zs ++ [Str.ofString "", Str.ofString "strange"]).map V.str) (fun i σ H' => ∃ y5 y6, σ = [some (.ref l), some (.ref a.p), some (.ref ln), some (.ref wt), some (.ref m), y5, y6, none] ∧ Same H7 H')
          ⟨_, _, rfl, Same.refl _⟩ (fun i σ H' _ ⟨_, _, _, e⟩ => e.seq (SqL.of hnl7)) ?_ ?_⟩
        · rintro i x σ H8 hi ⟨y5, y6, rfl, s8⟩
          obtain ⟨z, hz, rfl⟩ := map_get hi
          have MA8 := (MA.imm (simm s7)).imm (simm s8)
          obtain ⟨sa, ka, a1, a2, h1, h2, h3, h4, h5⟩ := MA8.ex
          have l5 := h5.len
          have g1 := GM.len
          have g3 := GM.hi
          refine ⟨_, rfl, m, _, 1, .ref ka, rfl, rfl, h1, at_of (j := 1) rfl rfl, ka, _, rfl, .inr h3, _, rfl, by omega, by rw [List.length_map]; omega, fun D hD => ?_⟩
          rw [List.length_map, l5, Int.toNat_natCast]
          refine lc_rangeS (fun i acc => acc = (bearersOf marks z i).map V.int) hD (by omega) rfl (fun _ => rfl) ?_ ?_
          · intro j H9 acc hj s9 hacc _ N1 N2 k1 k2
            subst hacc
            have hrow : marks[j]? = some (marks.getD j []) := by rw [List.getD_eq_getElem?_getD, List.getElem?_eq_getElem hj] <;> rfl
            obtain ⟨b, hb, hrb⟩ := h5.getx hrow
            have yes : (decide (z = Str.ofString "") || decide (z ∈ marks.getD j [])) = true → N1 (.int (0 + j)) H9 := fun e => k1 _ _ (Same.refl _) (by rw [bearersOf_yes e, List.map_append, Int.zero_add] <;> rfl)
            refine ⟨_, rfl, rfl, _, rfl, ite2 (fun e => ?_) (fun e => ?_)⟩
            · rw [dec_str] at e
              exact iteT ⟨_, rfl, yes (by rw [e]; rfl)⟩
            · rw [dec_str] at e
              refine ⟨_, rfl, _, rfl, m, _, 1, .ref ka, rfl, rfl, ssqt s9 h1, at_of (j := 1) rfl rfl, _, rfl, ka, _, _, .ref b, rfl, rfl, ssqt s9 h3, at_of (Int.zero_add _) (get_map hb), b, _, rfl, .inr (ssqt s9 hrb), rfl, flat_str _, _, rfl, ?_⟩
              rw [inV_str]
              refine ite2 (fun e2 => ?_) (fun e2 => ?_)
              · exact ⟨_, rfl, yes (by rw [show decide (z ∈ marks.getD j []) = true from e2, Bool.or_true])⟩
              · refine k2 _ (Same.refl _) ?_
                rw [bearersOf_no (by
                  have e1' : decide (z = Str.ofString "") = false := by simpa using e
                  have e2' : decide (z ∈ marks.getD j []) = false := by simpa using e2
                  rw [e1', e2']
                  rfl)]
          · intro H9 acc s9 hD9 _ hacc
            subst hacc
            refine ⟨_, rfl, _, rfl, m, steps, marks, z, rfl, MA8.imm (simm s9), g1, by omega, fun H10 rr s10 hrr => ⟨_, rfl, rr, D, _, rfl, SqT.of hrr, SqL.of (s10 _ _ hD9), ?_, true, rfl, iteF ⟨_, _, rfl, (s8.trans s9).trans s10⟩⟩⟩
            unfold bearersOf
            rw [List.length_map]
            have := List.length_filter_le (fun j => decide (z = Str.ofString "") || decide (z ∈ marks.getD j [])) (List.range marks.length)
            rw [List.length_range] at this
            omega
        · rintro σ H8 ⟨y5, y6, rfl, s8⟩
          exact q _
end

/-! ### what the top has written; the law's own head -/
theorem all_mk {l : PySem.W.OpenLaw} {w : World} {K : PySem.W.Frag} {h : Heap} {mg : Str → Option Value} {fa f1 f2 f3 f4 f5 f6 f7 f8 f9 f10 f11 f12 f13 f14 f15 f16 f17 f18 f19 : Addr} (X : K.In h) (G : h.Ns mainGlobals mg) (hfa : mg "law" = some (.ref fa))
    {od1 an1 od2 an2 od3 an3 od4 an4 od5 an5 od6 an6 od7 an7 od8 an8 od9 an9 od10 an10 od11 an11 od12 an12 od13 an13 od14 an14 od15 an15 od16 an16 od17 an17 od18 an18 od19 an19 : Option Addr} {sl1 sl2 sl3 sl4 sl5 sl6 sl7 sl8 sl9 sl10 sl11 sl12 sl13 sl14 sl15 sl16 sl17 sl18 sl19 : Array (Option Value)} {oc1 kV1 dc1 pm1 cd1 ct1 oc2 kV2 dc2 pm2 cd2 ct2 oc3 kV3 dc3 pm3 cd3 ct3 oc4 kV4 dc4 pm4 cd4 ct4 oc5 kV5 dc5 pm5 cd5 ct5 oc6 kV6 dc6 pm6 cd6 ct6 oc7 kV7 dc7 pm7 cd7 ct7 oc8 kV8 dc8 pm8 cd8 ct8 oc9 kV9 dc9 pm9 cd9 ct9 oc10 kV10 dc10 pm10 cd10 ct10 oc11 kV11 dc11 pm11 cd11 ct11 oc12 kV12 dc12 pm12 cd12 ct12 oc13 kV13 dc13 pm13 cd13 ct13 oc14 kV14 dc14 pm14 cd14 ct14 oc15 kV15 dc15 pm15 cd15 ct15 oc16 kV16 dc16 pm16 cd16 ct16 oc17 kV17 dc17 pm17 cd17 ct17 oc18 kV18 dc18 pm18 cd18 ct18 oc19 kV19 dc19 pm19 cd19 ct19 : Value}
    (a1 : PySem.W.nsIn K mainGlobals "is_whole" = some (some (.ref f1))) (l1 : K.lookup f1 = some ⟨oc1, od1, .func (PySem.W.fnOf "is_whole" "is_whole" (defArgs sis_whole) (defBody sis_whole) (defScope sis_whole) .none kV1 dc1 pm1 an1 cd1 ct1), sl1⟩) (c1 : PySem.W.codeIn K cd1 "is_whole" = true) (k1 : PySem.W.keepIn K (.ref f1) = true)
    (a2 : PySem.W.nsIn K mainGlobals "is_number" = some (some (.ref f2))) (l2 : K.lookup f2 = some ⟨oc2, od2, .func (PySem.W.fnOf "is_number" "is_number" (defArgs sis_number) (defBody sis_number) (defScope sis_number) .none kV2 dc2 pm2 an2 cd2 ct2), sl2⟩) (c2 : PySem.W.codeIn K cd2 "is_number" = true) (k2 : PySem.W.keepIn K (.ref f2) = true)
    (a3 : PySem.W.nsIn K mainGlobals "is_row" = some (some (.ref f3))) (l3 : K.lookup f3 = some ⟨oc3, od3, .func (PySem.W.fnOf "is_row" "is_row" (defArgs sis_row) (defBody sis_row) (defScope sis_row) .none kV3 dc3 pm3 an3 cd3 ct3), sl3⟩) (c3 : PySem.W.codeIn K cd3 "is_row" = true) (k3 : PySem.W.keepIn K (.ref f3) = true)
    (a4 : PySem.W.nsIn K mainGlobals "is_name" = some (some (.ref f4))) (l4 : K.lookup f4 = some ⟨oc4, od4, .func (PySem.W.fnOf "is_name" "is_name" (defArgs sis_name) (defBody sis_name) (defScope sis_name) .none kV4 dc4 pm4 an4 cd4 ct4), sl4⟩) (c4 : PySem.W.codeIn K cd4 "is_name" = true) (k4 : PySem.W.keepIn K (.ref f4) = true)
    (a5 : PySem.W.nsIn K mainGlobals "is_set" = some (some (.ref f5))) (l5 : K.lookup f5 = some ⟨oc5, od5, .func (PySem.W.fnOf "is_set" "is_set" (defArgs sis_set) (defBody sis_set) (defScope sis_set) .none kV5 dc5 pm5 an5 cd5 ct5), sl5⟩) (c5 : PySem.W.codeIn K cd5 "is_set" = true) (k5 : PySem.W.keepIn K (.ref f5) = true)
    (a6 : PySem.W.nsIn K mainGlobals "are_names" = some (some (.ref f6))) (l6 : K.lookup f6 = some ⟨oc6, od6, .func (PySem.W.fnOf "are_names" "are_names" (defArgs sare_names) (defBody sare_names) (defScope sare_names) .none kV6 dc6 pm6 an6 cd6 ct6), sl6⟩) (c6 : PySem.W.codeIn K cd6 "are_names" = true) (k6 : PySem.W.keepIn K (.ref f6) = true)
    (a7 : PySem.W.nsIn K mainGlobals "is_machine" = some (some (.ref f7))) (l7 : K.lookup f7 = some ⟨oc7, od7, .func (PySem.W.fnOf "is_machine" "is_machine" (defArgs sis_machine) (defBody sis_machine) (defScope sis_machine) .none kV7 dc7 pm7 an7 cd7 ct7), sl7⟩) (c7 : PySem.W.codeIn K cd7 "is_machine" = true) (k7 : PySem.W.keepIn K (.ref f7) = true)
    (a8 : PySem.W.nsIn K mainGlobals "check" = some (some (.ref f8))) (l8 : K.lookup f8 = some ⟨oc8, od8, .func (PySem.W.fnOf "check" "check" (defArgs scheck) (defBody scheck) (defScope scheck) .none kV8 dc8 pm8 an8 cd8 ct8), sl8⟩) (c8 : PySem.W.codeIn K cd8 "check" = true) (k8 : PySem.W.keepIn K (.ref f8) = true)
    (a9 : PySem.W.nsIn K mainGlobals "check_wishes" = some (some (.ref f9))) (l9 : K.lookup f9 = some ⟨oc9, od9, .func (PySem.W.fnOf "check_wishes" "check_wishes" (defArgs scheck_wishes) (defBody scheck_wishes) (defScope scheck_wishes) .none kV9 dc9 pm9 an9 cd9 ct9), sl9⟩) (c9 : PySem.W.codeIn K cd9 "check_wishes" = true) (k9 : PySem.W.keepIn K (.ref f9) = true)
    (a10 : PySem.W.nsIn K mainGlobals "bears" = some (some (.ref f10))) (l10 : K.lookup f10 = some ⟨oc10, od10, .func (PySem.W.fnOf "bears" "bears" (defArgs sbears) (defBody sbears) (defScope sbears) .none kV10 dc10 pm10 an10 cd10 ct10), sl10⟩) (c10 : PySem.W.codeIn K cd10 "bears" = true) (k10 : PySem.W.keepIn K (.ref f10) = true)
    (a11 : PySem.W.nsIn K mainGlobals "bearers" = some (some (.ref f11))) (l11 : K.lookup f11 = some ⟨oc11, od11, .func (PySem.W.fnOf "bearers" "bearers" (defArgs sbearers) (defBody sbearers) (defScope sbearers) .none kV11 dc11 pm11 an11 cd11 ct11), sl11⟩) (c11 : PySem.W.codeIn K cd11 "bearers" = true) (k11 : PySem.W.keepIn K (.ref f11) = true)
    (a12 : PySem.W.nsIn K mainGlobals "_law_pool" = some (some (.ref f12))) (l12 : K.lookup f12 = some ⟨oc12, od12, .func (PySem.W.fnOf "_law_pool" "_law_pool" (defArgs s_law_pool) (defBody s_law_pool) (defScope s_law_pool) .none kV12 dc12 pm12 an12 cd12 ct12), sl12⟩) (c12 : PySem.W.codeIn K cd12 "_law_pool" = true) (k12 : PySem.W.keepIn K (.ref f12) = true)
    (a13 : PySem.W.nsIn K mainGlobals "_law_draw" = some (some (.ref f13))) (l13 : K.lookup f13 = some ⟨oc13, od13, .func (PySem.W.fnOf "_law_draw" "_law_draw" (defArgs s_law_draw) (defBody s_law_draw) (defScope s_law_draw) .none kV13 dc13 pm13 an13 cd13 ct13), sl13⟩) (c13 : PySem.W.codeIn K cd13 "_law_draw" = true) (k13 : PySem.W.keepIn K (.ref f13) = true)
    (a14 : PySem.W.nsIn K mainGlobals "_law_name" = some (some (.ref f14))) (l14 : K.lookup f14 = some ⟨oc14, od14, .func (PySem.W.fnOf "_law_name" "_law_name" (defArgs s_law_name) (defBody s_law_name) (defScope s_law_name) .none kV14 dc14 pm14 an14 cd14 ct14), sl14⟩) (c14 : PySem.W.codeIn K cd14 "_law_name" = true) (k14 : PySem.W.keepIn K (.ref f14) = true)
    (a15 : PySem.W.nsIn K mainGlobals "_law_names" = some (some (.ref f15))) (l15 : K.lookup f15 = some ⟨oc15, od15, .func (PySem.W.fnOf "_law_names" "_law_names" (defArgs s_law_names) (defBody s_law_names) (defScope s_law_names) .none kV15 dc15 pm15 an15 cd15 ct15), sl15⟩) (c15 : PySem.W.codeIn K cd15 "_law_names" = true) (k15 : PySem.W.keepIn K (.ref f15) = true)
    (a16 : PySem.W.nsIn K mainGlobals "_law_great_machine" = some (some (.ref f16))) (l16 : K.lookup f16 = some ⟨oc16, od16, .func (PySem.W.fnOf "_law_great_machine" "_law_great_machine" (defArgs s_law_great_machine) (defBody s_law_great_machine) (defScope s_law_great_machine) .none kV16 dc16 pm16 an16 cd16 ct16), sl16⟩) (c16 : PySem.W.codeIn K cd16 "_law_great_machine" = true) (k16 : PySem.W.keepIn K (.ref f16) = true)
    (a17 : PySem.W.nsIn K mainGlobals "_law_wishes_by" = some (some (.ref f17))) (l17 : K.lookup f17 = some ⟨oc17, od17, .func (PySem.W.fnOf "_law_wishes_by" "_law_wishes_by" (defArgs s_law_wishes_by) (defBody s_law_wishes_by) (defScope s_law_wishes_by) .none kV17 dc17 pm17 an17 cd17 ct17), sl17⟩) (c17 : PySem.W.codeIn K cd17 "_law_wishes_by" = true) (k17 : PySem.W.keepIn K (.ref f17) = true)
    (a18 : PySem.W.nsIn K mainGlobals "_law_alike" = some (some (.ref f18))) (l18 : K.lookup f18 = some ⟨oc18, od18, .func (PySem.W.fnOf "_law_alike" "_law_alike" (defArgs s_law_alike) (defBody s_law_alike) (defScope s_law_alike) .none kV18 dc18 pm18 an18 cd18 ct18), sl18⟩) (c18 : PySem.W.codeIn K cd18 "_law_alike" = true) (k18 : PySem.W.keepIn K (.ref f18) = true)
    (a19 : PySem.W.nsIn K mainGlobals "law" = some (some (.ref f19))) (l19 : K.lookup f19 = some ⟨oc19, od19, .func (PySem.W.fnOf "law" "law" (defArgs slaw) (defBody slaw) (defScope slaw) .none kV19 dc19 pm19 an19 cd19 ct19), sl19⟩) (c19 : PySem.W.codeIn K cd19 "law" = true) (k19 : PySem.W.keepIn K (.ref f19) = true)
    (z_len : PySem.W.nsIn K mainGlobals "len" = some none)
    (z_isinstance : PySem.W.nsIn K mainGlobals "isinstance" = some none)
    (z_int : PySem.W.nsIn K mainGlobals "int" = some none)
    (z_bool : PySem.W.nsIn K mainGlobals "bool" = some none)
    (z_str : PySem.W.nsIn K mainGlobals "str" = some none)
    (z_tuple : PySem.W.nsIn K mainGlobals "tuple" = some none)
    (z_range : PySem.W.nsIn K mainGlobals "range" = some none)
    (z_sorted : PySem.W.nsIn K mainGlobals "sorted" = some none)
    {aWORDS : Addr} {odWORDS : Option Addr} {itsWORDS : Array Value} {nWORDS : Nat} {slWORDS : Array (Option Value)} (gWORDS : PySem.W.nsIn K mainGlobals "WORDS" = some (some (.ref aWORDS))) (lWORDS : K.lookup aWORDS = some ⟨.type "tuple", odWORDS, .seq itsWORDS nWORDS, slWORDS⟩) (sWORDS : itsWORDS.size ≤ sizeLine) (vWORDS : Vals (wordsL.map V.str) itsWORDS.toList)
    {aFREE : Addr} {odFREE : Option Addr} {itsFREE : Array Value} {nFREE : Nat} {slFREE : Array (Option Value)} (gFREE : PySem.W.nsIn K mainGlobals "FREE" = some (some (.ref aFREE))) (lFREE : K.lookup aFREE = some ⟨.type "tuple", odFREE, .seq itsFREE nFREE, slFREE⟩) (sFREE : itsFREE.size ≤ sizeLine) (vFREE : Vals ([]) itsFREE.toList)
    {uLETTERS : Value} (gLETTERS : PySem.W.nsIn K mainGlobals "LETTERS" = some (some uLETTERS)) (rLETTERS : RelV (.str lettersS) uLETTERS)
    {uMOST : Value} (gMOST : PySem.W.nsIn K mainGlobals "MOST" = some (some uMOST)) (rMOST : RelV (.int 40) uMOST)
    {uBOOK : Value} (gBOOK : PySem.W.nsIn K mainGlobals "BOOK" = some (some uBOOK)) (rBOOK : RelV (.int 300) uBOOK)
    : ∃ fd : FuncData, (∀ (s : Shared) (v : Value), BindsTo s fd ⟨[v], []⟩ [("_law_script", v)]) ∧ ∀ base : Heap, K.In base → base.Ns mainGlobals mg → FnOk l.prog w K mg base CX0 6 fa fd ["_law_script"] (spLaw K) := by
  have e := hfa.symm.trans (PySem.W.mg_of X G a19)
  cases e
  have F1 := fun_mk (st := sis_whole) l1 c1 k1
  have F2 := fun_mk (st := sis_number) l2 c2 k2
  have F3 := fun_mk (st := sis_row) l3 c3 k3
  have F4 := fun_mk (st := sis_name) l4 c4 k4
  have F5 := fun_mk (st := sis_set) l5 c5 k5
  have F6 := fun_mk (st := sare_names) l6 c6 k6
  have F7 := fun_mk (st := sis_machine) l7 c7 k7
  have F8 := fun_mk (st := scheck) l8 c8 k8
  have F9 := fun_mk (st := scheck_wishes) l9 c9 k9
  have F10 := fun_mk (st := sbears) l10 c10 k10
  have F11 := fun_mk (st := sbearers) l11 c11 k11
  have F12 := fun_mk (st := s_law_pool) l12 c12 k12
  have F13 := fun_mk (st := s_law_draw) l13 c13 k13
  have F14 := fun_mk (st := s_law_name) l14 c14 k14
  have F15 := fun_mk (st := s_law_names) l15 c15 k15
  have F16 := fun_mk (st := s_law_great_machine) l16 c16 k16
  have F17 := fun_mk (st := s_law_wishes_by) l17 c17 k17
  have F18 := fun_mk (st := s_law_alike) l18 c18 k18
  have F19 := fun_mk (st := slaw) l19 c19 k19
  have b1 := F1.binds (ps := ["thing"]) fun _ _ _ _ _ _ us hl => match us, hl with | [_], _ => rfl
  have b2 := F2.binds (ps := ["thing", "low", "high"]) fun _ _ _ _ _ _ us hl => match us, hl with | [_, _, _], _ => rfl
  have b3 := F3.binds (ps := ["thing", "least", "most"]) fun _ _ _ _ _ _ us hl => match us, hl with | [_, _, _], _ => rfl
  have b4 := F4.binds (ps := ["thing"]) fun _ _ _ _ _ _ us hl => match us, hl with | [_], _ => rfl
  have b5 := F5.binds (ps := ["thing", "many"]) fun _ _ _ _ _ _ us hl => match us, hl with | [_, _], _ => rfl
  have b6 := F6.binds (ps := ["thing", "most"]) fun _ _ _ _ _ _ us hl => match us, hl with | [_, _], _ => rfl
  have b7 := F7.binds (ps := ["thing"]) fun _ _ _ _ _ _ us hl => match us, hl with | [_], _ => rfl
  have b8 := F8.binds (ps := ["thing"]) fun _ _ _ _ _ _ us hl => match us, hl with | [_], _ => rfl
  have b9 := F9.binds (ps := ["thing"]) fun _ _ _ _ _ _ us hl => match us, hl with | [_], _ => rfl
  have b10 := F10.binds (ps := ["machine", "standing", "name"]) fun _ _ _ _ _ _ us hl => match us, hl with | [_, _, _], _ => rfl
  have b11 := F11.binds (ps := ["machine", "name"]) fun _ _ _ _ _ _ us hl => match us, hl with | [_, _], _ => rfl
  have b12 := F12.binds (ps := ["_law_script"]) fun _ _ _ _ _ _ us hl => match us, hl with | [_], _ => rfl
  have b13 := F13.binds (ps := ["_law_pool_here", "_law_many"]) fun _ _ _ _ _ _ us hl => match us, hl with | [_, _], _ => rfl
  have b14 := F14.binds (ps := ["_law_pool_here", "_law_start", "_law_taken"]) fun _ _ _ _ _ _ us hl => match us, hl with | [_, _, _], _ => rfl
  have b15 := F15.binds (ps := ["_law_pool_here", "_law_many"]) fun _ _ _ _ _ _ us hl => match us, hl with | [_, _], _ => rfl
  have b16 := F16.binds (ps := ["_law_pool_here", "_law_names_here"]) fun _ _ _ _ _ _ us hl => match us, hl with | [_, _], _ => rfl
  have b17 := F17.binds (ps := ["_law_pool_here", "_law_names_here"]) fun _ _ _ _ _ _ us hl => match us, hl with | [_, _], _ => rfl
  have b18 := F18.binds (ps := ["_law_found", "_law_due"]) fun _ _ _ _ _ _ us hl => match us, hl with | [_, _], _ => rfl
  have T : Bi mg := ⟨PySem.W.mg_none_of X G z_len, PySem.W.mg_none_of X G z_isinstance, PySem.W.mg_none_of X G z_int, PySem.W.mg_none_of X G z_bool, PySem.W.mg_none_of X G z_str, PySem.W.mg_none_of X G z_tuple, PySem.W.mg_none_of X G z_range, PySem.W.mg_none_of X G z_sorted⟩
  have W : Wd K mg := ⟨aWORDS, uLETTERS, PySem.W.mg_of X G gWORDS, rfl, fun _ => .inr ⟨_, _, _, lWORDS, rfl, rfl, sWORDS, vWORDS⟩, PySem.W.mg_of X G gLETTERS, rLETTERS⟩
  have W1 : Wg K mg := ⟨aFREE, uMOST, uBOOK, PySem.W.mg_of X G gFREE, rfl, fun _ => .inr ⟨_, _, _, lFREE, rfl, rfl, sFREE, vFREE⟩, PySem.W.mg_of X G gMOST, rMOST, PySem.W.mg_of X G gBOOK, rBOOK⟩
  refine ⟨PySem.W.fnOf "law" "law" (defArgs slaw) (defBody slaw) (defScope slaw) .none kV19 dc19 pm19 an19 cd19 ct19, fun s v => .of_eq rfl, fun base _ _ => ?_⟩
  have cis_whole : Cal l.prog w K mg base 1 "is_whole" ["thing"] spWhole := ⟨f1, _, ok_whole F1 T, PySem.W.mg_of X G a1, F1.kp, b1⟩
  have cis_number : Cal l.prog w K mg base 2 "is_number" ["thing", "low", "high"] spNumber := ⟨f2, _, ok_number F2 T cis_whole, PySem.W.mg_of X G a2, F2.kp, b2⟩
  have cis_row : Cal l.prog w K mg base 1 "is_row" ["thing", "least", "most"] (spRow K) := ⟨f3, _, ok_row F3 T, PySem.W.mg_of X G a3, F3.kp, b3⟩
  have cis_name : Cal l.prog w K mg base 1 "is_name" ["thing"] spName := ⟨f4, _, ok_name F4 T W, PySem.W.mg_of X G a4, F4.kp, b4⟩
  have cis_set : Cal l.prog w K mg base 3 "is_set" ["thing", "many"] (spSet K) := ⟨f5, _, ok_set F5 cis_row cis_number, PySem.W.mg_of X G a5, F5.kp, b5⟩
  have care_names : Cal l.prog w K mg base 2 "are_names" ["thing", "most"] (spNames K) := ⟨f6, _, ok_names F6 cis_row cis_name, PySem.W.mg_of X G a6, F6.kp, b6⟩
  have cis_machine : Cal l.prog w K mg base 4 "is_machine" ["thing"] (spMachine K) := ⟨f7, _, ok_machine F7 T cis_row cis_set care_names, PySem.W.mg_of X G a7, F7.kp, b7⟩
  have ccheck : Cal l.prog w K mg base 5 "check" ["thing"] (spMachine K) := ⟨f8, _, ok_check F8 cis_machine, PySem.W.mg_of X G a8, F8.kp, b8⟩
  have ccheck_wishes : Cal l.prog w K mg base 2 "check_wishes" ["thing"] (spWishes K) := ⟨f9, _, ok_check_wishes F9 T cis_row cis_name, PySem.W.mg_of X G a9, F9.kp, b9⟩
  have cbears : Cal l.prog w K mg base 1 "bears" ["machine", "standing", "name"] (spBears K) := ⟨f10, _, ok_bears F10 , PySem.W.mg_of X G a10, F10.kp, b10⟩
  have cbearers : Cal l.prog w K mg base 2 "bearers" ["machine", "name"] (spBearers K) := ⟨f11, _, ok_bearers F11 T cbears, PySem.W.mg_of X G a11, F11.kp, b11⟩
  have c_law_pool : Cal l.prog w K mg base 1 "_law_pool" ["_law_script"] (spPool K) := ⟨f12, _, ok_pool F12 , PySem.W.mg_of X G a12, F12.kp, b12⟩
  have c_law_draw : Cal l.prog w K mg base 1 "_law_draw" ["_law_pool_here", "_law_many"] spDraw := ⟨f13, _, ok_draw F13 T, PySem.W.mg_of X G a13, F13.kp, b13⟩
  have c_law_name : Cal l.prog w K mg base 2 "_law_name" ["_law_pool_here", "_law_start", "_law_taken"] spLName := ⟨f14, _, ok_lname F14 T c_law_draw, PySem.W.mg_of X G a14, F14.kp, b14⟩
  have c_law_names : Cal l.prog w K mg base 3 "_law_names" ["_law_pool_here", "_law_many"] spLNames := ⟨f15, _, ok_lnames F15 T c_law_draw c_law_name, PySem.W.mg_of X G a15, F15.kp, b15⟩
  have c_law_great_machine : Cal l.prog w K mg base 2 "_law_great_machine" ["_law_pool_here", "_law_names_here"] (spGreat K) := ⟨f16, _, ok_great F16 T c_law_draw, PySem.W.mg_of X G a16, F16.kp, b16⟩
  have c_law_wishes_by : Cal l.prog w K mg base 2 "_law_wishes_by" ["_law_pool_here", "_law_names_here"] (spWB K) := ⟨f17, _, ok_wb F17 T c_law_draw, PySem.W.mg_of X G a17, F17.kp, b17⟩
  have c_law_alike : Cal l.prog w K mg base 1 "_law_alike" ["_law_found", "_law_due"] (spAlike K) := ⟨f18, _, ok_alike F18 T, PySem.W.mg_of X G a18, F18.kp, b18⟩
  exact ok_law F19 T W1 c_law_pool c_law_draw c_law_names c_law_wishes_by c_law_great_machine ccheck ccheck_wishes cbearers c_law_alike
end Fx
open PySem PySem.W PyProof.Rows
set_option maxHeartbeats 0 in
theorem PySem.Challenge.cw_fairtrees_k01_machines_taken_holds : PySem.Challenge.rw_fairtrees_k01_machines_taken.Holds := by
  w_on; o_law; k_head; (case hw => w_witness2)
  k_fill
  refine L2.walk_of (l := PySem.Challenge.rw_fairtrees_k01_machines_taken) (n := 63) (k := 6) (x := "_law_script") (CX := fun _ => L2.CX0) (sp := fun w => Fx.spLaw _) rfl (by decide) rfl ⟨rfl, by decide, by decide⟩ (fun w h Y => PySem.W.kIn_of Y) ?F (fun _ _ a ns hl _ hS => ⟨a, ns, rfl, hS, hl, fun _ => rfl⟩) (fun _ _ _ _ _ h => h)
  case F =>
    intro w mg fa h KX G hmg
    refine' Fx.all_mk KX G hmg ?a1 ?l1 ?c1 ?k1 ?a2 ?l2 ?c2 ?k2 ?a3 ?l3 ?c3 ?k3 ?a4 ?l4 ?c4 ?k4 ?a5 ?l5 ?c5 ?k5 ?a6 ?l6 ?c6 ?k6 ?a7 ?l7 ?c7 ?k7 ?a8 ?l8 ?c8 ?k8 ?a9 ?l9 ?c9 ?k9 ?a10 ?l10 ?c10 ?k10 ?a11 ?l11 ?c11 ?k11 ?a12 ?l12 ?c12 ?k12 ?a13 ?l13 ?c13 ?k13 ?a14 ?l14 ?c14 ?k14 ?a15 ?l15 ?c15 ?k15 ?a16 ?l16 ?c16 ?k16 ?a17 ?l17 ?c17 ?k17 ?a18 ?l18 ?c18 ?k18 ?a19 ?l19 ?c19 ?k19 ?z_len ?z_isinstance ?z_int ?z_bool ?z_str ?z_tuple ?z_range ?z_sorted ?gWORDS ?lWORDS ?sWORDS ?vWORDS ?gFREE ?lFREE ?sFREE ?vFREE ?gLETTERS ?rLETTERS ?gMOST ?rMOST ?gBOOK ?rBOOK
    (case a1 => k_is); (case l1 => k_is); (case c1 => k_is); (case k1 => k_is); (case a2 => k_is); (case l2 => k_is); (case c2 => k_is); (case k2 => k_is); (case a3 => k_is); (case l3 => k_is); (case c3 => k_is); (case k3 => k_is); (case a4 => k_is); (case l4 => k_is); (case c4 => k_is); (case k4 => k_is); (case a5 => k_is); (case l5 => k_is); (case c5 => k_is); (case k5 => k_is); (case a6 => k_is); (case l6 => k_is); (case c6 => k_is); (case k6 => k_is); (case a7 => k_is); (case l7 => k_is); (case c7 => k_is); (case k7 => k_is); (case a8 => k_is); (case l8 => k_is); (case c8 => k_is); (case k8 => k_is); (case a9 => k_is); (case l9 => k_is); (case c9 => k_is); (case k9 => k_is); (case a10 => k_is); (case l10 => k_is); (case c10 => k_is); (case k10 => k_is); (case a11 => k_is); (case l11 => k_is); (case c11 => k_is); (case k11 => k_is); (case a12 => k_is); (case l12 => k_is); (case c12 => k_is); (case k12 => k_is); (case a13 => k_is); (case l13 => k_is); (case c13 => k_is); (case k13 => k_is); (case a14 => k_is); (case l14 => k_is); (case c14 => k_is); (case k14 => k_is); (case a15 => k_is); (case l15 => k_is); (case c15 => k_is); (case k15 => k_is); (case a16 => k_is); (case l16 => k_is); (case c16 => k_is); (case k16 => k_is); (case a17 => k_is); (case l17 => k_is); (case c17 => k_is); (case k17 => k_is); (case a18 => k_is); (case l18 => k_is); (case c18 => k_is); (case k18 => k_is); (case a19 => k_is); (case l19 => k_is); (case c19 => k_is); (case k19 => k_is); (case z_len => k_is); (case z_isinstance => k_is); (case z_int => k_is); (case z_bool => k_is); (case z_str => k_is); (case z_tuple => k_is); (case z_range => k_is); (case z_sorted => k_is); (case gWORDS => k_is); (case lWORDS => k_is); (case gFREE => k_is); (case lFREE => k_is); (case gLETTERS => k_is); (case gMOST => k_is); (case gBOOK => k_is)
    (case sWORDS => decide)
    (case vWORDS => repeat (first | exact .nil | refine .cons ⟨_, rfl⟩ ?_))
    (case sFREE => decide)
    (case vFREE => repeat (first | exact .nil | refine .cons ⟨_, rfl⟩ ?_))
    (case rLETTERS => exact ⟨_, rfl⟩)
    (case rMOST => exact ⟨_, rfl⟩)
    (case rBOOK => exact ⟨_, rfl⟩)
