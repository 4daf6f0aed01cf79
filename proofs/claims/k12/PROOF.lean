import PyProof.Rows.All
import Wide.All
import OpenK.AllK
import Wide.FinOn
import HandS.ForMost
import HandS.TupAny
import HandS.TupMul
import HandS.IsInst
import HandS.TupLe
import HandS.DictComp
import HandS.Conv
import HandS.Walk
import HandS.Evl
import KE.GoesMore
import PyProof.Draws
import PySem.Challenge.RW_fairtrees_k12_sayings_taken
set_option Elab.async false
set_option linter.all false
set_option maxRecDepth 100000
set_option maxHeartbeats 4000000
namespace Fx
open PySem PySem.Spec PyProof.Rows L2
def topS (i : Nat) : Stmt := PySem.Challenge.pw_fairtrees_k12_sayings_taken.main.body.getD i (.Pass ⟨0, 0, 0, 0⟩)

/-! ### heaps, data, the pool of draws -/
/-- a def of the text as its callers see it -/
structure Cal (P : Program) (w : World) (K : PySem.W.Frag) (mg : Str → Option Value) (base : Heap) (k : Nat) (x : Str) (ps : List Str) (sp : Sp) where
  f : Addr
  fd : FuncData
  G : FnOk P w K mg base CX0 k f fd ps sp
  g : mg x = some (.ref f)
  kp : PySem.W.keepIn K (.ref f) = true
  b : Binds K fd ps []
theorem same_upd {H : Hp} {p : Addr} {o : HO} (h : H p = none) : Same H (upd H p o) := fun b x e => by
  rw [upd_ne (ne_of_none e h)]
  exact e
/-- an object that H does not know may change -/
theorem smut {H H' : Hp} {p : Addr} {o : HO} (e : Same H H') (h : H p = none) : Same H (upd H' p o) := fun a u ha => by
  rw [upd_ne (ne_of_none ha h)]
  exact e a u ha
/-- all tuples stand -/
def Imm (H H' : Hp) : Prop := ∀ a xs, Rd H a (.tup xs) → Rd H' a (.tup xs)
theorem Imm.refl (H : Hp) : Imm H H := fun _ _ h => h
theorem Imm.trans {H H1 H2 : Hp} (a : Imm H H1) (b : Imm H1 H2) : Imm H H2 := fun x xs h => b x xs (a x xs h)
theorem simm {H H' : Hp} (e : Same H H') : Imm H H' := fun a xs h => by
  rcases h with h | ⟨o, h⟩
  · exact .inl (e _ _ h)
  · exact .inr ⟨o, e _ _ h⟩
theorem Imm.sq {K : PySem.W.Frag} {H H' : Hp} {a : Addr} {xs : List V} (e : Imm H H') (h : SqT K H a xs) : SqT K H' a xs := by
  rcases h with h | h
  · exact .inl (e _ _ h)
  · exact .inr h
theorem ssqt {K : PySem.W.Frag} {H H' : Hp} {a : Addr} {xs : List V} (e : Same H H') (h : SqT K H a xs) : SqT K H' a xs := (simm e).sq h
/-- a list that changes is no tuple -/
theorem Imm.list {H : Hp} {p : Addr} {xs : List V} {o : HO} (h : H p = some (.lst xs)) : Imm H (upd H p o) := fun a ys e => by
  rcases e with e | ⟨u, e⟩
  · exact .inl (by rw [upd_ne (ne_of h e (by intro q; cases q)).symm]; exact e)
  · exact .inr ⟨u, by rw [upd_ne (ne_of h e (by intro q; cases q)).symm]; exact e⟩
theorem Imm.new {H : Hp} {p : Addr} {o : HO} (h : H p = none) : Imm H (upd H p o) := simm (same_upd h)
/-- a list of addresses, each a tuple of such things -/
inductive Each {α : Type} (R : Addr → α → Prop) : List Addr → List α → Prop where
  | nil : Each R [] []
  | cons {a : Addr} {as : List Addr} {x : α} {xs : List α} (h : R a x) (t : Each R as xs) : Each R (a :: as) (x :: xs)
theorem Each.imp {α : Type} {R S : Addr → α → Prop} (f : ∀ a x, R a x → S a x) : ∀ {as : List Addr} {xs : List α}, Each R as xs → Each S as xs
  | _, _, .nil => .nil
  | _, _, .cons h t => .cons (f _ _ h) (t.imp f)
theorem Each.len {α : Type} {R : Addr → α → Prop} : ∀ {as : List Addr} {xs : List α}, Each R as xs → as.length = xs.length
  | _, _, .nil => rfl
  | _, _, .cons _ t => by rw [List.length_cons, List.length_cons, t.len]
theorem Each.get {α : Type} {R : Addr → α → Prop} : ∀ {as : List Addr} {xs : List α} {i : Nat} {a : Addr}, Each R as xs → as[i]? = some a → ∃ x, xs[i]? = some x ∧ R a x
  | _, _, _, _, .nil, h => by simp at h
  | _, _, 0, _, .cons (x := x) r _, h => by
    have e := Option.some.inj h
    subst e
    exact ⟨x, rfl, r⟩
  | _, _, i + 1, _, .cons _ t, h => by
    obtain ⟨x, h1, h2⟩ := t.get (i := i) (by simpa using h)
    exact ⟨x, by simpa using h1, h2⟩
theorem Each.getx {α : Type} {R : Addr → α → Prop} : ∀ {as : List Addr} {xs : List α} {i : Nat} {x : α}, Each R as xs → xs[i]? = some x → ∃ a, as[i]? = some a ∧ R a x
  | _, _, _, _, .nil, h => by simp at h
  | _, _, 0, _, .cons (a := a) r _, h => by
    have e := Option.some.inj h
    subst e
    exact ⟨a, rfl, r⟩
  | _, _, i + 1, _, .cons _ t, h => by
    obtain ⟨x, h1, h2⟩ := t.getx (i := i) (by simpa using h)
    exact ⟨x, by simpa using h1, h2⟩
theorem Each.snoc {α : Type} {R : Addr → α → Prop} {a : Addr} {x : α} (r : R a x) : ∀ {as : List Addr} {xs : List α}, Each R as xs → Each R (as ++ [a]) (xs ++ [x])
  | _, _, .nil => .cons r .nil
  | _, _, .cons h t => .cons h (t.snoc r)
theorem map_get {α : Type} {f : α → V} {xs : List α} {i : Nat} {v : V} (h : (xs.map f)[i]? = some v) : ∃ x, xs[i]? = some x ∧ v = f x := by
  rw [List.getElem?_map] at h
  cases e : xs[i]? with
  | none =>
    rw [e] at h
    cases h
  | some x =>
    rw [e] at h
    exact ⟨x, rfl, (Option.some.inj h).symm⟩
theorem get_map {α : Type} {f : α → V} {xs : List α} {i : Nat} {x : α} (h : xs[i]? = some x) : (xs.map f)[i]? = some (f x) := by
  rw [List.getElem?_map, h]
  rfl
theorem notdec {p : Prop} [Decidable p] (h : (!decide p) = true) : ¬ p := by simpa using h
theorem dec_of {p : Prop} [Decidable p] (h : ¬ ((!decide p) = true)) : p := by simpa using h
theorem ixN_nat {n j : Nat} (hj : j < n) : ixN n (j : Int) = some j := by
  unfold ixN
  rw [if_pos (by omega), if_pos (by omega)]
  simp
theorem ixN0 {n : Nat} (h : 0 < n) : ixN n 0 = some 0 := ixN_nat (j := 0) h
theorem six0 {n : Nat} (h : 0 < n) : seqIndex? 0 n = some 0 := by
  unfold seqIndex?
  simp
  omega
theorem szOk {n : Nat} (h : n ≤ 100000) : n ≤ sizeLine := Nat.le_trans h (by decide)
theorem szLt {n : Nat} (h : n < 100000) : n < sizeLine := Nat.lt_of_lt_of_le h (by decide)
theorem ty_sqt {K : PySem.W.Frag} {H : Hp} {a : Addr} {xs : List V} (h : SqT K H a xs) : TyX K H (.ref a) (.type "tuple") := by
  rcases h with (h | ⟨o, h⟩) | ⟨o, its, n, hk, hc, _⟩
  · exact .base (.tup h)
  · exact .fTuple h
  · exact .kTuple hk hc
/-- the pool's addresses: itself, its great numbers, its small ones -/
structure PA where
  p : Addr
  g : Addr
  s : Addr
def Off (a : PA) (b : Addr) : Prop := b ≠ a.p ∧ b ≠ a.g ∧ b ≠ a.s
structure Pool (H : Hp) (a : PA) (c : Nat) : Prop where
  ex : ∃ (gs ss : List Int) (st ct : Int), H a.p = some (.lst [.ref a.g, .ref a.s, .int st, .int ct]) ∧ H a.g = some (.lst (gs.map V.int)) ∧ H a.s = some (.lst (ss.map V.int)) ∧
    gs.length ≤ 63 ∧ ss.length ≤ 63 ∧ 0 ≤ st ∧ st < 2147483647 ∧ 0 ≤ ct ∧ ct ≤ c ∧ a.s ≠ a.g
/-- all but the pool stands -/
def Kp (a : PA) (H H' : Hp) : Prop := ∀ b o, H b = some o → Off a b → H' b = some o
theorem Kp.refl {a : PA} (H : Hp) : Kp a H H := fun _ _ h _ => h
theorem Kp.trans {a : PA} {H H1 H2 : Hp} (x : Kp a H H1) (y : Kp a H1 H2) : Kp a H H2 := fun c o h n => y c o (x c o h n) n
theorem skp {a : PA} {H H' : Hp} (s : Same H H') : Kp a H H' := fun b o h _ => s b o h
theorem Kp.mut {a : PA} {H H' : Hp} {q : Addr} {o : HO} (e : Kp a H H') (h : H q = none) : Kp a H (upd H' q o) := fun b u hb n => by
  rw [upd_ne (ne_of_none hb h)]
  exact e b u hb n
theorem Kp.free {a : PA} {H H' : Hp} {l : Addr} (k : Kp a H H') (h : H' l = none) (n : Off a l) : H l = none := by
  cases e : H l with
  | none => rfl
  | some o =>
    rw [k l o e n] at h
    cases h
theorem Pool.mono {H : Hp} {a : PA} {c c' : Nat} (P : Pool H a c) (h : c ≤ c') : Pool H a c' := by
  obtain ⟨gs, ss, st, ct, a1, a2, a3, a4, a5, a6, a7, a8, a9, a10⟩ := P.ex
  exact ⟨gs, ss, st, ct, a1, a2, a3, a4, a5, a6, a7, a8, by omega, a10⟩
theorem Pool.same {H H' : Hp} {a : PA} {c : Nat} (P : Pool H a c) (e : Same H H') : Pool H' a c := by
  obtain ⟨gs, ss, st, ct, a1, a2, a3, a4, a5, a6, a7, a8, a9, a10⟩ := P.ex
  exact ⟨gs, ss, st, ct, e _ _ a1, e _ _ a2, e _ _ a3, a4, a5, a6, a7, a8, a9, a10⟩
theorem Pool.off {H : Hp} {a : PA} {b : Addr} {c : Nat} (P : Pool H a c) (h : H b = none) : Off a b := by
  obtain ⟨gs, ss, st, ct, a1, a2, a3, a4, a5, a6, a7, a8, a9, a10⟩ := P.ex
  exact ⟨(ne_of_none a1 h).symm, (ne_of_none a2 h).symm, (ne_of_none a3 h).symm⟩
/-- what is no list is none of the pool's -/
theorem Pool.offo {H : Hp} {a : PA} {b : Addr} {c : Nat} {o : HO} (P : Pool H a c) (h : H b = some o) (n : ∀ xs, o ≠ .lst xs) : Off a b := by
  obtain ⟨gs, ss, st, ct, a1, a2, a3, a4, a5, a6, a7, a8, a9, a10⟩ := P.ex
  exact ⟨(ne_of a1 h (n _).symm).symm, (ne_of a2 h (n _).symm).symm, (ne_of a3 h (n _).symm).symm⟩
theorem Pool.imm {H H' : Hp} {a : PA} {c : Nat} (P : Pool H a c) (k : Kp a H H') : Imm H H' := fun b xs h => by
  rcases h with h | ⟨o, h⟩
  · exact .inl (k _ _ h (P.offo h fun _ q => by cases q))
  · exact .inr ⟨o, k _ _ h (P.offo h fun _ q => by cases q)⟩
/-- an object beside the pool is laid or changed -/
theorem Pool.upd {H : Hp} {a : PA} {b : Addr} {c : Nat} {o : HO} (P : Pool H a c) (n : Off a b) : Pool (upd H b o) a c := by
  obtain ⟨gs, ss, st, ct, a1, a2, a3, a4, a5, a6, a7, a8, a9, a10⟩ := P.ex
  exact ⟨gs, ss, st, ct, by rw [upd_ne n.1.symm]; exact a1, by rw [upd_ne n.2.1.symm]; exact a2, by rw [upd_ne n.2.2.symm]; exact a3, a4, a5, a6, a7, a8, a9, a10⟩
/-! ### rules within a comprehension's block: the written part by its name -/
section
variable {X : Cx}
theorem ixL (K : PySem.W.Frag) (h : X.K = K := by rfl) : IxR X (rIxL K) := by subst h; exact ix_list
theorem ixT (K : PySem.W.Frag) (h : X.K = K := by rfl) : IxR X (rIxT K) := by subst h; exact ix_tup
theorem inS (K : PySem.W.Frag) (h : X.K = K := by rfl) : OpR X (compareOp .In) (rIn K false) := by subst h; exact op_in_seq
theorem ninS (K : PySem.W.Frag) (h : X.K = K := by rfl) : OpR X (compareOp .NotIn) (rIn K true) := by subst h; exact op_notIn_seq
theorem lenS (K : PySem.W.Frag) (h : X.K = K := by rfl) : CallR X (.builtin "len") (fun xs H Q => ∃ p ys, xs = [.ref p] ∧ (SqL K H p ys ∨ SqT K H p ys) ∧ Q (.int ys.length) H) := by subst h; exact call_len_seq
theorem isiK (K : PySem.W.Frag) (h : X.K = K := by rfl) : CallR X (.builtin "isinstance") (rIsi K) := by subst h; exact call_isi
theorem tupOf (K : PySem.W.Frag) (h : X.K = K := by rfl) : CallR X (.type "tuple") (fun xs H Q => ∃ p ys, xs = [.ref p] ∧ ((SqL K H p ys ∧ ∀ l, H l = none → Q (.ref l) (upd H l (.tup ys))) ∨ (SqT K H p ys ∧ Q (.ref p) H))) := by subst h; exact call_tuple_of
theorem slL (K : PySem.W.Frag) (h : X.K = K := by rfl) : SlR X (rSlL K) := by subst h; exact sl_list
theorem slA (K : PySem.W.Frag) (h : X.K = K := by rfl) : SlR X (rSlA K) := by subst h; exact sl_tupA
theorem catA (K : PySem.W.Frag) (h : X.K = K := by rfl) : OpR X (binaryOp .Add) (rCatA K) := by subst h; exact op_catA
theorem sortS (K : PySem.W.Frag) (h : X.K = K := by rfl) : CallR X (.builtin "sorted") (rSortedS K) := by subst h; exact cr_sortedS
theorem sortI (K : PySem.W.Frag) (h : X.K = K := by rfl) : CallR X (.builtin "sorted") (rSorted K) := by subst h; exact cr_sorted
end
/-! ### comprehensions: what holds of the list so far -/
section
variable {K : PySem.W.Frag}
/-- over a range, its turns drawing from the pool (k draws a turn) -/
theorem lc_rangeP {lo : Int} {n j : Nat} {tt : TT} {te : TE} {vs : List Nat} {σ : L2.St} {H1 : Hp} {D : Addr} {Qd : Hp → Prop} {a : PA} {c0 : Nat} (k : Nat) (ok : Nat → List V → Prop)
    (P0 : Pool H1 a c0) (hD : H1 D = none) (hn : n ≤ 100000) (h0 : ok 0 []) (hw : ∀ x, wipe ((wipe σ vs).set j (some x)) vs = wipe σ vs)
    (turn : ∀ (i : Nat) (H : Hp) (acc : List V), i < n → Pool H a (c0 + i * k) → Kp a H1 H → ok i acc → acc.length ≤ i → ∀ (N1 : V → Hp → Prop) (N2 : Hp → Prop),
      (∀ y H', Pool H' a (c0 + i * k + k) → Kp a H H' → ok (i + 1) (acc ++ [y]) → N1 y H') → (∀ H', Pool H' a (c0 + i * k + k) → Kp a H H' → ok (i + 1) acc → N2 H') →
      tt ((wipe σ vs).set j (some (.int (lo + i)))) H fun b H3 => if b = true then te ((wipe σ vs).set j (some (.int (lo + i)))) H3 N1 else N2 H3)
    (done : ∀ (H : Hp) (acc : List V), Pool H a (c0 + n * k) → Kp a H1 H → H D = some (.lst acc) → acc.length ≤ n → ok n acc → Off a D → Qd H) :
    ∃ W : Nat → Nat → Hp → Prop, (∃ m, W 0 m (upd H1 D (.lst []))) ∧ ∀ i m H, W i m H →
      ((Itr lo n).stop i H ∧ Qd H) ∨ ((Itr lo n).go i H ∧ ∃ Nx : Hp → Prop, (∀ H', Nx H' → ∃ m', m' < m ∧ W (i + 1) m' H') ∧ ∀ x H', (Itr lo n).yld i H x H' → (gName j) x (wipe σ vs) H' fun σ2 H2 => wipe σ2 vs = wipe σ vs ∧ tt σ2 H2 fun b H3 =>
        if b = true then te σ2 H3 fun y H4 => ∃ acc, H4 D = some (.lst acc) ∧ acc.length < sizeLine ∧ Nx (upd H4 D (.lst (acc ++ [y]))) else Nx H3) := by
  have oD : Off a D := P0.off hD
  refine lc_range (lo := lo) (n := n) (fun i H => ∃ acc, Pool H a (c0 + i * k) ∧ Kp a H1 H ∧ H D = some (.lst acc) ∧ acc.length ≤ i ∧ ok i acc) ⟨[], ?_, skp (same_upd hD), upd_same, Nat.le_refl _, h0⟩ (fun i H hi p => ?_) (fun H p => ?_)
  · rw [Nat.zero_mul]
    exact P0.upd oD
  · obtain ⟨acc, p1, p2, p3, p4, p5⟩ := p
    refine ⟨hw _, turn i H acc hi p1 p2 p5 p4 _ _ (fun y H' q1 q2 q3 => ⟨acc, q2 _ _ p3 oD, szLt (by omega), acc ++ [y], ?_, ?_, upd_same, ?_, q3⟩) (fun H' q1 q2 q3 => ⟨acc, ?_, p2.trans q2, q2 _ _ p3 oD, by omega, q3⟩)⟩
    · rw [Nat.succ_mul, ← Nat.add_assoc]
      exact q1.upd oD
    · exact Kp.mut (p2.trans q2) hD
    · rw [List.length_append]
      show acc.length + 1 ≤ i + 1
      omega
    · rw [Nat.succ_mul, ← Nat.add_assoc]
      exact q1
  · obtain ⟨acc, p1, p2, p3, p4, p5⟩ := p
    exact done H acc p1 p2 p3 p4 p5 oD
/-- over a walked thing, its turns changing nothing that stood -/
theorem lc_rangeS {lo : Int} {n j : Nat} {tt : TT} {te : TE} {vs : List Nat} {σ : L2.St} {H1 : Hp} {D : Addr} {Qd : Hp → Prop} (ok : Nat → List V → Prop)
    (hD : H1 D = none) (hn : n ≤ 100000) (h0 : ok 0 []) (hw : ∀ x, wipe ((wipe σ vs).set j (some x)) vs = wipe σ vs)
    (turn : ∀ (i : Nat) (H : Hp) (acc : List V), i < n → Same H1 H → ok i acc → acc.length ≤ i → ∀ (N1 : V → Hp → Prop) (N2 : Hp → Prop),
      (∀ y H', Same H H' → ok (i + 1) (acc ++ [y]) → N1 y H') → (∀ H', Same H H' → ok (i + 1) acc → N2 H') →
      tt ((wipe σ vs).set j (some (.int (lo + i)))) H fun b H3 => if b = true then te ((wipe σ vs).set j (some (.int (lo + i)))) H3 N1 else N2 H3)
    (done : ∀ (H : Hp) (acc : List V), Same H1 H → H D = some (.lst acc) → acc.length ≤ n → ok n acc → Qd H) :
    ∃ W : Nat → Nat → Hp → Prop, (∃ m, W 0 m (upd H1 D (.lst []))) ∧ ∀ i m H, W i m H →
      ((Itr lo n).stop i H ∧ Qd H) ∨ ((Itr lo n).go i H ∧ ∃ Nx : Hp → Prop, (∀ H', Nx H' → ∃ m', m' < m ∧ W (i + 1) m' H') ∧ ∀ x H', (Itr lo n).yld i H x H' → (gName j) x (wipe σ vs) H' fun σ2 H2 => wipe σ2 vs = wipe σ vs ∧ tt σ2 H2 fun b H3 =>
        if b = true then te σ2 H3 fun y H4 => ∃ acc, H4 D = some (.lst acc) ∧ acc.length < sizeLine ∧ Nx (upd H4 D (.lst (acc ++ [y]))) else Nx H3) := by
  refine lc_range (lo := lo) (n := n) (fun i H => ∃ acc, Same H1 H ∧ H D = some (.lst acc) ∧ acc.length ≤ i ∧ ok i acc) ⟨[], same_upd hD, upd_same, Nat.le_refl _, h0⟩ (fun i H hi p => ?_) (fun H p => ?_)
  · obtain ⟨acc, p2, p3, p4, p5⟩ := p
    refine ⟨hw _, turn i H acc hi p2 p5 p4 _ _ (fun y H' q2 q3 => ⟨acc, q2 _ _ p3, szLt (by omega), acc ++ [y], smut (p2.trans q2) hD, upd_same, ?_, q3⟩) (fun H' q2 q3 => ⟨acc, p2.trans q2, q2 _ _ p3, by omega, q3⟩)⟩
    rw [List.length_append]
    show acc.length + 1 ≤ i + 1
    omega
  · obtain ⟨acc, p2, p3, p4, p5⟩ := p
    exact done H acc p2 p3 p4 p5
theorem lc_listS {a : Addr} {xs : List V} {j : Nat} {tt : TT} {te : TE} {vs : List Nat} {σ : L2.St} {H1 : Hp} {D : Addr} {Qd : Hp → Prop} (ok : Nat → List V → Prop)
    (hx : SqL K H1 a xs) (hD : H1 D = none) (hn : xs.length ≤ 100000) (h0 : ok 0 []) (hw : ∀ x, wipe ((wipe σ vs).set j (some x)) vs = wipe σ vs)
    (turn : ∀ (i : Nat) (x : V) (H : Hp) (acc : List V), xs[i]? = some x → Same H1 H → ok i acc → acc.length ≤ i → ∀ (N1 : V → Hp → Prop) (N2 : Hp → Prop),
      (∀ y H', Same H H' → ok (i + 1) (acc ++ [y]) → N1 y H') → (∀ H', Same H H' → ok (i + 1) acc → N2 H') →
      tt ((wipe σ vs).set j (some x)) H fun b H3 => if b = true then te ((wipe σ vs).set j (some x)) H3 N1 else N2 H3)
    (done : ∀ (H : Hp) (acc : List V), Same H1 H → H D = some (.lst acc) → acc.length ≤ xs.length → ok xs.length acc → Qd H) :
    ∃ W : Nat → Nat → Hp → Prop, (∃ m, W 0 m (upd H1 D (.lst []))) ∧ ∀ i m H, W i m H →
      ((Itl K a).stop i H ∧ Qd H) ∨ ((Itl K a).go i H ∧ ∃ Nx : Hp → Prop, (∀ H', Nx H' → ∃ m', m' < m ∧ W (i + 1) m' H') ∧ ∀ x H', (Itl K a).yld i H x H' → (gName j) x (wipe σ vs) H' fun σ2 H2 => wipe σ2 vs = wipe σ vs ∧ tt σ2 H2 fun b H3 =>
        if b = true then te σ2 H3 fun y H4 => ∃ acc, H4 D = some (.lst acc) ∧ acc.length < sizeLine ∧ Nx (upd H4 D (.lst (acc ++ [y]))) else Nx H3) := by
  refine lc_list (xs := xs) (fun i H => ∃ acc, Same H1 H ∧ H D = some (.lst acc) ∧ acc.length ≤ i ∧ ok i acc) ⟨[], same_upd hD, upd_same, Nat.le_refl _, h0⟩ (fun i H _ p => ?_) (fun i x H hi p => ?_) (fun H p => ?_)
  · obtain ⟨acc, p2, _⟩ := p
    exact p2.seq hx
  · obtain ⟨acc, p2, p3, p4, p5⟩ := p
    have hil : i < xs.length := (List.getElem?_eq_some_iff.mp hi).1
    refine ⟨hw _, turn i x H acc hi p2 p5 p4 _ _ (fun y H' q2 q3 => ⟨acc, q2 _ _ p3, szLt (by omega), acc ++ [y], smut (p2.trans q2) hD, upd_same, ?_, q3⟩) (fun H' q2 q3 => ⟨acc, p2.trans q2, q2 _ _ p3, by omega, q3⟩)⟩
    rw [List.length_append]
    show acc.length + 1 ≤ i + 1
    omega
  · obtain ⟨acc, p2, p3, p4, p5⟩ := p
    exact done H acc p2 p3 p4 p5
theorem lc_tupS {a : Addr} {xs : List V} {j : Nat} {tt : TT} {te : TE} {vs : List Nat} {σ : L2.St} {H1 : Hp} {D : Addr} {Qd : Hp → Prop} (ok : Nat → List V → Prop)
    (hx : SqT K H1 a xs) (hD : H1 D = none) (hn : xs.length ≤ 100000) (h0 : ok 0 []) (hw : ∀ x, wipe ((wipe σ vs).set j (some x)) vs = wipe σ vs)
    (turn : ∀ (i : Nat) (x : V) (H : Hp) (acc : List V), xs[i]? = some x → Same H1 H → ok i acc → acc.length ≤ i → ∀ (N1 : V → Hp → Prop) (N2 : Hp → Prop),
      (∀ y H', Same H H' → ok (i + 1) (acc ++ [y]) → N1 y H') → (∀ H', Same H H' → ok (i + 1) acc → N2 H') →
      tt ((wipe σ vs).set j (some x)) H fun b H3 => if b = true then te ((wipe σ vs).set j (some x)) H3 N1 else N2 H3)
    (done : ∀ (H : Hp) (acc : List V), Same H1 H → H D = some (.lst acc) → acc.length ≤ xs.length → ok xs.length acc → Qd H) :
    ∃ W : Nat → Nat → Hp → Prop, (∃ m, W 0 m (upd H1 D (.lst []))) ∧ ∀ i m H, W i m H →
      ((Itt K a).stop i H ∧ Qd H) ∨ ((Itt K a).go i H ∧ ∃ Nx : Hp → Prop, (∀ H', Nx H' → ∃ m', m' < m ∧ W (i + 1) m' H') ∧ ∀ x H', (Itt K a).yld i H x H' → (gName j) x (wipe σ vs) H' fun σ2 H2 => wipe σ2 vs = wipe σ vs ∧ tt σ2 H2 fun b H3 =>
        if b = true then te σ2 H3 fun y H4 => ∃ acc, H4 D = some (.lst acc) ∧ acc.length < sizeLine ∧ Nx (upd H4 D (.lst (acc ++ [y]))) else Nx H3) := by
  refine lc_tup (xs := xs) (fun i H => ∃ acc, Same H1 H ∧ H D = some (.lst acc) ∧ acc.length ≤ i ∧ ok i acc) ⟨[], same_upd hD, upd_same, Nat.le_refl _, h0⟩ (fun i H _ p => ?_) (fun i x H hi p => ?_) (fun H p => ?_)
  · obtain ⟨acc, p2, _⟩ := p
    exact ssqt p2 hx
  · obtain ⟨acc, p2, p3, p4, p5⟩ := p
    have hil : i < xs.length := (List.getElem?_eq_some_iff.mp hi).1
    refine ⟨hw _, turn i x H acc hi p2 p5 p4 _ _ (fun y H' q2 q3 => ⟨acc, q2 _ _ p3, szLt (by omega), acc ++ [y], smut (p2.trans q2) hD, upd_same, ?_, q3⟩) (fun H' q2 q3 => ⟨acc, p2.trans q2, q2 _ _ p3, by omega, q3⟩)⟩
    rw [List.length_append]
    show acc.length + 1 ≤ i + 1
    omega
  · obtain ⟨acc, p2, p3, p4, p5⟩ := p
    exact done H acc p2 p3 p4 p5
end

/-- what the top leaves of the names that the text reads -/
structure Bi (mg : Str → Option Value) : Prop where
  ValueError : mg "ValueError" = none
  enumerate : mg "enumerate" = none
  range : mg "range" = none
  tuple : mg "tuple" = none
  isinstance : mg "isinstance" = none
  int : mg "int" = none
  all : mg "all" = none
  len : mg "len" = none
  bool : mg "bool" = none
  str : mg "str" = none
  min : mg "min" = none

/-! ### _law_pool, _law_draw -/
abbrev s_law_pool : Stmt := topS 19
theorem sc_law_pool : FnScope ["_law_script", "_law_great", "_law_cell"] ["_law_script"] (defScope s_law_pool) := ⟨rfl, rfl, rfl, by decide +kernel, rfl, by decide +kernel, by decide +kernel⟩
abbrev s_law_draw : Stmt := topS 20
theorem sc_law_draw : FnScope ["_law_pool_here", "_law_many", "_law_cell"] ["_law_pool_here", "_law_many"] (defScope s_law_draw) := ⟨rfl, rfl, rfl, by decide +kernel, rfl, by decide +kernel, by decide +kernel⟩
section
variable {P : Program} {w : World} {K : PySem.W.Frag} {mg : Str → Option Value} {base : Heap}
def spPool (K : PySem.W.Frag) : Sp := fun vs H Q _ => ∃ (l : Addr) (ns : List Int), vs = [.ref l] ∧ SqL K H l (ns.map V.int) ∧ ns.length ≤ 63 ∧ ∀ H' a, Same H H' → Pool H' a 0 → Q (.ref a.p) H'
theorem ok_pool {f : Addr} {fd : FuncData} (F : Fun K "_law_pool" "_law_pool" s_law_pool f fd) : FnOk P w K mg base CX0 1 f fd ["_law_script"] (spPool K) := by
  refine F.ok sc_law_pool (fun vs H Q E h => ?_) (fun cdv A outer s H vs Q E hr h => ?_)
  · obtain ⟨l, ns, rfl, _⟩ := h
    rfl
  · obtain ⟨l, ns, rfl, hS, hlen, q⟩ := h
    refine ⟨_, (pss_cons (ps_setLc (i := 1) (own := [("_law_cell", 2)]) (g := gName 2) (by rfl) sc_law_pool.nd rfl rfl (sw_true rfl rfl rfl (by decide +kernel)) (pi_list (pv 0)) (blkOk_by (own := [("_law_cell", 2)]) (N := ["_law_script", "_law_great", "_law_cell"]) (sc := defScope s_law_pool) (by decide +kernel)) (fun _ _ _ _ _ => (pg_name (i := 2) sc_law_pool.nd rfl (.inl rfl))) (fun _ _ _ _ _ => (pts_one (pt_cmpR op_ge (pv 2) (pe_op op_pow pe_int pe_int) (nomark _)))) (fun _ _ _ _ _ => (pv 2)))
      (pss_one (ps_ret (pe_lst (pa_cons (pv 1) (pa_cons (pe_lc (own := [("_law_cell", 2)]) (g := gName 2) rfl sc_law_pool.nd (pi_list (pv 0)) (blkOk_by (own := [("_law_cell", 2)]) (N := ["_law_script", "_law_great", "_law_cell"]) (sc := defScope s_law_pool) (by decide +kernel)) (fun _ _ _ _ _ => (pg_name (i := 2) sc_law_pool.nd rfl (.inl rfl))) (fun _ _ _ _ _ => (pts_one (pt_cmpR op_lt (pv 2) (pe_op op_pow pe_int pe_int) (nomark _)))) (fun _ _ _ _ _ => (pv 2))) (pa_cons pe_int (pa_cons pe_int pa_nil)))))))), ?_⟩
    refine ⟨_, rfl, l, rfl, ⟨_, hS⟩, fun D hD => lc_listS (K := K) (a := l) (xs := ns.map V.int) (fun i acc => ∃ gs : List Int, acc = gs.map V.int) hS hD (by rw [List.length_map]; omega) ⟨[], rfl⟩ (fun _ => rfl) ?_ ?_⟩
    · intro i x H1 acc hx s1 ⟨gs, hg⟩ _ N1 N2 k1 k2
      obtain ⟨z, hz, rfl⟩ := map_get hx
      refine ⟨_, rfl, _, _, rfl, rfl, ⟨by decide, by decide, by decide⟩, _, _, rfl, rfl, _, rfl, ite2 (fun e => ?_) (fun e => ?_)⟩
      · exact ⟨_, rfl, k1 _ _ (Same.refl _) ⟨gs ++ [z], by rw [hg, List.map_append]; rfl⟩⟩
      · exact k2 _ (Same.refl _) ⟨gs, hg⟩
    · intro H1 acc s1 hD1 la ⟨gs, hg⟩
      subst hg
      have hS1 : SqL K H1 l (ns.map V.int) := s1.seq hS
      refine ⟨_, rfl, _, rfl, l, rfl, ⟨_, hS1⟩, fun D2 hD2 => lc_listS (K := K) (a := l) (xs := ns.map V.int) (fun i acc => ∃ gs : List Int, acc = gs.map V.int) hS1 hD2 (by rw [List.length_map]; omega) ⟨[], rfl⟩ (fun _ => rfl) ?_ ?_⟩
      · intro i x H2 acc hx s2 ⟨gs, hg⟩ _ N1 N2 k1 k2
        obtain ⟨z, hz, rfl⟩ := map_get hx
        refine ⟨_, rfl, _, _, rfl, rfl, ⟨by decide, by decide, by decide⟩, _, _, rfl, rfl, _, rfl, ite2 (fun e => ?_) (fun e => ?_)⟩
        · exact ⟨_, rfl, k1 _ _ (Same.refl _) ⟨gs ++ [z], by rw [hg, List.map_append]; rfl⟩⟩
        · exact k2 _ (Same.refl _) ⟨gs, hg⟩
      · intro H2 acc s2 hD2' la2 ⟨ss, hs⟩
        subst hs
        refine ⟨by show 4 ≤ sizeLine; decide, fun p hp => q _ ⟨p, D, D2⟩ ((s1.trans s2).trans (same_upd hp)) ⟨gs, ss, 5, 0, upd_same, ?_, ?_, ?_, ?_, by decide, by decide, by decide, by decide, ?_⟩⟩
        · show upd H2 p _ D = _
          rw [upd_ne (ne_of_none (s2 _ _ hD1) hp)]
          exact s2 _ _ hD1
        · show upd H2 p _ D2 = _
          rw [upd_ne (ne_of_none hD2' hp)]
          exact hD2'
        · rw [List.length_map, List.length_map] at la
          omega
        · rw [List.length_map, List.length_map] at la2
          omega
        · exact (ne_of_none hD1 hD2).symm
def spDraw : Sp := fun vs H Q _ => ∃ (a : PA) (c : Nat) (m : Int), vs = [.ref a.p, .int m] ∧ Pool H a c ∧ c < 1000000 ∧ 0 < m ∧ m < 1073741824 ∧
  ∀ H' r, 0 ≤ r → r < m → Pool H' a (c + 1) → Kp a H H' → Q (.int r) H'
theorem ok_draw {f : Addr} {fd : FuncData} (F : Fun K "_law_draw" "_law_draw" s_law_draw f fd) (T : Bi mg) : FnOk P w K mg base CX0 1 f fd ["_law_pool_here", "_law_many"] spDraw := by
  refine F.ok sc_law_draw (fun vs H Q E h => ?_) (fun cdv A outer s H vs Q E hr h => ?_)
  · obtain ⟨a, c, m, rfl, _⟩ := h
    rfl
  · obtain ⟨⟨p, g, s⟩, c, m, rfl, PP, hc, hm0, hm1, q⟩ := h
    obtain ⟨gs, ss, st, ct, a1, a2, a3, a4, a5, a6, a7, a8, a9, a10⟩ := PP.ex
    have npg : p ≠ g := ne_of a1 a2 (by intro q; have := HO.lst.inj q; cases gs <;> cases this)
    have nps : p ≠ s := ne_of a1 a3 (by intro q; have := HO.lst.inj q; cases ss <;> cases this)
    refine ⟨_, (pss_cons (ps_if (pt_cmpR op_gt (pe_callB call_len_seq (by rfl) T.len PySem.boot_len (pa_cons (pe_ix ix_list (pv 0) pe_int (fun _ _ => rfl)) pa_nil)) pe_int (nomark _))
        (pss_cons (ps_set (i := 2) sc_law_draw.nd rfl (.inl rfl) (pe_ix ix_list (pe_ix ix_list (pv 0) pe_int (fun _ _ => rfl)) pe_int (fun _ _ => rfl)))
        (pss_cons (ps_asg (pe_op op_fdiv (pv 2) (pv 1)) (pg_sub (pe_ix ix_list (pv 0) pe_int (fun _ _ => rfl)) pe_int set_list))
        (pss_cons (ps_if (pt_cmpR op_eq (pe_op op_fdiv (pv 2) (pv 1)) pe_int (nomark _))
          (pss_one (ps_expr (pe_bm PySem.F.plainAttrs_list PySem.F.slot_list_pop PySem.F.type_list_pop mt_popAt (pe_ix ix_list (pv 0) pe_int (fun _ _ => rfl)) (pa_cons pe_int pa_nil))))
          pss_nil)
        (pss_one (ps_ret (pe_op op_mod (pv 2) (pv 1)))))))
        pss_nil)
      (pss_cons (ps_asg (pe_op op_add (pe_ix ix_list (pv 0) pe_int (fun _ _ => rfl)) pe_int) (pg_sub (pv 0) pe_int set_list))
      (pss_cons (ps_set (i := 2) sc_law_draw.nd rfl (.inl rfl) pe_int)
      (pss_cons (ps_if (pt_cmpR op_gt (pe_callB call_len_seq (by rfl) T.len PySem.boot_len (pa_cons (pe_ix ix_list (pv 0) pe_int (fun _ _ => rfl)) pa_nil)) pe_int (nomark _))
        (pss_one (ps_set (i := 2) sc_law_draw.nd rfl (.inl rfl) (pe_ix ix_list (pe_ix ix_list (pv 0) pe_int (fun _ _ => rfl)) (pe_op op_mod (pe_ix ix_list (pv 0) pe_int (fun _ _ => rfl)) (pe_callB call_len_seq (by rfl) T.len PySem.boot_len (pa_cons (pe_ix ix_list (pv 0) pe_int (fun _ _ => rfl)) pa_nil))) (fun _ _ => rfl))))
        pss_nil)
      (pss_cons (ps_set (i := 2) sc_law_draw.nd rfl (.inl rfl) (pe_op op_mul (pe_op op_mod (pv 2) pe_int) (pe_op op_add (pe_op op_mul (pe_ix ix_list (pv 0) pe_int (fun _ _ => rfl)) (pe_ix ix_list (pv 0) pe_int (fun _ _ => rfl))) pe_int)))
      (pss_cons (ps_asg (pe_op op_mod (pe_op op_add (pe_op op_add (pe_op op_mul (pe_ix ix_list (pv 0) pe_int (fun _ _ => rfl)) pe_int) (pv 2)) (pe_op op_mul pe_int (pe_ix ix_list (pv 0) pe_int (fun _ _ => rfl)))) pe_int) (pg_sub (pv 0) pe_int set_list))
      (pss_one (ps_ret (pe_op op_mod (pe_op op_fdiv (pe_op op_mod (pe_op op_pow (pe_ix ix_list (pv 0) pe_int (fun _ _ => rfl)) pe_int) pe_int) pe_int) (pv 1)))))))))), ?_⟩
    -- if len(pool[0]) > 0
    refine ⟨_, rfl, p, _, _, _, rfl, rfl, SqL.of a1, at_of (j := 0) rfl rfl, g, _, rfl, .inl (SqL.of a2), _, _, rfl, rfl, _, rfl, ite2 (fun e => ?_) (fun e => ?_)⟩
    · obtain ⟨z, r, rfl⟩ : ∃ z r, gs = z :: r := by
        cases gs with
        | nil => exact absurd e (by decide)
        | cons z r => exact ⟨z, r, rfl⟩
      refine ⟨_, rfl, p, _, _, _, rfl, rfl, SqL.of a1, at_of (j := 0) rfl rfl, g, _, _, .int z, rfl, rfl, SqL.of a2, at_of (j := 0) rfl rfl, ?_⟩
      have a1' : ∀ o, upd H g o p = some (.lst [.ref g, .ref s, .int st, .int ct]) := fun o => by
        rw [upd_ne npg]
        exact a1
      have a3' : ∀ o, upd H g o s = some (.lst (ss.map V.int)) := fun o => by
        rw [upd_ne a10]
        exact a3
      refine ⟨_, rfl, _, rfl, _, _, rfl, rfl, ⟨hm0, hm1⟩, _, rfl, p, _, _, _, rfl, rfl, SqL.of a1, at_of (j := 0) rfl rfl, g, _, 0, 0, rfl, rfl, a2, ixN0 (by simp), ?_⟩
      refine ⟨_, rfl, _, rfl, _, _, rfl, rfl, ⟨hm0, hm1⟩, rfl, _, rfl, ite2 (fun e0 => ?_) (fun e0 => ?_)⟩
      · refine ⟨_, rfl, p, _, _, _, rfl, rfl, SqL.of (a1' _), at_of (j := 0) rfl rfl, .inl ⟨rfl, _, SqL.of upd_same⟩, g, _, 0, 0, _, rfl, rfl, upd_same, by decide, by decide, six0 (by simp), rfl, ?_⟩
        refine ⟨_, rfl, _, rfl, _, _, rfl, rfl, hm0, ?_⟩
        refine q _ _ (Int.emod_nonneg _ (by omega)) (Int.emod_lt_of_pos _ hm0) ⟨r, ss, st, ct, ?_, ?_, ?_, ?_, a5, a6, a7, a8, by omega, a10⟩ (fun b o hb n => ?_)
        · rw [upd_upd]
          exact a1' _
        · show upd _ g _ g = _
          rw [upd_same]
          rfl
        · rw [upd_upd]
          exact a3' _
        · simp at a4
          omega
        · rw [upd_ne n.2.1, upd_ne n.2.1]
          exact hb
      · refine ⟨_, rfl, _, rfl, _, _, rfl, rfl, hm0, ?_⟩
        refine q _ _ (Int.emod_nonneg _ (by omega)) (Int.emod_lt_of_pos _ hm0) ⟨(z / m) :: r, ss, st, ct, a1' _, ?_, a3' _, ?_, a5, a6, a7, a8, by omega, a10⟩ (fun b o hb n => ?_)
        · show upd _ g _ g = _
          rw [upd_same]
          rfl
        · simpa using a4
        · rw [upd_ne n.2.1]
          exact hb
    · -- pool[3] = pool[3] + 1
      refine ⟨_, rfl, p, _, _, _, rfl, rfl, SqL.of a1, at_of (j := 3) rfl rfl, _, _, rfl, rfl, _, rfl, p, _, 3, 3, rfl, rfl, a1, rfl, ?_⟩
      have w1 : upd H p (.lst [.ref g, .ref s, .int st, .int (ct + 1)]) p = some (.lst [.ref g, .ref s, .int st, .int (ct + 1)]) := upd_same
      have w2 : ∀ o, upd H p o g = some (.lst (gs.map V.int)) := fun o => by
        rw [upd_ne npg.symm]
        exact a2
      have w3 : ∀ o, upd H p o s = some (.lst (ss.map V.int)) := fun o => by
        rw [upd_ne nps.symm]
        exact a3
      -- cell = 0; if len(pool[1]) > 0
      refine ⟨_, rfl, p, _, _, _, rfl, rfl, SqL.of w1, at_of (j := 1) rfl rfl, s, _, rfl, .inl (SqL.of (w3 _)), _, _, rfl, rfl, _, rfl, ite2 (fun e => ?_) (fun e => ?_)⟩
      · have l0 : 0 < ss.length := by
          have := of_decide_eq_true e
          simpa using this
        have l1 : 0 ≤ (ct + 1) % (ss.length : Int) := Int.emod_nonneg _ (by omega)
        have l2 : (ct + 1) % (ss.length : Int) < ss.length := Int.emod_lt_of_pos _ (by omega)
        obtain ⟨j, ej⟩ : ∃ j : Nat, (ct + 1) % (ss.length : Int) = (j : Int) := ⟨_, (Int.toNat_of_nonneg l1).symm⟩
        have hj : j < ss.length := by omega
        have gj : (ss.map V.int)[j]? = some (.int ss[j]) := get_map (List.getElem?_eq_getElem hj)
        refine ⟨_, rfl, p, _, _, _, rfl, rfl, SqL.of w1, at_of (j := 1) rfl rfl, _, rfl, p, _, _, _, rfl, rfl, SqL.of w1, at_of (j := 3) rfl rfl, _, rfl, p, _, _, _, rfl, rfl, SqL.of w1, at_of (j := 1) rfl rfl, s, _, rfl, .inl (SqL.of (w3 _)), _, _, rfl, rfl, (by rw [List.length_map]; omega),
          s, _, _, _, rfl, rfl, SqL.of (w3 _), at_of (by rw [List.length_map]; exact ej) gj, ?_⟩
        generalize ss[j] = y
        refine ⟨_, rfl, _, _, rfl, rfl, (by show (0 : Int) < _; decide), _, rfl, p, _, _, _, rfl, rfl, SqL.of w1, at_of (j := 3) rfl rfl, _, rfl, p, _, _, _, rfl, rfl, SqL.of w1, at_of (j := 3) rfl rfl, _, _, rfl, rfl, .inl ⟨by omega, by omega⟩, _, _, rfl, rfl, _, _, rfl, rfl, .inl ⟨by omega, by omega⟩, ?_⟩
        refine ⟨_, rfl, p, _, _, _, rfl, rfl, SqL.of w1, at_of (j := 2) rfl rfl, _, _, rfl, rfl, .inl ⟨by omega, by omega⟩, _, rfl, _, _, rfl, rfl, _, rfl, p, _, _, _, rfl, rfl, SqL.of w1, at_of (j := 3) rfl rfl, _, _, rfl, rfl, .inl ⟨by omega, by omega⟩, _, _, rfl, rfl, _, _, rfl, rfl, (by show (0 : Int) < _; decide), _, rfl, p, _, 2, 2, rfl, rfl, w1, rfl, ?_⟩
        dsimp only [List.set]
        generalize hz : ((st * 48271 + y % 2147483629 * ((ct + 1) * (ct + 1) + 1) + 97 * (ct + 1)) % 2147483647 : Int) = z
        have hz0 : 0 ≤ z := by omega
        have hz1 : z < 2147483647 := by omega
        have w5 : upd (upd H p (.lst [.ref g, .ref s, .int st, .int (ct + 1)])) p (.lst [.ref g, .ref s, .int z, .int (ct + 1)]) p = some (.lst [.ref g, .ref s, .int z, .int (ct + 1)]) := upd_same
        refine ⟨_, rfl, p, _, _, _, rfl, rfl, SqL.of w5, at_of (j := 2) rfl rfl, _, _, rfl, rfl, ⟨by decide, by decide, by omega⟩, _, _, rfl, rfl, (by show (0 : Int) < _; decide), _, _, rfl, rfl, ⟨by decide, by decide⟩, _, rfl, _, _, rfl, rfl, hm0, ?_⟩
        refine q _ _ (Int.emod_nonneg _ (by omega)) (Int.emod_lt_of_pos _ hm0) ⟨gs, ss, z, ct + 1, w5, ?_, ?_, a4, a5, hz0, hz1, by omega, by omega, a10⟩ (fun b o hb n => ?_)
        · rw [upd_upd]
          exact w2 _
        · rw [upd_upd]
          exact w3 _
        · rw [upd_upd, upd_ne n.1]
          exact hb
      · refine ⟨_, rfl, _, _, rfl, rfl, (by show (0 : Int) < _; decide), _, rfl, p, _, _, _, rfl, rfl, SqL.of w1, at_of (j := 3) rfl rfl, _, rfl, p, _, _, _, rfl, rfl, SqL.of w1, at_of (j := 3) rfl rfl, _, _, rfl, rfl, .inl ⟨by omega, by omega⟩, _, _, rfl, rfl, _, _, rfl, rfl, .inl ⟨by omega, by omega⟩, ?_⟩
        refine ⟨_, rfl, p, _, _, _, rfl, rfl, SqL.of w1, at_of (j := 2) rfl rfl, _, _, rfl, rfl, .inl ⟨by omega, by omega⟩, _, rfl, _, _, rfl, rfl, _, rfl, p, _, _, _, rfl, rfl, SqL.of w1, at_of (j := 3) rfl rfl, _, _, rfl, rfl, .inl ⟨by omega, by omega⟩, _, _, rfl, rfl, _, _, rfl, rfl, (by show (0 : Int) < _; decide), _, rfl, p, _, 2, 2, rfl, rfl, w1, rfl, ?_⟩
        dsimp only [List.set]
        generalize hz : ((st * 48271 + 0 % 2147483629 * ((ct + 1) * (ct + 1) + 1) + 97 * (ct + 1)) % 2147483647 : Int) = z
        have hz0 : 0 ≤ z := by omega
        have hz1 : z < 2147483647 := by omega
        have w5 : upd (upd H p (.lst [.ref g, .ref s, .int st, .int (ct + 1)])) p (.lst [.ref g, .ref s, .int z, .int (ct + 1)]) p = some (.lst [.ref g, .ref s, .int z, .int (ct + 1)]) := upd_same
        refine ⟨_, rfl, p, _, _, _, rfl, rfl, SqL.of w5, at_of (j := 2) rfl rfl, _, _, rfl, rfl, ⟨by decide, by decide, by omega⟩, _, _, rfl, rfl, (by show (0 : Int) < _; decide), _, _, rfl, rfl, ⟨by decide, by decide⟩, _, rfl, _, _, rfl, rfl, hm0, ?_⟩
        refine q _ _ (Int.emod_nonneg _ (by omega)) (Int.emod_lt_of_pos _ hm0) ⟨gs, ss, z, ct + 1, w5, ?_, ?_, a4, a5, hz0, hz1, by omega, by omega, a10⟩ (fun b o hb n => ?_)
        · rw [upd_upd]
          exact w2 _
        · rw [upd_upd]
          exact w3 _
        · rw [upd_upd, upd_ne n.1]
          exact hb
end

def wordsL : List Str := ["yes", "no", "not", "and", "or", "step", "some", "all", "next", "once", "ever", "until", "unless"]
def lettersS : Str := "abcdefghijklmnopqrstuvwxyz"
structure Wd (K : PySem.W.Frag) (mg : Str → Option Value) where
  aW : Addr
  uL : Value
  gWORDS : mg "WORDS" = some (.ref aW)
  rWORDS : RelV (.ref aW) (.ref aW)
  sW : ∀ H, SqT K H aW (wordsL.map V.str)
  gLETTERS : mg "LETTERS" = some uL
  rLETTERS : RelV (.str lettersS) uL
/-- a text that is_name takes -/
structure GoodName (z : Str) : Prop where
  lo : 1 ≤ z.length
  hi : z.length ≤ 8
  nw : z ∉ wordsL
  al : ∀ c ∈ z.cps.toList, c ∈ lettersS.cps.toList
theorem flat_str (xs : List Str) : (xs.map V.str).all flatV = true := by
  rw [List.all_map, List.all_eq_true]
  exact fun _ _ => rfl
theorem flat_int (xs : List Int) : (xs.map V.int).all flatV = true := by
  rw [List.all_map, List.all_eq_true]
  exact fun _ _ => rfl
theorem inV_str (z : Str) (xs : List Str) : inV (.str z) (xs.map V.str) = decide (z ∈ xs) := by
  unfold inV
  rw [List.any_map]
  by_cases h : z ∈ xs
  · rw [decide_eq_true h, List.any_eq_true]
    exact ⟨z, h, by simp [Function.comp, eqV]⟩
  · rw [decide_eq_false h, List.any_eq_false]
    intro y hy q
    exact h (by simp [Function.comp, eqV] at q; rw [← q]; exact hy)
theorem inV_int (z : Int) (xs : List Int) : inV (.int z) (xs.map V.int) = decide (z ∈ xs) := by
  unfold inV
  rw [List.any_map]
  by_cases h : z ∈ xs
  · rw [decide_eq_true h, List.any_eq_true]
    exact ⟨z, h, by simp [Function.comp, eqV]⟩
  · rw [decide_eq_false h, List.any_eq_false]
    intro y hy q
    exact h (by simp [Function.comp, eqV] at q; rw [← q]; exact hy)

/-! ### rising rows -/
/-- a rising row of numbers below many -/
def RiseI (many : Int) (ns : List Int) : Prop := ns.Pairwise (· < ·) ∧ ∀ n ∈ ns, 0 ≤ n ∧ n < many
theorem rise_len {many : Int} {ns : List Int} (h : RiseI many ns) (hm : 0 ≤ many) : (ns.length : Int) ≤ many := by
  have key : ∀ (ns : List Int) (lo : Int), ns.Pairwise (· < ·) → (∀ n ∈ ns, lo ≤ n ∧ n < many) → lo ≤ many → (ns.length : Int) ≤ many - lo := by
    intro ns
    induction ns with
    | nil =>
      intro lo _ _ h
      show (0 : Int) ≤ _
      omega
    | cons x r ih =>
      intro lo hp hb hl
      obtain ⟨p1, p2⟩ := List.pairwise_cons.mp hp
      have b1 := hb x List.mem_cons_self
      have := ih (x + 1) p2 (fun n hn => ⟨by have := p1 n hn; omega, (hb n (List.mem_cons_of_mem _ hn)).2⟩) (by omega)
      rw [List.length_cons]
      omega
  have := key ns 0 h.1 h.2 hm
  omega
/-- a rising row of names -/
def RiseS (zs : List Str) : Prop := zs.Pairwise (fun x y => x.cps.toList < y.cps.toList) ∧ ∀ z ∈ zs, GoodName z

/-! ### fairtrees.machines, on what it takes -/
structure MachAt (K : PySem.W.Frag) (H : Hp) (m : Addr) (steps : List (List Int)) (marks : List (List Str)) : Prop where
  ex : ∃ (s k : Addr) (sa ka : List Addr), SqT K H m [.ref s, .ref k] ∧ SqT K H s (sa.map V.ref) ∧ SqT K H k (ka.map V.ref) ∧
    Each (fun a ns => SqT K H a (ns.map V.int)) sa steps ∧ Each (fun a zs => SqT K H a (zs.map V.str)) ka marks
structure GoodMach (steps : List (List Int)) (marks : List (List Str)) : Prop where
  len : steps.length = marks.length
  lo : 1 ≤ steps.length
  hi : steps.length ≤ 40
  st : ∀ r ∈ steps, RiseI steps.length r
  mr : ∀ r ∈ marks, RiseS r ∧ r.length ≤ 8
theorem MachAt.imm {K : PySem.W.Frag} {H H' : Hp} {m : Addr} {steps : List (List Int)} {marks : List (List Str)} (M : MachAt K H m steps marks) (e : Imm H H') : MachAt K H' m steps marks := by
  obtain ⟨s, k, sa, ka, h1, h2, h3, h4, h5⟩ := M.ex
  exact ⟨s, k, sa, ka, e.sq h1, e.sq h2, e.sq h3, h4.imp fun _ _ h => e.sq h, h5.imp fun _ _ h => e.sq h⟩
structure WishAt (K : PySem.W.Frag) (H : Hp) (t : Addr) (ws : List (Str × Str)) : Prop where
  ex : ∃ wa : List Addr, SqT K H t (wa.map V.ref) ∧ Each (fun a (x : Str × Str) => SqT K H a [.str x.1, .str x.2]) wa ws
theorem WishAt.imm {K : PySem.W.Frag} {H H' : Hp} {t : Addr} {ws : List (Str × Str)} (M : WishAt K H t ws) (e : Imm H H') : WishAt K H' t ws := by
  obtain ⟨wa, h1, h2⟩ := M.ex
  exact ⟨wa, e.sq h1, h2.imp fun _ _ h => e.sq h⟩
theorem ref_get {as : List Addr} {i : Nat} {v : V} (h : (as.map V.ref)[i]? = some v) : ∃ a, as[i]? = some a ∧ v = .ref a := map_get h
theorem dec_str (x y : Str) : decide (V.str x = V.str y) = decide (x = y) := by
  by_cases h : x = y
  · rw [decide_eq_true h, decide_eq_true (by rw [h])]
  · rw [decide_eq_false h, decide_eq_false fun q => h (V.str.inj q)]
theorem dec_int (x y : Int) : decide (V.int x = V.int y) = decide (x = y) := by
  by_cases h : x = y
  · rw [decide_eq_true h, decide_eq_true (by rw [h])]
  · rw [decide_eq_false h, decide_eq_false fun q => h (V.int.inj q)]
/-- the standings that bear a name -/
def bearersOf (marks : List (List Str)) (z : Str) (n : Nat) : List Int := ((List.range n).filter fun j => decide (z = Str.ofString "") || decide (z ∈ marks.getD j [])).map Int.ofNat
theorem bearersOf_yes {marks : List (List Str)} {z : Str} {n : Nat} (h : (decide (z = Str.ofString "") || decide (z ∈ marks.getD n [])) = true) : bearersOf marks z (n + 1) = bearersOf marks z n ++ [(n : Int)] := by
  unfold bearersOf
  rw [List.range_succ, List.filter_append, List.map_append, List.filter_cons, if_pos h] <;> rfl
theorem bearersOf_no {marks : List (List Str)} {z : Str} {n : Nat} (h : (decide (z = Str.ofString "") || decide (z ∈ marks.getD n [])) = false) : bearersOf marks z (n + 1) = bearersOf marks z n := by
  unfold bearersOf
  rw [List.range_succ, List.filter_append, List.map_append, List.filter_cons, if_neg (by rw [h]; decide)]
  show _ ++ [] = _
  rw [List.append_nil]

/-! ### _law_name, _law_names -/
theorem letters_eq : lettersS.cps.toList = List.range' 97 26 := by decide +kernel
theorem letters_at {j : Nat} (hj : j < 26) : lettersS.cps.toList[j]? = some (97 + j) := by
  rw [letters_eq, List.getElem?_range' hj]
  simp
theorem letters_len : lettersS.length ≤ 100000 := by
  show lettersS.cps.size ≤ 100000
  rw [← Array.length_toList, letters_eq]
  simp
theorem letters_mem {j : Nat} (hj : j < 26) : 97 + j ∈ lettersS.cps.toList := List.mem_of_getElem? (letters_at hj)
def Alpha (z : Str) : Prop := ∀ c ∈ z.cps.toList, c ∈ lettersS.cps.toList
theorem app_list (x y : Str) : (x ++ y).cps.toList = x.cps.toList ++ y.cps.toList := by
  show (x.cps ++ y.cps).toList = _
  rw [Array.toList_append]
theorem app_len (x y : Str) : (x ++ y).length = x.length + y.length := by
  show (x ++ y).cps.size = x.cps.size + y.cps.size
  rw [← Array.length_toList, ← Array.length_toList, ← Array.length_toList, app_list, List.length_append]
theorem alpha_app {x : Str} {j : Nat} (h : Alpha x) (hj : j < 26) : Alpha (x ++ ⟨#[97 + j]⟩) := fun c hc => by
  rw [app_list] at hc
  rcases List.mem_append.mp hc with hc | hc
  · exact h c hc
  · have e : c = 97 + j := by simpa using hc
    rw [e]
    exact letters_mem hj
theorem pigeon {α : Type} [BEq α] [LawfulBEq α] : ∀ (l m : List α), l.Nodup → (∀ x ∈ l, x ∈ m) → l.length ≤ m.length
  | [], _, _, _ => Nat.zero_le _
  | x :: r, m, nd, h => by
    obtain ⟨n1, n2⟩ := List.nodup_cons.mp nd
    have hx := h x List.mem_cons_self
    have := pigeon r (m.erase x) n2 fun y hy => (List.mem_erase_of_ne (fun q => n1 (by rw [← q]; exact hy))).mpr (h y (List.mem_cons_of_mem _ hy))
    rw [List.length_erase_of_mem hx] at this
    have : 0 < m.length := List.length_pos_of_mem hx
    rw [List.length_cons]
    omega
/-- what the loop tries at its k-th turn -/
def cand (nm : Str) (last k : Nat) : Str := nm ++ ⟨#[97 + (last + k) % 26]⟩
theorem cand_inj {nm : Str} {last j k : Nat} (hj : j < 26) (hk : k < 26) (h : cand nm last j = cand nm last k) : j = k := by
  have e : (cand nm last j).cps.toList = (cand nm last k).cps.toList := by rw [h]
  unfold cand at e
  rw [app_list, app_list] at e
  have e2 := List.append_cancel_left e
  simp at e2
  omega
theorem cand_some {nm : Str} {last : Nat} {words taken : List Str} (hw : words.length + taken.length < 26) (h : ∀ j, j < 26 → cand nm last j ∈ words ∨ cand nm last j ∈ taken) : False := by
  have nd : ((List.range 26).map (cand nm last)).Nodup := by
    refine List.pairwise_map.mpr ((List.pairwise_lt_range (n := 26)).imp_of_mem fun ha hb hab e => ?_)
    have := cand_inj (List.mem_range.mp ha) (List.mem_range.mp hb) e
    omega
  have := pigeon _ (words ++ taken) nd fun x hx => by
    obtain ⟨j, hj, rfl⟩ := List.mem_map.mp hx
    exact List.mem_append.mpr (h j (List.mem_range.mp hj))
  rw [List.length_map, List.length_range, List.length_append] at this
  omega
abbrev s_law_name : Stmt := topS 21
theorem sc_law_name : FnScope ["_law_pool_here", "_law_start", "_law_taken", "_law_letters", "_law_name_here", "_law_k", "_law_last", "_law_words", "_law_found"] ["_law_pool_here", "_law_start", "_law_taken"] (defScope s_law_name) := ⟨rfl, rfl, rfl, by decide +kernel, rfl, by decide +kernel, by decide +kernel⟩
abbrev s_law_names : Stmt := topS 22
theorem sc_law_names : FnScope ["_law_pool_here", "_law_many", "_law_letters", "_law_start", "_law_k", "_law_names_here"] ["_law_pool_here", "_law_many"] (defScope s_law_names) := ⟨rfl, rfl, rfl, by decide +kernel, rfl, by decide +kernel, by decide +kernel⟩
section
variable {P : Program} {w : World} {K : PySem.W.Frag} {mg : Str → Option Value} {base : Heap}
def spLName : Sp := fun vs H Q _ => ∃ (a : PA) (c : Nat) (start : Str) (t : Addr) (taken : List Str), vs = [.ref a.p, .str start, .ref t] ∧ Pool H a c ∧ c < 900000 ∧ H t = some (.lst (taken.map V.str)) ∧ Off a t ∧ Alpha start ∧ start.length ≤ 4 ∧ taken.length ≤ 12 ∧
  ∀ H' z, GoodName z → z ∉ taken → Pool H' a (c + 5) → Kp a H H' → Q (.str z) H'
theorem ok_lname {f : Addr} {fd : FuncData} (F : Fun K "_law_name" "_law_name" s_law_name f fd) (T : Bi mg) (c_law_draw : Cal P w K mg base 1 "_law_draw" ["_law_pool_here", "_law_many"] spDraw) : FnOk P w K mg base CX0 2 f fd ["_law_pool_here", "_law_start", "_law_taken"] spLName := by
  refine F.ok sc_law_name (fun vs H Q E h => ?_) (fun cdv A outer s H vs Q E hr h => ?_)
  · obtain ⟨a, c, start, t, taken, rfl, _⟩ := h
    rfl
  · obtain ⟨a, c, start, t, taken, rfl, PP, hc, ht, ot, al, sl, tl, q⟩ := h
    refine ⟨_, (pss_cons (ps_set (i := 3) sc_law_name.nd rfl (.inl rfl) pe_str)
      (pss_cons (ps_set (i := 4) sc_law_name.nd rfl (.inl rfl) (pv 1))
      (pss_cons (ps_for PassesOwn.never rfl (pi_range1 (by rfl) T.range (pa_cons (pe_call c_law_draw.G hr (by rfl) c_law_draw.g c_law_draw.kp c_law_draw.b .nil pass0 (pa_cons (pv 0) (pa_cons pe_int pa_nil))) pa_nil)) (pg_name (i := 5) sc_law_name.nd rfl (.inl rfl))
        (pss_one (ps_set (i := 4) sc_law_name.nd rfl (.inl rfl) (pe_op op_add_str (pv 4) (pe_ix ix_str (pv 3) (pe_call c_law_draw.G hr (by rfl) c_law_draw.g c_law_draw.kp c_law_draw.b .nil pass0 (pa_cons (pv 0) (pa_cons pe_int pa_nil))) (fun _ _ => rfl))))))
      (pss_cons (ps_set (i := 6) sc_law_name.nd rfl (.inl rfl) (pe_call c_law_draw.G hr (by rfl) c_law_draw.g c_law_draw.kp c_law_draw.b .nil pass0 (pa_cons (pv 0) (pa_cons pe_int pa_nil))))
      (pss_cons (ps_set (i := 7) sc_law_name.nd rfl (.inl rfl) (pe_lst (pa_cons pe_str (pa_cons pe_str (pa_cons pe_str (pa_cons pe_str (pa_cons pe_str (pa_cons pe_str (pa_cons pe_str (pa_cons pe_str (pa_cons pe_str (pa_cons pe_str (pa_cons pe_str (pa_cons pe_str (pa_cons pe_str pa_nil)))))))))))))))
      (pss_cons (ps_for PassesOwn.never rfl (pi_range1 (by rfl) T.range (pa_cons pe_int pa_nil)) (pg_name (i := 5) sc_law_name.nd rfl (.inl rfl))
        (pss_cons (ps_set (i := 8) sc_law_name.nd rfl (.inl rfl) (pe_op op_add_str (pv 4) (pe_ix ix_str (pv 3) (pe_op op_mod (pe_op op_add (pv 6) (pv 5)) pe_int) (fun _ _ => rfl))))
        (pss_one (ps_if (PW.pt (pw_and (pt_cmpR op_notIn_seq (pv 8) (pv 7) (by rfl)) (pw_and1 (pt_cmpR op_notIn_seq (pv 8) (pv 2) (by rfl)))))
          (pss_one (ps_ret (pv 8)))
          pss_nil))))
      (pss_one (ps_ret (pe_op op_add_str (pv 4) pe_str))))))))), ?_⟩
    -- for k in range(draw(pool, 4))
    refine ⟨_, rfl, _, rfl, a, c, 4, rfl, PP, by omega, by decide, by decide, fun H1 r r0 r1 P1 k1 => ⟨r, rfl, by omega, by omega, for_range (lo := 0) (n := r.toNat) (fun i σ H' => ∃ nm y,
      σ = [some (.ref a.p), some (.str start), some (.ref t), some (.str lettersS), some (.str nm), y, none, none, none] ∧ Alpha nm ∧ nm.length = start.length + i ∧ Pool H' a (c + 1 + i) ∧ Kp a H H')
      ⟨start, none, rfl, al, rfl, P1, k1⟩ ?_ ?_⟩⟩
    · rintro i σ H2 hi ⟨nm, y, rfl, an, ln, P2, k2⟩
      refine ⟨_, rfl, _, rfl, _, rfl, a, _, 26, rfl, P2, by omega, by decide, by decide, fun H3 r' r0' r1' P3 k3 => ?_⟩
      obtain ⟨j, rfl⟩ : ∃ j : Nat, r' = (j : Int) := ⟨r'.toNat, by omega⟩
      have hj : j < 26 := by omega
      refine ⟨lettersS, _, 97 + j, rfl, rfl, szOk letters_len, atI_nat (letters_at hj), nm, _, rfl, rfl, ?_, ?_⟩
      · show nm.length + 1 ≤ sizeLine
        exact szOk (by omega)
      · refine ⟨nm ++ ⟨#[97 + j]⟩, _, rfl, alpha_app an hj, ?_, ?_, k2.trans k3⟩
        · rw [app_len, ln]
          rfl
        · exact P3
    · rintro σ H2 ⟨nm, y, rfl, an, ln, P2, k2⟩
      -- last = draw(pool, 26); words
      refine ⟨_, rfl, a, _, 26, rfl, P2, by omega, by decide, by decide, fun H3 r' r0' r1' P3 k3 => ?_⟩
      obtain ⟨last, rfl⟩ : ∃ j : Nat, r' = (j : Int) := ⟨r'.toNat, by omega⟩
      refine ⟨by show 13 ≤ sizeLine; decide, fun l hl => ?_⟩
      have hl2 : upd H3 l (.lst (wordsL.map V.str)) l = some (.lst (wordsL.map V.str)) := upd_same
      have ht3 : H3 t = some (.lst (taken.map V.str)) := (k2.trans k3) _ _ ht ot
      have ht4 : ∀ o, upd H3 l o t = some (.lst (taken.map V.str)) := fun o => by
        rw [upd_ne (ne_of_none ht3 hl)]
        exact ht3
      refine ⟨26, rfl, by decide, by decide, for_range (lo := 0) (n := 26) (fun i σ H' => ∃ y z,
        σ = [some (.ref a.p), some (.str start), some (.ref t), some (.str lettersS), some (.str nm), y, some (.int last), some (.ref l), z] ∧ H' = upd H3 l (.lst (wordsL.map V.str)) ∧ ∀ j, j < i → cand nm last j ∈ wordsL ∨ cand nm last j ∈ taken)
        ⟨_, _, rfl, rfl, fun j hj => absurd hj (Nat.not_lt_zero _)⟩ ?_ ?_⟩
      · rintro i σ H' hi ⟨y', z, rfl, rfl, all⟩
        have hm : (last + i) % 26 < 26 := Nat.mod_lt _ (by decide)
        have em : ((last : Int) + (0 + (i : Int))) % 26 = (((last + i) % 26 : Nat) : Int) := by omega
        refine ⟨_, rfl, _, rfl, _, rfl, _, rfl, _, _, rfl, rfl, _, _, rfl, rfl, (by show (0 : Int) < _; decide), lettersS, _, 97 + (last + i) % 26, rfl, rfl, szOk letters_len, (by
          show atI _ (((last : Int) + (0 + (i : Int))) % 26) = _
          rw [em]
          exact atI_nat (letters_at hm)), nm, _, rfl, rfl, ?_, ?_⟩
        · show nm.length + 1 ≤ sizeLine
          exact szOk (by omega)
        · refine ⟨_, rfl, _, rfl, l, _, rfl, .inl (SqL.of hl2), rfl, flat_str _, _, rfl, ?_⟩
          rw [inV_str]
          refine ite2 (fun e => ?_) (fun e => ?_)
          · refine ⟨_, rfl, _, rfl, t, _, rfl, .inl (SqL.of (ht4 _)), rfl, flat_str _, _, rfl, ?_⟩
            rw [inV_str]
            refine ite2 (fun e2 => ?_) (fun e2 => ?_)
            · have n1 : cand nm last i ∉ wordsL := notdec e
              have n2 : cand nm last i ∉ taken := notdec e2
              have lc : (cand nm last i).length = nm.length + 1 := by
                unfold cand
                rw [app_len]
                rfl
              refine ⟨_, rfl, q _ (cand nm last i) ⟨by omega, by omega, n1, alpha_app an hm⟩ n2 ((P3.upd (P3.off hl)).mono (by omega)) ((k2.trans k3).mut ((k2.trans k3).free hl (P3.off hl)))⟩
            · refine ⟨_, _, rfl, rfl, fun j hj => ?_⟩
              by_cases h : j < i
              · exact all j h
              · have e3 : j = i := by omega
                rw [e3]
                exact .inr (dec_of e2)
          · refine iteF ⟨_, _, rfl, rfl, fun j hj => ?_⟩
            by_cases h : j < i
            · exact all j h
            · have e3 : j = i := by omega
              rw [e3]
              exact .inl (dec_of e)
      · rintro σ H' ⟨y', z, rfl, rfl, all⟩
        exact (cand_some (words := wordsL) (by show 13 + taken.length < 26; omega) all).elim
def spLNames : Sp := fun vs H Q _ => ∃ (a : PA) (c : Nat) (n : Nat), vs = [.ref a.p, .int n] ∧ Pool H a c ∧ c < 800000 ∧ n ≤ 12 ∧
  ∀ (H' : Hp) (l : Addr) (zs : List Str), Pool H' a (c + 5 + n * 5) → Kp a H H' → H' l = some (.lst (zs.map V.str)) → Off a l → zs.Nodup → (∀ z ∈ zs, GoodName z) → zs.length = n → Q (.ref l) H'
theorem ok_lnames {f : Addr} {fd : FuncData} (F : Fun K "_law_names" "_law_names" s_law_names f fd) (T : Bi mg) (c_law_draw : Cal P w K mg base 1 "_law_draw" ["_law_pool_here", "_law_many"] spDraw) (c_law_name : Cal P w K mg base 2 "_law_name" ["_law_pool_here", "_law_start", "_law_taken"] spLName) :
    FnOk P w K mg base CX0 3 f fd ["_law_pool_here", "_law_many"] spLNames := by
  refine F.ok sc_law_names (fun vs H Q E h => ?_) (fun cdv A outer s H vs Q E hr h => ?_)
  · obtain ⟨a, c, n, rfl, _⟩ := h
    rfl
  · obtain ⟨a, c, n, rfl, PP, hc, hn, q⟩ := h
    refine ⟨_, (pss_cons (ps_set (i := 2) sc_law_names.nd rfl (.inl rfl) pe_str)
      (pss_cons (ps_set (i := 3) sc_law_names.nd rfl (.inl rfl) pe_str)
      (pss_cons (ps_for PassesOwn.never rfl (pi_range1 (by rfl) T.range (pa_cons (pe_ix ix_list (pe_lst (pa_cons pe_int (pa_cons pe_int (pa_cons pe_int (pa_cons pe_int pa_nil))))) (pe_call c_law_draw.G (hr.mono (by decide)) (by rfl) c_law_draw.g c_law_draw.kp c_law_draw.b .nil pass0 (pa_cons (pv 0) (pa_cons pe_int pa_nil))) (fun _ _ => rfl)) pa_nil)) (pg_name (i := 4) sc_law_names.nd rfl (.inl rfl))
        (pss_one (ps_set (i := 3) sc_law_names.nd rfl (.inl rfl) (pe_op op_add_str (pv 3) (pe_ix ix_str (pv 2) (pe_call c_law_draw.G (hr.mono (by decide)) (by rfl) c_law_draw.g c_law_draw.kp c_law_draw.b .nil pass0 (pa_cons (pv 0) (pa_cons pe_int pa_nil))) (fun _ _ => rfl))))))
      (pss_cons (ps_set (i := 5) sc_law_names.nd rfl (.inl rfl) (pe_lst pa_nil))
      (pss_cons (ps_for PassesOwn.never rfl (pi_range1 (by rfl) T.range (pa_cons (pv 1) pa_nil)) (pg_name (i := 4) sc_law_names.nd rfl (.inl rfl))
        (pss_one (ps_expr (pe_bm PySem.F.plainAttrs_list PySem.F.slot_list_append PySem.F.type_list_append mt_append (pv 5) (pa_cons (pe_call c_law_name.G hr (by rfl) c_law_name.g c_law_name.kp c_law_name.b .nil pass0 (pa_cons (pv 0) (pa_cons (pv 3) (pa_cons (pv 5) pa_nil)))) pa_nil)))))
      (pss_one (ps_ret (pv 5)))))))), ?_⟩
    refine ⟨by show 4 ≤ sizeLine; decide, fun d hd => ⟨_, rfl, a, c, 4, rfl, PP.upd (PP.off hd), by omega, by decide, by decide, fun H1 r r0 r1 P1 k1 => ?_⟩⟩
    have k1' : Kp a H H1 := (skp (same_upd hd)).trans k1
    have hd1 : H1 d = some (.lst [.int 0, .int 0, .int 1, .int 4]) := k1 _ _ upd_same (PP.off hd)
    obtain ⟨v, v0, v1, hv⟩ : ∃ v : Int, 0 ≤ v ∧ v ≤ 4 ∧ atI [V.int 0, .int 0, .int 1, .int 4] r = some (.int v) := by
      have : r = 0 ∨ r = 1 ∨ r = 2 ∨ r = 3 := by omega
      rcases this with rfl | rfl | rfl | rfl
      · exact ⟨0, by decide, by decide, rfl⟩
      · exact ⟨0, by decide, by decide, rfl⟩
      · exact ⟨1, by decide, by decide, rfl⟩
      · exact ⟨4, by decide, by decide, rfl⟩
    refine ⟨d, _, r, .int v, rfl, rfl, SqL.of hd1, hv, v, rfl, by omega, by omega, for_range (lo := 0) (n := v.toNat) (fun i σ H' => ∃ nm y,
      σ = [some (.ref a.p), some (.int n), some (.str lettersS), some (.str nm), y, none] ∧ Alpha nm ∧ nm.length = i ∧ Pool H' a (c + 1 + i) ∧ Kp a H H')
      ⟨Str.ofString "", none, rfl, (fun c hc => absurd hc (by rw [show (Str.ofString "").cps.toList = [] by decide +kernel]; exact List.not_mem_nil)), (by decide +kernel), P1, k1'⟩ ?_ ?_⟩
    · rintro i σ H2 hi ⟨nm, y, rfl, an, ln, P2, k2⟩
      refine ⟨_, rfl, _, rfl, _, rfl, a, _, 26, rfl, P2, by omega, by decide, by decide, fun H3 r' r0' r1' P3 k3 => ?_⟩
      obtain ⟨j, rfl⟩ : ∃ j : Nat, r' = (j : Int) := ⟨r'.toNat, by omega⟩
      have hj : j < 26 := by omega
      refine ⟨lettersS, _, 97 + j, rfl, rfl, szOk letters_len, atI_nat (letters_at hj), nm, _, rfl, rfl, ?_, ?_⟩
      · show nm.length + 1 ≤ sizeLine
        exact szOk (by omega)
      · refine ⟨nm ++ ⟨#[97 + j]⟩, _, rfl, alpha_app an hj, ?_, P3, k2.trans k3⟩
        rw [app_len, ln]
        rfl
    · rintro σ H2 ⟨nm, y, rfl, an, ln, P2, k2⟩
      refine ⟨Nat.zero_le _, fun l hl => ?_⟩
      have ol := P2.off hl
      have hl0 := k2.free hl ol
      refine ⟨_, rfl, n, rfl, by omega, by omega, for_range (lo := 0) (n := (n : Int).toNat) (fun i σ H' => ∃ (zs : List Str) (y : Option V),
        σ = [some (.ref a.p), some (.int n), some (.str lettersS), some (.str nm), y, some (.ref l)] ∧ zs.length = i ∧ zs.Nodup ∧ (∀ z ∈ zs, GoodName z) ∧ H' l = some (.lst (zs.map V.str)) ∧ Pool H' a (c + 5 + i * 5) ∧ Kp a H H')
        ⟨[], _, rfl, rfl, List.nodup_nil, (fun z hz => absurd hz List.not_mem_nil), upd_same, ((P2.mono (by omega)).upd ol), k2.mut hl0⟩ ?_ ?_⟩
      · rintro i σ H3 hi ⟨zs, y', rfl, lz, nz, gz, hz, P3, k3⟩
        refine ⟨_, rfl, .inl ⟨rfl, _, SqL.of hz⟩, _, rfl, _, rfl, _, rfl, a, _, nm, l, zs, rfl, P3, by omega, hz, ol, an, by omega, by omega, fun H4 z g4 n4 P4 k4 => ?_⟩
        have hz4 := k4 _ _ hz ol
        refine ⟨l, _, _, rfl, rfl, hz4, szLt (by rw [List.length_map]; omega), zs ++ [z], _, rfl, ?_, ?_, ?_, ?_, ?_, ?_⟩
        · rw [List.length_append, lz]
          rfl
        · rw [List.nodup_append]
          refine ⟨nz, by simp, fun x hx y hy e => ?_⟩
          have : y = z := by simpa using hy
          rw [this] at e
          exact n4 (by rw [← e]; exact hx)
        · intro x hx
          rcases List.mem_append.mp hx with hx | hx
          · exact gz x hx
          · have : x = z := by simpa using hx
            rw [this]
            exact g4
        · rw [upd_same, List.map_append]
          rfl
        · rw [show c + 5 + (i + 1) * 5 = c + 5 + i * 5 + 5 by omega]
          exact P4.upd ol
        · exact (k3.trans k4).mut hl0
      · rintro σ H3 ⟨zs, y', rfl, lz, nz, gz, hz, P3, k3⟩
        rw [Int.toNat_natCast] at lz P3
        exact ⟨_, rfl, q _ l zs P3 k3 hz ol nz gz lz⟩
end

/-! ### fairtrees.signs, on what it takes -/
abbrev sis_whole : Stmt := topS 6
theorem scis_whole : FnScope ["thing"] ["thing"] (defScope sis_whole) := ⟨rfl, rfl, rfl, by decide +kernel, rfl, by decide +kernel, by decide +kernel⟩
abbrev sis_number : Stmt := topS 7
theorem scis_number : FnScope ["thing", "low", "high"] ["thing", "low", "high"] (defScope sis_number) := ⟨rfl, rfl, rfl, by decide +kernel, rfl, by decide +kernel, by decide +kernel⟩
abbrev sis_row : Stmt := topS 8
theorem scis_row : FnScope ["thing", "least", "most"] ["thing", "least", "most"] (defScope sis_row) := ⟨rfl, rfl, rfl, by decide +kernel, rfl, by decide +kernel, by decide +kernel⟩
abbrev sis_name : Stmt := topS 9
theorem scis_name : FnScope ["thing", "sign"] ["thing"] (defScope sis_name) := ⟨rfl, rfl, rfl, by decide +kernel, rfl, by decide +kernel, by decide +kernel⟩
section
variable {P : Program} {w : World} {K : PySem.W.Frag} {mg : Str → Option Value} {base : Heap}
def spWhole : Sp := fun vs H Q _ => ∃ i : Int, vs = [.int i] ∧ Q (.bl true) H
theorem ok_whole {f : Addr} {fd : FuncData} (F : Fun K "is_whole" "is_whole" sis_whole f fd) (T : Bi mg) : FnOk P w K mg base CX0 1 f fd ["thing"] spWhole := by
  refine F.ok scis_whole (fun vs H Q E h => ?_) (fun cdv A outer s H vs Q E hr h => ?_)
  · obtain ⟨i, rfl, _⟩ := h
    rfl
  · obtain ⟨i, rfl, q⟩ := h
    refine ⟨_, (pss_one (ps_ret (pe_and (pe_callB call_isi (by rfl) T.isinstance (by decide +kernel) (pa_cons (pv 0) (pa_cons (pe_bltn (v := .ty "int") (u := .type "int") (by rfl) T.int (by decide +kernel) rfl) pa_nil))) (pe_one (pe_not (pe_callB call_isi (by rfl) T.isinstance (by decide +kernel) (pa_cons (pv 0) (pa_cons (pe_bltn (v := .ty "bool") (u := .type "bool") (by rfl) T.bool (by decide +kernel) rfl) pa_nil)))))))), ?_⟩
    exact ⟨_, rfl, _, _, _, _, true, rfl, .ty "int", .base (.int _), kit_ty (by decide +kernel), true, rfl, iteT ⟨_, rfl, _, _, _, _, false, rfl, .ty "bool", .base (.int _), kit_ty (by decide +kernel), _, rfl, q⟩⟩
def spNumber : Sp := fun vs H Q _ => ∃ i lo hi : Int, vs = [.int i, .int lo, .int hi] ∧ Q (.bl (decide (lo ≤ i) && decide (i < hi))) H
theorem ok_number {f : Addr} {fd : FuncData} (F : Fun K "is_number" "is_number" sis_number f fd) (T : Bi mg) (cis_whole : Cal P w K mg base 1 "is_whole" ["thing"] spWhole) : FnOk P w K mg base CX0 2 f fd ["thing", "low", "high"] spNumber := by
  refine F.ok scis_number (fun vs H Q E h => ?_) (fun cdv A outer s H vs Q E hr h => ?_)
  · obtain ⟨i, lo, hi, rfl, _⟩ := h
    rfl
  · obtain ⟨i, lo, hi, rfl, q⟩ := h
    refine ⟨_, (pss_one (ps_ret (pe_and (pe_call cis_whole.G hr (by rfl) cis_whole.g cis_whole.kp cis_whole.b .nil pass0 (pa_cons (pv 0) pa_nil)) (pe_one (pe_chain op_le op_lt (pv 1) (pv 0) (pv 2)))))), ?_⟩
    refine ⟨_, rfl, i, rfl, true, rfl, iteT ⟨_, rfl, _, rfl, lo, i, rfl, rfl, _, rfl, ite2 (fun e => ?_) (fun e => ?_)⟩⟩
    · refine ⟨_, rfl, i, hi, rfl, rfl, ?_⟩
      rw [e, Bool.true_and] at q
      exact q
    · have e' : decide (lo ≤ i) = false := by simpa using e
      rw [e', Bool.false_and] at q
      exact q
def spRow (K : PySem.W.Frag) : Sp := fun vs H Q _ => ∃ (a : Addr) (xs : List V) (lo hi : Int), vs = [.ref a, .int lo, .int hi] ∧ SqT K H a xs ∧ Q (.bl (decide (lo ≤ xs.length) && decide ((xs.length : Int) ≤ hi))) H
theorem ok_row {f : Addr} {fd : FuncData} (F : Fun K "is_row" "is_row" sis_row f fd) (T : Bi mg) : FnOk P w K mg base CX0 1 f fd ["thing", "least", "most"] (spRow K) := by
  refine F.ok scis_row (fun vs H Q E h => ?_) (fun cdv A outer s H vs Q E hr h => ?_)
  · obtain ⟨a, xs, lo, hi, rfl, _⟩ := h
    rfl
  · obtain ⟨a, xs, lo, hi, rfl, hx, q⟩ := h
    refine ⟨_, (pss_one (ps_ret (pe_and (pe_callB call_isi (by rfl) T.isinstance (by decide +kernel) (pa_cons (pv 0) (pa_cons (pe_bltn (v := .ty "tuple") (u := .type "tuple") (by rfl) T.tuple (by decide +kernel) rfl) pa_nil))) (pe_one (pe_chain op_le op_le (pv 1) (pe_callB call_len_seq (by rfl) T.len PySem.boot_len (pa_cons (pv 0) pa_nil)) (pv 2)))))), ?_⟩
    refine ⟨_, rfl, _, _, _, _, true, rfl, .ty "tuple", ty_sqt hx, kit_ty (by decide +kernel), true, rfl, iteT ⟨_, rfl, _, rfl, a, xs, rfl, .inr hx, lo, _, rfl, rfl, _, rfl, ite2 (fun e => ?_) (fun e => ?_)⟩⟩
    · refine ⟨_, rfl, _, hi, rfl, rfl, ?_⟩
      rw [e, Bool.true_and] at q
      exact q
    · have e' : decide (lo ≤ (xs.length : Int)) = false := by simpa using e
      rw [e', Bool.false_and] at q
      exact q
def spName : Sp := fun vs H Q _ => ∃ z : Str, vs = [.str z] ∧ GoodName z ∧ Q (.bl true) H
theorem ok_name {f : Addr} {fd : FuncData} (F : Fun K "is_name" "is_name" sis_name f fd) (T : Bi mg) (W : Wd K mg) : FnOk P w K mg base CX0 1 f fd ["thing"] spName := by
  refine F.ok scis_name (fun vs H Q E h => ?_) (fun cdv A outer s H vs Q E hr h => ?_)
  · obtain ⟨z, rfl, _⟩ := h
    rfl
  · obtain ⟨z, rfl, g, q⟩ := h
    have l1 := g.lo
    have l2 := g.hi
    refine ⟨_, (pss_cons (ps_if (PW.pt (pw_or (pt_not (pt_val (pe_callB call_isi (by rfl) T.isinstance (by decide +kernel) (pa_cons (pv 0) (pa_cons (pe_bltn (v := .ty "str") (u := .type "str") (by rfl) T.str (by decide +kernel) rfl) pa_nil))))) (pw_or (pt_not (pt_chain op_le op_le pe_int (pe_callB call_len_str (by rfl) T.len PySem.boot_len (pa_cons (pv 0) pa_nil)) pe_int)) (pw_or1 (pt_cmpR op_in_seq (pv 0) (pe_glob rfl W.gWORDS W.rWORDS) (by rfl))))))
        (pss_one (ps_ret pe_bl))
        pss_nil)
      (pss_cons (ps_for PassesOwn.never rfl (pi_str (pv 0)) (pg_name (i := 1) scis_name.nd rfl (.inl rfl))
        (pss_one (ps_if (pt_cmpR op_notIn_sign (pv 1) (pe_glob rfl W.gLETTERS W.rLETTERS) (by rfl))
          (pss_one (ps_ret pe_bl))
          pss_nil)))
      (pss_one (ps_ret pe_bl)))), ?_⟩
    refine ⟨_, rfl, _, _, _, _, true, rfl, .ty "str", .base (.str _), kit_ty (by decide +kernel), _, rfl, iteF ?_⟩
    refine ⟨_, rfl, z, rfl, szOk (by omega), 1, _, rfl, rfl, _, rfl, ite2 (fun e => ?_) (fun e => ?_)⟩
    · refine ⟨_, _, rfl, rfl, _, rfl, ?_⟩
      rw [show decide ((z.length : Int) ≤ 8) = true from decide_eq_true (by omega)]
      refine iteF ⟨_, rfl, _, _, rfl, .inr (W.sW _), rfl, flat_str _, _, rfl, ?_⟩
      rw [inV_str, decide_eq_false g.nw]
      refine iteF ⟨_, rfl, z, rfl, for_it walk_str (fun i σ H' => ∃ y, σ = [some (.str z), y] ∧ H' = H) ⟨_, rfl, rfl⟩ (fun _ _ _ _ _ => trivial) ?_ ?_⟩
      · rintro i x σ H1 H2 hi ⟨y, rfl, rfl⟩ ⟨rfl, c, hc, rfl⟩
        refine ⟨_, rfl, c, lettersS, rfl, rfl, _, rfl, ?_⟩
        rw [decide_eq_true (g.al c (by rw [← Array.getElem?_toList] at hc; exact List.mem_of_getElem? hc))]
        exact iteF ⟨_, rfl, rfl⟩
      · rintro σ H1 ⟨y, rfl, rfl⟩
        exact q
    · exact absurd (decide_eq_true (by omega)) e
end

/-! ### sayings as data -/
inductive Row where
  | mark (z : Str)
  | word (x : Str) (ns : List Int)
  | run (x f : Str) (ns : List Int)
def Row.enc : Row → List V
  | .mark z => [.str "mark", .str z]
  | .word x ns => .str x :: ns.map V.int
  | .run x f ns => .str x :: .str f :: ns.map V.int
def partsL : List (Str × Nat) := [("yes", 0), ("no", 0), ("not", 1), ("and", 2), ("or", 2), ("step", 1)]
def formsL : List (Str × Nat) := [("next", 1), ("once", 1), ("ever", 1), ("until", 2), ("unless", 2)]
def whoseL : List Str := ["some", "all"]
def GoodRow (k : Nat) : Row → Prop
  | .mark z => GoodName z
  | .word x ns => (x, ns.length) ∈ partsL ∧ ∀ n ∈ ns, 0 ≤ n ∧ n < k
  | .run x f ns => x ∈ whoseL ∧ (f, ns.length) ∈ formsL ∧ ∀ n ∈ ns, 0 ≤ n ∧ n < k
def Row.nums : Row → List Int
  | .mark _ => []
  | .word _ ns => ns
  | .run _ _ ns => ns
structure SayAt (K : PySem.W.Frag) (H : Hp) (t : Addr) (rows : List Row) : Prop where
  ex : ∃ ra : List Addr, SqT K H t (ra.map V.ref) ∧ Each (fun a r => SqT K H a r.enc) ra rows
theorem SayAt.imm {K : PySem.W.Frag} {H H' : Hp} {t : Addr} {rows : List Row} (S : SayAt K H t rows) (e : Imm H H') : SayAt K H' t rows := by
  obtain ⟨ra, h1, h2⟩ := S.ex
  exact ⟨ra, e.sq h1, h2.imp fun _ _ h => e.sq h⟩
structure GoodSay (rows : List Row) : Prop where
  lo : 1 ≤ rows.length
  hi : rows.length ≤ 160
  gr : ∀ i r, rows[i]? = some r → GoodRow i r
theorem cut_from {xs : List V} {k : Nat} (h : k ≤ xs.length) : cutV xs (some (k : Int)) none = xs.drop k := by
  unfold cutV
  rw [show HT.sIx xs.length 0 (some (k : Int)) = min k xs.length from HT.sIx_nat xs.length 0 k, HT.sIx_none, Nat.min_eq_left h]
  rw [← List.length_drop, List.take_length]
theorem not_whole {n k : Nat} (h : k ≤ n) (h0 : 0 < k) : ¬ (HT.sIx n 0 (some (k : Int)) = 0 ∧ HT.sIx n n none = n) := fun e => by
  have e1 := e.1
  rw [show HT.sIx n 0 (some (k : Int)) = min k n from HT.sIx_nat n 0 k, Nat.min_eq_left h] at e1
  omega
structure Wf (K : PySem.W.Frag) (w : World) (mg : Str → Option Value) where
  aH : Addr
  aP : Addr
  aF : Addr
  eP : Array DictEntry
  nP : Nat
  eF : Array DictEntry
  nF : Nat
  uL : Value
  gWHOSE : mg "WHOSE" = some (.ref aH)
  rWHOSE : RelV (.ref aH) (.ref aH)
  sH : ∀ H, SqT K H aH (whoseL.map V.str)
  gPARTS : mg "PARTS" = some (.ref aP)
  rPARTS : RelV (.ref aP) (.ref aP)
  dPARTS : KDict K w aP eP nP
  gFORMS : mg "FORMS" = some (.ref aF)
  rFORMS : RelV (.ref aF) (.ref aF)
  dFORMS : KDict K w aF eF nF
  gLONGEST : mg "LONGEST" = some uL
  rLONGEST : RelV (.int 160) uL
  kP : ∀ p ∈ partsL, ∃ u, PySem.W.nsIn K aP p.1 = some (some u) ∧ RelV (.int p.2) u
  kF : ∀ p ∈ formsL, ∃ u, PySem.W.nsIn K aF p.1 = some (some u) ∧ RelV (.int p.2) u

/-! ### enumerate(t), t a tuple -/
namespace EnT
open PySem PySem.Spec PyProof.Rows L2
abbrev titer (t : Addr) : Obj := { cls := .type "tuple_iterator", data := .fields #[.ref t, .int 0 0] }
abbrev enob (i : Addr) : Obj := { cls := .type "enumerate", data := .fields #[.none, .bool false, .ref i, rawInt 0, .none, .none] }
theorem made (t : Addr) (ys : Array Value) :
    Meets (Builtin.«enumerate.__new__» ⟨[.type "enumerate", .ref t], []⟩) (fun _ R s => s.heap.IsTuple t ys ∧ R (.ok (.ret (.ref (s.heap.push (titer t)).objs.size))) { s with heap := (s.heap.push (titer t)).push (enob s.heap.objs.size) }) :=
  .of_wp fun prog w A R s hyp => by
    obtain ⟨hp, gg, dd, tt, oo⟩ := s
    obtain ⟨isT, hyp⟩ := hyp
    have sub1 := sub_enumerate
    have it1 : ∀ {A' : Around} {E : Value → Shared → Prop} {Q : Value → Shared → Prop}, Q (.ref hp.objs.size) ⟨hp.push (titer t), gg, dd, tt, oo⟩ → wpAny (model prog w) A' (pyIter (.ref t)) Q E ⟨hp, gg, dd, tt, oo⟩ := fun q => wpAny_pyIter_tuple isT q
    wp_walk using it1
    refine wpAny_stack_any fun _ => wpAny_pure ?_
    split
    · rename_i cc _ _ _ _ _
      cases (cc == Value.type "enumerate") <;> (wp_walk using it1; exact ⟨_, rfl, hyp⟩)
    · wp_walk using it1
      exact ⟨_, rfl, hyp⟩
theorem called {prog : Program} {w : World} {A : Around} {E : Value → Shared → Prop} {s : Shared} {t : Addr} {ys : Array Value} {Q : Value → Shared → Prop} (isT : s.heap.IsTuple t ys)
    (k : ∀ g, IsEnum g (s.heap.objs.size + 1) s.heap.objs.size 0 .none → g.IsTupleIter s.heap.objs.size t 0 → (∀ b o, s.heap.get? b = some o → g.get? b = some o) → Q (.ref (s.heap.objs.size + 1)) { s with heap := g }) :
    wpAny (model prog w) A (call (.type "enumerate") [.ref t]) Q E s := by
  refine callType_new F.called_enumerate (by decide) (F.typeCall_enumerate_1 _) (F.newCall_enumerate_1 _) (fun ob => F.args_object_init_2 ob _) F.entry_enumerate_new (made t ys) ⟨isT, ?_⟩
  have sz : (s.heap.push (titer t)).objs.size = s.heap.objs.size + 1 := Heap.size_push ..
  have en : IsEnum ((s.heap.push (titer t)).push (enob s.heap.objs.size)) (s.heap.objs.size + 1) s.heap.objs.size 0 .none := by
    have z := Heap.get?_push_size (s.heap.push (titer t)) (o := enob s.heap.objs.size) rfl
    rw [sz] at z
    exact z
  show _ ∧ _
  rw [sz]
  exact ⟨⟨_, en, rfl⟩, k _ en ⟨_, Heap.get?_push_of_some _ (Heap.get?_push_size _ rfl), rfl, rfl⟩ fun b o x => Heap.get?_push_of_some _ (Heap.get?_push_of_some _ x)⟩
theorem ends {prog : Program} {w : World} {A : Around} {E : Value → Shared → Prop} {s : Shared} {e ti a : Addr} {i : Nat} {ys : Array Value} {old : Value} {Q : Option Value → Shared → Prop} (hh : A.handled = none) (e1 : IsEnum s.heap e ti i old) (e2 : s.heap.IsTupleIter ti a i)
    (isT : s.heap.IsTuple a ys) (no : ys[i]? = none) (k : ∀ g, Heap.ExtBut ti s.heap g → Q none { s with heap := g }) : wpAny (model prog w) A (pyNext (.ref e)) Q E s := by
  have ty : s.TypeIs (.ref e) "enumerate" := ⟨_, e1, rfl⟩
  unfold pyNext
  refine wpAny_bind (wpAny_attempt (wpAny_callSpecial?_slot (name := Str.ofString "__next__") ty F.slot_enumerate_next (wpAny_call_entry F.slot_enumerate_next ty F.entry_enumerate_next ?_ (F.args_enumerate_next_1 _))))
  show wpAny _ _ (field (.ref e) 2 >>= _) _ _ s
  refine wpAny_bind (wpAny_field e1 rfl (x := .ref ti) rfl (wpAny_bind (wpAny_nextOf_tuple_end hh e2 isT no fun g x eg ex => ?_)))
  obtain ⟨o, q1, q2⟩ := ex
  exact wpAny_bind (wpAny_isInstance (T := "StopIteration") (b := true) ⟨o, q1, q2⟩ isSubtype_stop (wpAny_pure (k _ eg)))
/-- the tuple at a, each item in a new pair with its place -/
def Ien (K : PySem.W.Frag) (a : Addr) : It where
  go := fun i H => ∃ (xs : List V) (x : V), SqT K H a xs ∧ xs[i]? = some x
  yld := fun i H v H' => ∃ p x, v = .ref p ∧ H p = none ∧ H' = L2.upd H p (.tup [.int (i : Nat), x]) ∧ ∀ xs, SqT K H a xs → xs[i]? = some x
  stop := fun i H => ∃ xs : List V, SqT K H a xs ∧ xs.length ≤ i
theorem turn {P : Program} {w : World} {K : PySem.W.Frag} {elts : List Expr} {kk : Nat} {tpos : Pos} (a en ti : Addr) :
    Turn P w K (.Tuple elts kk tpos) (Ien K a) [en, ti] en (fun i h => (∃ old, IsEnum h en ti ((i : Nat) : Int) old) ∧ h.IsTupleIter ti a i ∧ en ≠ ti) where
  mem := List.mem_cons_self
  obj := fun i h st b hb => by
    obtain ⟨⟨old, e1⟩, ⟨o, e2, _, e3⟩, _⟩ := st
    rcases (by simpa using hb : b = en ∨ b = ti) with rfl | rfl
    · exact ⟨_, e1, fun v q => nomatch q⟩
    · exact ⟨o, e2, fun v q => by rw [e3] at q; cases q⟩
  keep := fun i h h' st k => by
    obtain ⟨⟨old, e1⟩, e2, e3⟩ := st
    exact ⟨⟨old, k en List.mem_cons_self _ e1⟩, e2.at fun o q => k ti (List.mem_cons_of_mem _ List.mem_cons_self) o q, e3⟩
  item := by
    intro X hP hw hK hc i pins s σ H E I hf st hg
    subst hP hw hK
    obtain ⟨⟨old, e1⟩, e2, ne⟩ := st
    obtain ⟨xs, x, hq, hx⟩ := hg
    obtain ⟨its, rv, p, hz⟩ := I.tuple hq
    obtain ⟨u, hu, ru⟩ := rv.get hx
    have isT : s.heap.IsTuple a its.toArray := p
    have l1 : en < s.heap.objs.size := Heap.lt_size e1
    have l2 : ti < s.heap.objs.size := by
      obtain ⟨_, q, _⟩ := e2
      exact Heap.lt_size q
    have n1 : a ≠ ti := fun z => by
      obtain ⟨o, q1, q2, _⟩ := e2
      obtain ⟨o2, r1, r2, _⟩ := isT
      rw [z, q1] at r1
      cases r1
      rw [q2] at r2
      exact absurd r2 (by decide)
    have n2 : a ≠ en := fun z => by
      obtain ⟨o2, r1, r2, _⟩ := isT
      rw [z, e1] at r1
      cases r1
      exact absurd (show Value.type "enumerate" = Value.type "tuple" from r2) (by decide)
    have iu : i < its.toArray.size := by
      have := (List.getElem?_eq_some_iff.mp hu).1
      simpa using this
    refine wpAny_pyNext_enum_itemD (Draws.tuple (prog := X.prog) (w := X.w) (A := X.A.in1) (show X.A.in1.handled = none from I.ok.hd hc) ti a n1 its.toArray) e1 ⟨e2, isT⟩ iu ne (by simp [ne, n2.symm]) fun y g tk hy ho sti hT hsz hk => ?_
    have ey : y = u := by
      have : its[i]? = some y := by simpa using hy
      rw [hu] at this
      exact (Option.some.inj this).symm
    subst ey
    refine ⟨_, rfl, wpAny_letOwnedTupleGo_enum (s := { s with heap := g, toks := tk + 1 }) ho fun g2 e4 sb => ?_⟩
    have hT2 : g2.get? s.heap.objs.size = some { cls := .type "tuple", data := .seq #[.int i tk, y] } := (sb.2 _ (Nat.ne_of_gt l1)).trans hT
    have nw : ObjOk X.prog X.w (L2.upd H s.heap.objs.size (.tup [.int (i : Nat), x])) g2 s.heap.objs.size (.tup [.int (i : Nat), x]) :=
      ⟨by show 2 ≤ sizeLine; decide, [.int i tk, y], .cons ⟨_, rfl⟩ (.cons ru .nil), ⟨_, hT2, rfl, _, rfl⟩⟩
    have I1 : Inv X pins σ (L2.upd H s.heap.objs.size (.tup [.int (i : Nat), x])) { s with heap := g2, toks := tk + 1 } :=
      I.turnedNew (ch := [en, ti]) (fun b o hb q => (sb.2 b fun z => hb (by simp [z])).trans (hk b o (fun z => hb (by simp [z])) (fun z => hb (by simp [z])) q)) hf (Nat.le_refl _) nw
    refine ⟨.ref s.heap.objs.size, _, I1, rfl, ⟨_, x, rfl, I.hok.fresh (Nat.le_refl _), rfl, fun ys hy => by rw [I.tuple_inj hy hq]; exact hx⟩, ⟨⟨y, ?_⟩, sti.1.at fun o q => (sb.2 ti ne.symm).trans q, ne⟩, fun b hb => ?_⟩
    · rw [show ((i + 1 : Nat) : Int) = (i : Int) + 1 by omega]
      exact e4
    · have lb : b < s.heap.objs.size := by
        rcases (by simpa using hb : b = en ∨ b = ti) with rfl | rfl
        · exact l1
        · exact l2
      rw [upd_ne (Nat.ne_of_lt lb)]
      exact (hf b hb).1
  done := by
    intro X hP hw hK hc i pins s σ H E I hf st hg
    subst hP hw hK
    obtain ⟨⟨old, e1⟩, e2, ne⟩ := st
    obtain ⟨xs, hq, hx⟩ := hg
    obtain ⟨its, rv, p, hz⟩ := I.tuple hq
    obtain ⟨f0, f1, f2, f3, f4, f5⟩ := hf ti (by simp)
    have hl := rv.length
    have isT : s.heap.IsTuple a its.toArray := p
    exact ends (I.ok.hd hc) e1 e2 isT (by simp; omega) fun g eb => ⟨rfl, I.turned (t' := s.toks) (fun b o hb q => eb b o hb q) f0 f1 f3 f4 f5⟩
  self := fun A i s Q E st k => by
    obtain ⟨⟨_, e1⟩, _⟩ := st
    exact wpAny_pyIter_enum e1 k
def iEn (K : PySem.W.Frag) (ta : TA) : TI := fun σ H R => ta σ H fun vs H1 => ∃ a xs, vs = [.ref a] ∧ SqT K H1 a xs ∧ R (Ien K a) H1
theorem walk {K : PySem.W.Frag} {a : Addr} {xs : List V} : Walk (Ien K a) xs.length (fun H => SqT K H a xs) (YPair (fun i => some (.int (i : Nat))) (fun i => xs[i]?)) := by
  refine ⟨fun i _ hi q => ⟨xs, xs[i], q, List.getElem?_eq_getElem hi⟩, fun _ q => ⟨xs, q, Nat.le_refl _⟩, fun i H v H' _ q y => ?_⟩
  obtain ⟨p, x, h1, h2, h3, h4⟩ := y
  exact ⟨p, .int (i : Nat), x, h1, h2, h3, rfl, h4 xs q⟩
end EnT
theorem pi_enumT (K : PySem.W.Frag) {X : Cx} {e : Expr} {ta : TA} {p pos tpos : Pos} {elts : List Expr} {kk : Nat} (hg : Gl X "enumerate") (hm : X.mg "enumerate" = none) (ha : L2.PA X [e] ta) (hK : X.K = K := by rfl) (hs : starEach [e] X.env = [(false, eval e X.env)] := by rfl) :
    PI X (.Tuple elts kk tpos) (.Call (.Name "enumerate" p) [e] [] pos) (EnT.iEn K ta) := by
  subst hK
  refine ⟨fun pins s σ H R I h => ?_⟩
  refine Call_ (ld_blt I hg hm boot_enumerate (PyProof.Rows.callWith_type1 (thn (ha.run pos pins s σ H _ I h) fun us s1 ⟨vs, H1, I1, r1, a, xs, ex, hq, q⟩ => ?_) hs rfl))
  subst ex
  obtain ⟨u, rfl, ru⟩ := r1.one
  cases ru
  obtain ⟨its, rv, p', hz⟩ := I1.tuple hq
  refine EnT.called (show s1.heap.IsTuple a its.toArray from p') fun g e1 e2 hk => wpAny_pyIter_enum e1 ?_
  refine ⟨s1.heap.objs.size + 1, [s1.heap.objs.size + 1, s1.heap.objs.size], _, _, H1, rfl, I1.kept (t' := s1.toks) hk, EnT.turn a (s1.heap.objs.size + 1) s1.heap.objs.size, ⟨⟨.none, e1⟩, e2, Nat.succ_ne_self _⟩, fun b hb => ?_, q⟩
  have lb : s1.heap.objs.size ≤ b := by
    rcases (by simpa using hb : b = s1.heap.objs.size + 1 ∨ b = s1.heap.objs.size) with z | z
    · exact z ▸ Nat.le_add_right _ _
    · exact z ▸ Nat.le_refl _
  exact I1.fpOk lb (I1.hok.fresh lb)

/-! ### fairtrees.sayings, on what it takes -/
abbrev snumbers_of : Stmt := topS 15
theorem scnumbers_of : FnScope ["row"] ["row"] (defScope snumbers_of) := ⟨rfl, rfl, rfl, by decide +kernel, rfl, by decide +kernel, by decide +kernel⟩
abbrev scan_stand : Stmt := topS 16
theorem sccan_stand : FnScope ["thing", "at", "many", "numbers", "one"] ["thing", "at"] (defScope scan_stand) := ⟨rfl, rfl, rfl, by decide +kernel, rfl, by decide +kernel, by decide +kernel⟩
abbrev scheck : Stmt := topS 17
theorem sccheck : FnScope ["thing", "at", "row"] ["thing"] (defScope scheck) := ⟨rfl, rfl, rfl, by decide +kernel, rfl, by decide +kernel, by decide +kernel⟩
section
variable {P : Program} {w : World} {K : PySem.W.Frag} {mg : Str → Option Value} {base : Heap}
theorem parts_no {x : Str} {n : Nat} (h : (x, n) ∈ partsL) : x ≠ Str.ofString "mark" ∧ x ∉ whoseL := by
  have : ∀ p ∈ partsL, p.1 ≠ Str.ofString "mark" ∧ p.1 ∉ whoseL := by decide +kernel
  exact this _ h
theorem whose_no {x : Str} (h : x ∈ whoseL) : x ≠ Str.ofString "mark" := by
  have : ∀ p ∈ whoseL, p ≠ Str.ofString "mark" := by decide +kernel
  exact this _ h
theorem parts_le {x : Str} {n : Nat} (h : (x, n) ∈ partsL) : n ≤ 2 := by
  have : ∀ p ∈ partsL, p.2 ≤ 2 := by decide +kernel
  exact this _ h
theorem forms_le {x : Str} {n : Nat} (h : (x, n) ∈ formsL) : n ≤ 2 := by
  have : ∀ p ∈ formsL, p.2 ≤ 2 := by decide +kernel
  exact this _ h
def spNumbers (K : PySem.W.Frag) : Sp := fun vs H Q _ => ∃ (t : Addr) (r : Row) (k : Nat), vs = [.ref t] ∧ SqT K H t r.enc ∧ GoodRow k r ∧ (∀ z, r ≠ .mark z) ∧ ∀ H' p, Same H H' → SqT K H' p (r.nums.map V.int) → Q (.ref p) H'
theorem ok_numbers {f : Addr} {fd : FuncData} (F : Fun K "numbers_of" "numbers_of" snumbers_of f fd) (W : Wf K w mg) : FnOk P w K mg base CX0 1 f fd ["row"] (spNumbers K) := by
  refine F.ok scnumbers_of (fun vs H Q E h => ?_) (fun cdv A outer s H vs Q E hr h => ?_)
  · obtain ⟨t, r, k, rfl, _⟩ := h
    rfl
  · obtain ⟨t, r, k, rfl, ht, g, nm, q⟩ := h
    refine ⟨_, (pss_cons (ps_if (pt_cmpR op_eq (pe_ix ix_tup (pv 0) pe_int (fun _ _ => rfl)) pe_str (nomark _))
        (pss_one (ps_ret (pe_tup pa_nil)))
        pss_nil)
      (pss_cons (ps_if (pt_cmpR op_in_seq (pe_ix ix_tup (pv 0) pe_int (fun _ _ => rfl)) (pe_glob rfl W.gWHOSE W.rWHOSE) (by rfl))
        (pss_one (ps_ret (pe_slice sl_tupA (pv 0) (po_some pe_int) po_none)))
        pss_nil)
      (pss_one (ps_ret (pe_slice sl_tupA (pv 0) (po_some pe_int) po_none))))), ?_⟩
    rcases r with z | ⟨x, ns⟩ | ⟨x, fm, ns⟩
    · exact absurd rfl (nm z)
    · obtain ⟨n1, n2⟩ := parts_no g.1
      refine ⟨_, rfl, t, _, 0, .str x, rfl, rfl, ht, at_of (j := 0) rfl rfl, rfl, _, rfl, ?_⟩
      rw [dec_str, decide_eq_false n1]
      refine iteF ⟨_, rfl, t, _, 0, .str x, rfl, rfl, ht, at_of (j := 0) rfl rfl, _, _, rfl, .inr (W.sH _), rfl, flat_str _, _, rfl, ?_⟩
      rw [inV_str, decide_eq_false n2]
      have hk : 1 ≤ (Row.word x ns).enc.length := Nat.le_add_left _ _
      refine iteF ⟨_, rfl, 1, rfl, t, _, rfl, ht, fun e => absurd e (not_whole (k := 1) hk (by decide)), fun _ p hp => ?_⟩
      refine q _ p (same_upd hp) (SqT.of ?_)
      rw [upd_same, show cutV (Row.word x ns).enc (some 1) none = (Row.word x ns).enc.drop 1 from cut_from (k := 1) hk]
      rfl
    · have n1 := whose_no g.1
      refine ⟨_, rfl, t, _, 0, .str x, rfl, rfl, ht, at_of (j := 0) rfl rfl, rfl, _, rfl, ?_⟩
      rw [dec_str, decide_eq_false n1]
      refine iteF ⟨_, rfl, t, _, 0, .str x, rfl, rfl, ht, at_of (j := 0) rfl rfl, _, _, rfl, .inr (W.sH _), rfl, flat_str _, _, rfl, ?_⟩
      rw [inV_str, decide_eq_true g.1]
      have hk : 2 ≤ (Row.run x fm ns).enc.length := Nat.le_add_left _ _
      refine iteT ⟨_, rfl, 2, rfl, t, _, rfl, ht, fun e => absurd e (not_whole (k := 2) hk (by decide)), fun _ p hp => ?_⟩
      refine q _ p (same_upd hp) (SqT.of ?_)
      rw [upd_same, show cutV (Row.run x fm ns).enc (some 2) none = (Row.run x fm ns).enc.drop 2 from cut_from (k := 2) hk]
      rfl
def spStand (K : PySem.W.Frag) : Sp := fun vs H Q _ => ∃ (t : Addr) (r : Row) (k : Nat), vs = [.ref t, .int k] ∧ SqT K H t r.enc ∧ GoodRow k r ∧ ∀ H', Same H H' → Q (.bl true) H'
theorem ok_stand {f : Addr} {fd : FuncData} (F : Fun K "can_stand" "can_stand" scan_stand f fd) (T : Bi mg) (W : Wf K w mg) (cis_row : Cal P w K mg base 1 "is_row" ["thing", "least", "most"] (spRow K)) (cis_name : Cal P w K mg base 1 "is_name" ["thing"] spName)
    (cis_number : Cal P w K mg base 2 "is_number" ["thing", "low", "high"] spNumber) (cnumbers_of : Cal P w K mg base 1 "numbers_of" ["row"] (spNumbers K)) : FnOk P w K mg base CX0 3 f fd ["thing", "at"] (spStand K) := by
  refine F.ok sccan_stand (fun vs H Q E h => ?_) (fun cdv A outer s H vs Q E hr h => ?_)
  · obtain ⟨t, r, k, rfl, _⟩ := h
    rfl
  · obtain ⟨t, r, k, rfl, ht, g, q⟩ := h
    refine ⟨_, (pss_cons (ps_if (PW.pt (pw_or (pt_not (pt_val (pe_call cis_row.G (hr.mono (by decide)) (by rfl) cis_row.g cis_row.kp cis_row.b .nil pass0 (pa_cons (pv 0) (pa_cons pe_int (pa_cons pe_int pa_nil)))))) (pw_or1 (pt_not (pt_val (pe_callB call_isi (by rfl) T.isinstance (by decide +kernel) (pa_cons (pe_ix ix_tup (pv 0) pe_int (fun _ _ => rfl)) (pa_cons (pe_bltn (v := .ty "str") (u := .type "str") (by rfl) T.str (by decide +kernel) rfl) pa_nil))))))))
        (pss_one (ps_ret pe_bl))
        pss_nil)
      (pss_cons (ps_if (pt_cmpR op_eq (pe_ix ix_tup (pv 0) pe_int (fun _ _ => rfl)) pe_str (nomark _))
        (pss_one (ps_ret (pe_and (pe_cmpR op_eq (pe_callB call_len_seq (by rfl) T.len PySem.boot_len (pa_cons (pv 0) pa_nil)) pe_int (nomark _)) (pe_one (pe_call cis_name.G (hr.mono (by decide)) (by rfl) cis_name.g cis_name.kp cis_name.b .nil pass0 (pa_cons (pe_ix ix_tup (pv 0) pe_int (fun _ _ => rfl)) pa_nil))))))
        pss_nil)
      (Evl.pss_cut (ps_if (pt_cmpR op_in_seq (pe_ix ix_tup (pv 0) pe_int (fun _ _ => rfl)) (pe_glob rfl W.gWHOSE W.rWHOSE) (by rfl))
        (pss_cons (ps_if (PW.pt (pw_or (pt_cmpR op_lt (pe_callB call_len_seq (by rfl) T.len PySem.boot_len (pa_cons (pv 0) pa_nil)) pe_int (nomark _)) (pw_or (pt_not (pt_val (pe_callB call_isi (by rfl) T.isinstance (by decide +kernel) (pa_cons (pe_ix ix_tup (pv 0) pe_int (fun _ _ => rfl)) (pa_cons (pe_bltn (v := .ty "str") (u := .type "str") (by rfl) T.str (by decide +kernel) rfl) pa_nil))))) (pw_or1 (pt_cmpR (op_notIn_kd W.dFORMS) (pe_ix ix_tup (pv 0) pe_int (fun _ _ => rfl)) (pe_glob rfl W.gFORMS W.rFORMS) (by rfl))))))
          (pss_one (ps_ret pe_bl))
          pss_nil)
        (pss_one (ps_set (i := 2) sccan_stand.nd rfl (.inl rfl) (pe_ix ix_kdict (pe_glob rfl W.gFORMS W.rFORMS) (pe_ix ix_tup (pv 0) pe_int (fun _ _ => rfl)) (fun _ _ => rfl)))))
        (pss_one (ps_if (pt_cmpR (op_in_kd W.dPARTS) (pe_ix ix_tup (pv 0) pe_int (fun _ _ => rfl)) (pe_glob rfl W.gPARTS W.rPARTS) (by rfl))
          (pss_one (ps_set (i := 2) sccan_stand.nd rfl (.inl rfl) (pe_ix ix_kdict (pe_glob rfl W.gPARTS W.rPARTS) (pe_ix ix_tup (pv 0) pe_int (fun _ _ => rfl)) (fun _ _ => rfl))))
          (pss_one (ps_ret pe_bl)))))
      (pss_cons (ps_set (i := 3) sccan_stand.nd rfl (.inl rfl) (pe_call cnumbers_of.G (hr.mono (by decide)) (by rfl) cnumbers_of.g cnumbers_of.kp cnumbers_of.b .nil pass0 (pa_cons (pv 0) pa_nil)))
      (pss_one (ps_ret (pe_and (pe_cmpR op_eq (pe_callB call_len_seq (by rfl) T.len PySem.boot_len (pa_cons (pv 3) pa_nil)) (pv 2) (nomark _)) (pe_one (pe_callB (cr_all rfl) (by rfl) T.all (by decide +kernel) (pa_cons (pe_lc (own := [("one", 4)]) (g := gName 4) rfl sccan_stand.nd (pi_tup (pv 3)) (blkOk_by (own := [("one", 4)]) (N := ["thing", "at", "many", "numbers", "one"]) (sc := defScope scan_stand) (by decide +kernel)) (fun _ _ _ _ _ => (pg_name (i := 4) sccan_stand.nd rfl (.inl rfl))) (fun _ _ _ _ _ => pts_nil) (fun _ _ _ _ _ => (pe_call cis_number.G hr (by rfl) cis_number.g cis_number.kp cis_number.b .nil pass0 (pa_cons (pv 4) (pa_cons pe_int (pa_cons (pv 1) pa_nil)))))) pa_nil)))))))))), ?_⟩
    obtain ⟨x, tl, he, hx1, hx4⟩ : ∃ x tl, r.enc = .str x :: tl ∧ 1 ≤ r.enc.length ∧ r.enc.length ≤ 4 := by
      cases r with
      | mark z => exact ⟨_, _, rfl, by show 1 ≤ 2; decide, by show 2 ≤ 4; decide⟩
      | word x ns =>
        have := parts_le g.1
        exact ⟨x, _, rfl, Nat.le_add_left _ _, by show (ns.map V.int).length + 1 ≤ 4; rw [List.length_map]; omega⟩
      | run x f ns =>
        have := forms_le g.2.1
        exact ⟨x, _, rfl, Nat.le_add_left _ _, by show (ns.map V.int).length + 1 + 1 ≤ 4; rw [List.length_map]; omega⟩
    have at0 : atI r.enc 0 = some (.str x) := by rw [he]; exact at_of (j := 0) rfl rfl
    refine ⟨_, rfl, t, _, 1, 4, rfl, ht, _, rfl, ?_⟩
    rw [show (decide ((1 : Int) ≤ r.enc.length) && decide ((r.enc.length : Int) ≤ 4)) = true by rw [decide_eq_true (by omega), decide_eq_true (by omega)] <;> rfl]
    refine iteF ⟨_, rfl, t, _, 0, .str x, rfl, rfl, ht, at0, _, _, _, _, true, rfl, .ty "str", .base (.str _), kit_ty (by decide +kernel), _, rfl, iteF ?_⟩
    refine ⟨_, rfl, t, _, 0, .str x, rfl, rfl, ht, at0, rfl, _, rfl, ?_⟩
    rw [dec_str]
    by_cases hm : ∃ z, r = .mark z
    · obtain ⟨z, rfl⟩ := hm
      obtain rfl : Str.ofString "mark" = x := by cases he; rfl
      rw [decide_eq_true rfl]
      refine iteT ⟨_, rfl, t, _, rfl, .inr ht, rfl, _, rfl, iteT ⟨_, rfl, t, _, 1, .str z, rfl, rfl, ht, at_of (j := 1) rfl rfl, z, rfl, g, q _ (Same.refl _)⟩⟩
    have nm : ∀ z, r ≠ .mark z := fun z e => hm ⟨z, e⟩
    have n1 : x ≠ Str.ofString "mark" := by
      rcases r with z | ⟨x', ns⟩ | ⟨x', fm, ns⟩
      · exact absurd rfl (nm z)
      · cases he; exact (parts_no g.1).1
      · cases he; exact whose_no g.1
    have hn : r.nums.length ≤ 2 ∧ ∀ n ∈ r.nums, 0 ≤ n ∧ n < (k : Int) := by
      rcases r with z | ⟨x', ns⟩ | ⟨x', fm, ns⟩
      · exact absurd rfl (nm z)
      · exact ⟨parts_le g.1, g.2⟩
      · exact ⟨forms_le g.2.1, g.2.2⟩
    rw [decide_eq_false n1]
    refine iteF ⟨fun σ H' => ∃ many : Nat, σ = [some (.ref t), some (.int k), some (.int many), none, none] ∧ many = r.nums.length ∧ H' = H, ?_, ?_⟩
    · refine ⟨_, rfl, t, _, 0, .str x, rfl, rfl, ht, at0, _, _, rfl, .inr (W.sH _), rfl, flat_str _, _, rfl, ?_⟩
      rw [inV_str]
      rcases r with z | ⟨x', ns⟩ | ⟨x', fm, ns⟩
      · exact absurd rfl (nm z)
      · obtain rfl : x' = x := by cases he; rfl
        rw [decide_eq_false (parts_no g.1).2]
        obtain ⟨u, e1, e2⟩ := W.kP _ g.1
        refine iteF ⟨_, rfl, t, _, 0, .str x', rfl, rfl, ht, at0, _, _, rfl, rfl, e1, true, rfl, iteT ⟨_, rfl, t, _, 0, .str x', rfl, rfl, ht, at0, _, _, _, rfl, rfl, ⟨_, _, _, W.dPARTS.at_, W.dPARTS.lit, e1, e2⟩, ?_⟩⟩
        exact ⟨_, rfl, rfl, rfl⟩
      · obtain rfl : x' = x := by cases he; rfl
        rw [decide_eq_true g.1]
        obtain ⟨u, e1, e2⟩ := W.kF _ g.2.1
        have at1 : atI (Row.run x' fm ns).enc 1 = some (.str fm) := at_of (j := 1) rfl rfl
        refine iteT ⟨_, rfl, t, _, rfl, .inr ht, _, _, rfl, rfl, _, rfl, ?_⟩
        rw [show decide (((Row.run x' fm ns).enc.length : Int) < 2) = false from decide_eq_false (by show ¬ (((ns.map V.int).length + 1 + 1 : Nat) : Int) < 2; omega)]
        refine iteF ⟨_, rfl, t, _, 1, .str fm, rfl, rfl, ht, at1, _, _, _, _, true, rfl, .ty "str", .base (.str _), kit_ty (by decide +kernel), _, rfl, iteF ?_⟩
        refine ⟨_, rfl, t, _, 1, .str fm, rfl, rfl, ht, at1, _, _, rfl, rfl, e1, false, rfl, iteF ⟨_, rfl, t, _, 1, .str fm, rfl, rfl, ht, at1, _, _, _, rfl, rfl, ⟨_, _, _, W.dFORMS.at_, W.dFORMS.lit, e1, e2⟩, ?_⟩⟩
        exact ⟨_, rfl, rfl, rfl⟩
    · rintro σ H1 ⟨many, rfl, rfl, rfl⟩
      refine ⟨_, rfl, t, r, k, rfl, ht, g, nm, fun H2 p s2 hp => ⟨_, rfl, p, _, rfl, .inr hp, _, rfl, rfl, _, rfl, ?_⟩⟩
      rw [List.length_map, dec_int, decide_eq_true rfl]
      refine iteT ⟨_, rfl, p, rfl, ⟨_, hp⟩, fun D hD => ?_⟩
      refine lc_tupS (fun i acc => acc = (List.replicate i true).map V.bl) hp hD (by rw [List.length_map]; omega) rfl (fun _ => rfl) (fun i x H3 acc hi s3 p5 p4 N1 N2 h1 h2 => ?_) (fun H3 acc s3 hD3 hl p5 => ?_)
      · rw [List.getElem?_map] at hi
        obtain ⟨n, hn1, hn2⟩ := Option.map_eq_some_iff.mp hi
        subst hn2
        obtain ⟨b1, b2⟩ := hn.2 n (List.mem_of_getElem? hn1)
        have hi2 : i < r.nums.length := (List.getElem?_eq_some_iff.mp hn1).1
        refine ⟨_, rfl, _, rfl, n, 0, k, rfl, ?_⟩
        rw [decide_eq_true b1, decide_eq_true b2]
        refine h1 (.bl true) H3 (Same.refl _) ?_
        rw [p5, List.replicate_succ', List.map_append]
        rfl
      · subst p5
        refine ⟨D, _, rfl, SqL.of hD3, ?_⟩
        rw [show (List.replicate (r.nums.map V.int).length true).all id = true by simp]
        exact q _ (s2.trans s3)
def spSays (K : PySem.W.Frag) : Sp := fun vs H Q _ => ∃ (t : Addr) (rows : List Row), vs = [.ref t] ∧ SayAt K H t rows ∧ GoodSay rows ∧ ∀ H', Imm H H' → Q (.bl true) H'
theorem ok_says {f : Addr} {fd : FuncData} (F : Fun K "check" "check" scheck f fd) (T : Bi mg) (W : Wf K w mg) (cis_row : Cal P w K mg base 1 "is_row" ["thing", "least", "most"] (spRow K)) (ccan_stand : Cal P w K mg base 3 "can_stand" ["thing", "at"] (spStand K)) : FnOk P w K mg base CX0 4 f fd ["thing"] (spSays K) := by
  refine F.ok sccheck (fun vs H Q E h => ?_) (fun cdv A outer s H vs Q E hr h => ?_)
  · obtain ⟨t, rows, rfl, _⟩ := h
    rfl
  · obtain ⟨t, rows, rfl, S, g, q⟩ := h
    obtain ⟨ra, hra, hr2⟩ := S.ex
    have l1 := g.lo
    have l2 := g.hi
    have hl : ra.length = rows.length := hr2.len
    refine ⟨_, (pss_cons (ps_if (pt_not (pt_val (pe_call cis_row.G (hr.mono (by decide)) (by rfl) cis_row.g cis_row.kp cis_row.b .nil pass0 (pa_cons (pv 0) (pa_cons pe_int (pa_cons (pe_glob rfl W.gLONGEST W.rLONGEST) pa_nil))))))
        (pss_one ps_never)
        pss_nil)
      (pss_cons (ps_for PassesOwn.never rfl (pi_enumT K (by rfl) T.enumerate (pa_cons (pv 0) pa_nil)) (pg_tup rfl (pgs_cons (pg_name (i := 1) sccheck.nd rfl (.inl rfl)) (pgs_cons (pg_name (i := 2) sccheck.nd rfl (.inl rfl)) pgs_nil)))
        (pss_one (ps_if (pt_not (pt_val (pe_call ccan_stand.G hr (by rfl) ccan_stand.g ccan_stand.kp ccan_stand.b .nil pass0 (pa_cons (pv 2) (pa_cons (pv 1) pa_nil)))))
          (pss_one ps_never)
          pss_nil)))
      (pss_one (ps_ret pe_bl)))), ?_⟩
    refine ⟨_, rfl, t, _, 1, 160, rfl, hra, true, ?_, iteF ?_⟩
    · rw [List.length_map, decide_eq_true (by omega), decide_eq_true (by omega)]; rfl
    refine ⟨_, rfl, t, _, rfl, hra, for_it (EnT.walk (K := K) (a := t) (xs := ra.map V.ref)) (fun i σ H' => ∃ y1 y2, σ = [some (.ref t), y1, y2] ∧ Same H H') ⟨_, _, rfl, Same.refl _⟩ (fun i σ H' _ ⟨_, _, _, e⟩ => ssqt e hra) ?_ ?_⟩
    · rintro i x σ H1 H2 hi ⟨y1, y2, rfl, s1⟩ y
      obtain ⟨T2, u, z, rfl, hT, rfl, h1, h2⟩ := y
      cases h1
      obtain ⟨a, ha, rfl⟩ := ref_get h2
      obtain ⟨r, hr1, hr3⟩ := hr2.get ha
      have s2 : Same H (L2.upd H1 T2 (.tup [.int (i : Nat), .ref a])) := s1.trans (same_upd hT)
      refine ⟨T2, _, rfl, SqT.of upd_same, rfl, _, _, rfl, _, _, rfl, rfl, ?_⟩
      refine ⟨_, rfl, _, rfl, a, r, i, rfl, ssqt s2 hr3, g.gr i r hr1, fun H4 s4 => ⟨_, rfl, iteF ?_⟩⟩
      exact ⟨_, _, rfl, s2.trans s4⟩
    · rintro σ H1 ⟨y1, y2, rfl, s1⟩
      exact q _ (simm s1)
end

/-! ### the law's own rows and sayings -/
theorem good_unborne : GoodName (Str.ofString "unborne") := ⟨by decide +kernel, by decide +kernel, by decide +kernel, by decide +kernel⟩
abbrev s_law_row : Stmt := topS 23
theorem sc_law_row : FnScope ["_law_pool_here", "_law_names_here", "_law_at", "_law_kind", "_law_one", "_law_other", "_law_which", "_law_word"] ["_law_pool_here", "_law_names_here", "_law_at"] (defScope s_law_row) := ⟨rfl, rfl, rfl, by decide +kernel, rfl, by decide +kernel, by decide +kernel⟩
abbrev s_law_saying : Stmt := topS 24
theorem sc_law_saying : FnScope ["_law_pool_here", "_law_names_here", "_law_most", "_law_rows", "_law_k"] ["_law_pool_here", "_law_names_here", "_law_most"] (defScope s_law_saying) := ⟨rfl, rfl, rfl, by decide +kernel, rfl, by decide +kernel, by decide +kernel⟩
abbrev slaw : Stmt := topS 25
theorem sclaw : FnScope ["_law_script", "_law_pool_here", "_law_way", "_law_names_here", "_law_saying_here", "_law_rows", "_law_k", "_law_kind"] ["_law_script"] (defScope slaw) := ⟨rfl, rfl, rfl, by decide +kernel, rfl, by decide +kernel, by decide +kernel⟩
theorem ndec {p : Prop} [Decidable p] (h : ¬ decide p = true) : ¬ p := fun x => h (decide_eq_true x)
section
variable {P : Program} {w : World} {K : PySem.W.Frag} {mg : Str → Option Value} {base : Heap}
def spLRow (K : PySem.W.Frag) : Sp := fun vs H Q _ => ∃ (a : PA) (c : Nat) (l : Addr) (zs : List Str) (k : Nat), vs = [.ref a.p, .ref l, .int k] ∧ Pool H a c ∧ c < 700000 ∧ H l = some (.lst (zs.map V.str)) ∧ Off a l ∧ (∀ z ∈ zs, GoodName z) ∧ zs.length ≤ 8 ∧ k ≤ 160 ∧
  ∀ (H' : Hp) (t : Addr) (r : Row), Pool H' a (c + 3) → Kp a H H' → SqT K H' t r.enc → GoodRow k r → Q (.ref t) H'
theorem ok_lrow {f : Addr} {fd : FuncData} (F : Fun K "_law_row" "_law_row" s_law_row f fd) (T : Bi mg) (c_law_draw : Cal P w K mg base 1 "_law_draw" ["_law_pool_here", "_law_many"] spDraw) : FnOk P w K mg base CX0 2 f fd ["_law_pool_here", "_law_names_here", "_law_at"] (spLRow K) := by
  refine F.ok sc_law_row (fun vs H Q E h => ?_) (fun cdv A outer s H vs Q E hr h => ?_)
  · obtain ⟨a, c, l, zs, k, rfl, _⟩ := h
    rfl
  · obtain ⟨a, c, l, zs, k, rfl, PP, hc, hl, ol, gz, lz, hk, q⟩ := h
    refine ⟨_, (pss_cons (ps_set (i := 3) sc_law_row.nd rfl (.inl rfl) (pe_call c_law_draw.G hr (by rfl) c_law_draw.g c_law_draw.kp c_law_draw.b .nil pass0 (pa_cons (pv 0) (pa_cons pe_int pa_nil))))
      (pss_cons (ps_if (PW.pt (pw_or (pt_cmpR op_eq (pv 2) pe_int (nomark _)) (pw_or1 (pt_cmpR op_lt (pv 3) pe_int (nomark _)))))
        (pss_cons (ps_set (i := 3) sc_law_row.nd rfl (.inl rfl) (pe_op op_mod (pv 3) pe_int))
        (pss_cons (ps_if (pt_cmpR op_gt (pv 3) pe_int (nomark _))
          (pss_one (ps_ret (pe_tup (pa_cons pe_str (pa_cons (pe_ix ix_list (pe_op op_cat (pv 1) (pe_lst (pa_cons pe_str pa_nil))) (pe_call c_law_draw.G hr (by rfl) c_law_draw.g c_law_draw.kp c_law_draw.b .nil pass0 (pa_cons (pv 0) (pa_cons (pe_op op_add (pe_callB call_len_seq (by rfl) T.len PySem.boot_len (pa_cons (pv 1) pa_nil)) pe_int) pa_nil))) (fun _ _ => rfl)) pa_nil)))))
          pss_nil)
        (pss_one (ps_ret (pe_tup (pa_cons (pe_ix ix_list (pe_lst (pa_cons pe_str (pa_cons pe_str pa_nil))) (pv 3) (fun _ _ => rfl)) pa_nil))))))
        pss_nil)
      (pss_cons (ps_set (i := 4) sc_law_row.nd rfl (.inl rfl) (pe_op op_sub (pe_op op_sub (pv 2) pe_int) (pe_call c_law_draw.G hr (by rfl) c_law_draw.g c_law_draw.kp c_law_draw.b .nil pass0 (pa_cons (pv 0) (pa_cons (pe_callB (call_min2 rfl) (by rfl) T.min (by decide +kernel) (pa_cons (pv 2) (pa_cons pe_int pa_nil))) pa_nil)))))
      (pss_cons (ps_set (i := 5) sc_law_row.nd rfl (.inl rfl) (pe_call c_law_draw.G hr (by rfl) c_law_draw.g c_law_draw.kp c_law_draw.b .nil pass0 (pa_cons (pv 0) (pa_cons (pv 2) pa_nil))))
      (pss_cons (ps_if (pt_cmpR op_lt (pv 3) pe_int (nomark _))
        (pss_one (ps_ret (pe_ix ix_list (pe_lst (pa_cons (pe_tup (pa_cons pe_str (pa_cons (pv 4) pa_nil))) (pa_cons (pe_tup (pa_cons pe_str (pa_cons (pv 4) (pa_cons (pv 5) pa_nil)))) (pa_cons (pe_tup (pa_cons pe_str (pa_cons (pv 5) (pa_cons (pv 4) pa_nil)))) (pa_cons (pe_tup (pa_cons pe_str (pa_cons (pv 4) pa_nil))) pa_nil))))) (pe_op op_sub (pv 3) pe_int) (fun _ _ => rfl))))
        pss_nil)
      (pss_cons (ps_set (i := 6) sc_law_row.nd rfl (.inl rfl) (pe_ix ix_list (pe_lst (pa_cons pe_str (pa_cons pe_str pa_nil))) (pe_op op_mod (pv 3) pe_int) (fun _ _ => rfl)))
      (pss_cons (ps_set (i := 7) sc_law_row.nd rfl (.inl rfl) (pe_ix ix_list (pe_lst (pa_cons pe_str (pa_cons pe_str (pa_cons pe_str (pa_cons pe_str (pa_cons pe_str (pa_cons pe_str pa_nil))))))) (pe_op op_sub (pe_op op_fdiv (pv 3) pe_int) pe_int) (fun _ _ => rfl)))
      (pss_cons (ps_if (PW.pt (pw_or (pt_cmpR op_eq (pv 7) pe_str (nomark _)) (pw_or1 (pt_cmpR op_eq (pv 7) pe_str (nomark _)))))
        (pss_one (ps_ret (pe_tup (pa_cons (pv 6) (pa_cons (pv 7) (pa_cons (pv 5) (pa_cons (pv 4) pa_nil)))))))
        pss_nil)
      (pss_one (ps_ret (pe_tup (pa_cons (pv 6) (pa_cons (pv 7) (pa_cons (pv 4) pa_nil)))))))))))))), ?_⟩
    refine ⟨_, rfl, a, c, 20, rfl, PP, by omega, by decide, by decide, fun H1 r r0 r1 P1 k1 => ?_⟩
    obtain ⟨kd, rfl⟩ : ∃ j : Nat, r = (j : Int) := ⟨r.toNat, by omega⟩
    have hl1 := k1 _ _ hl ol
    have h6 : (0 : Int) ≤ kd % 6 ∧ (kd : Int) % 6 < 6 := ⟨Int.emod_nonneg _ (by decide), Int.emod_lt_of_pos _ (by decide)⟩
    refine ⟨_, rfl, rfl, _, rfl, ite2 (fun e => ?lowa) (fun e => ⟨_, rfl, _, _, rfl, rfl, _, rfl, ite2 (fun e2 => ?lowb) (fun e2 => ?high)⟩)⟩
    case lowa | lowb =>
      refine ⟨_, rfl, _, _, rfl, rfl, (by show (0 : Int) < _; decide), _, rfl, _, _, rfl, rfl, _, rfl, ite2 (fun e => ?_) (fun e => ?_)⟩
      · refine ⟨_, rfl, by show 1 ≤ sizeLine; decide, fun u hu => ?_⟩
        have ou := P1.off hu
        have hl2 := (same_upd (o := .lst [.str "unborne"]) hu) _ _ hl1
        refine ⟨l, u, _, _, rfl, rfl, hl2, upd_same, szOk (by rw [List.length_map]; show zs.length + 1 ≤ _; omega), fun b hb => ?_⟩
        have P2 := P1.upd (o := .lst [.str "unborne"]) ou
        have ob := P2.off hb
        have P3 := P2.upd (o := .lst (zs.map V.str ++ [.str "unborne"])) ob
        refine ⟨_, rfl, _, rfl, l, _, rfl, .inl (SqL.of ((same_upd hb) _ _ hl2)), _, _, rfl, rfl, a, _, ((zs.length + 1 : Nat) : Int), ?_, P3, by omega, by omega, by omega, fun H4 r4 r40 r41 P4 k4 => ?_⟩
        · rw [List.length_map]
          rfl
        · obtain ⟨j, rfl⟩ : ∃ j : Nat, r4 = (j : Int) := ⟨r4.toNat, by omega⟩
          have k2 : Kp a H1 (upd (upd H1 u (.lst [.str "unborne"])) b (.lst (zs.map V.str ++ [.str "unborne"]))) := (skp (same_upd hu)).trans (skp (same_upd hb))
          have hb4 := k4 _ _ upd_same ob
          obtain ⟨z, hz1, hz2⟩ : ∃ z, (zs.map V.str ++ [V.str "unborne"])[j]? = some (.str z) ∧ GoodName z := by
            by_cases hj : j < zs.length
            · refine ⟨zs[j], ?_, gz _ (List.getElem_mem hj)⟩
              rw [List.getElem?_append_left (by rw [List.length_map]; exact hj)]
              exact get_map (List.getElem?_eq_getElem hj)
            · refine ⟨_, ?_, good_unborne⟩
              rw [show j = zs.length by omega, List.getElem?_append_right (by rw [List.length_map]; exact Nat.le_refl _), List.length_map, Nat.sub_self]
              rfl
          refine ⟨b, _, _, _, rfl, rfl, SqL.of hb4, atI_nat hz1, by show 2 ≤ sizeLine; decide, fun t ht => ?_⟩
          exact q _ t (.mark z) ((P4.same (same_upd ht)).mono (by omega)) ((((k1.trans k2).trans k4)).trans (skp (same_upd ht))) (SqT.of upd_same) hz2
      · have e9 := ndec e
        have e8 : (kd : Int) % 6 = 0 ∨ (kd : Int) % 6 = 1 := by omega
        refine ⟨by show 2 ≤ sizeLine; decide, fun u hu => ?_⟩
        have P2 := P1.upd (o := .lst [.str "yes", .str "no"]) (P1.off hu)
        rcases e8 with e8 | e8
        · refine ⟨_, rfl, u, _, _, .str "yes", rfl, rfl, SqL.of upd_same, by rw [e8]; rfl, by show 1 ≤ sizeLine; decide, fun t ht => ?_⟩
          exact q _ t (.word "yes" []) ((P2.same (same_upd ht)).mono (by omega)) ((k1.trans (skp (same_upd hu))).trans (skp (same_upd ht))) (SqT.of upd_same) ⟨by decide +kernel, fun _ h => absurd h List.not_mem_nil⟩
        · refine ⟨_, rfl, u, _, _, .str "no", rfl, rfl, SqL.of upd_same, by rw [e8]; rfl, by show 1 ≤ sizeLine; decide, fun t ht => ?_⟩
          exact q _ t (.word "no" []) ((P2.same (same_upd ht)).mono (by omega)) ((k1.trans (skp (same_upd hu))).trans (skp (same_upd ht))) (SqT.of upd_same) ⟨by decide +kernel, fun _ h => absurd h List.not_mem_nil⟩
    case high =>
      have e1 : ¬ (k : Int) = 0 := fun h => e (decide_eq_true (by rw [h]))
      have e3 := ndec e2
      refine ⟨_, rfl, _, _, rfl, rfl, _, rfl, _, rfl, _, _, rfl, a, _, (((if k < 3 then k else 3 : Nat)) : Int), ?_, P1, by omega, by split <;> omega, by split <;> omega, fun H2 d1 d10 d11 P2 k2 => ⟨_, _, rfl, rfl, ?_⟩⟩
      · show [V.ref a.p, V.int (if (3 : Int) < (k : Int) then 3 else (k : Int))] = _
        by_cases h3 : k < 3
        · rw [if_pos h3, if_neg (by omega)]
        · rw [if_neg h3]
          by_cases h4 : (3 : Int) < k
          · rw [if_pos h4]; rfl
          · rw [if_neg h4, show (k : Int) = 3 by omega]; rfl
      have d12 : d1 < k := by
        by_cases h3 : k < 3
        · rw [if_pos h3] at d11; exact d11
        · rw [if_neg h3] at d11; omega
      refine ⟨_, rfl, _, rfl, a, _, (k : Int), rfl, P2, by omega, by omega, by omega, fun H3 d2 d20 d21 P3 k3 => ⟨_, rfl, _, _, rfl, rfl, _, rfl, ite2 (fun e4 => ?_) (fun e4 => ?_)⟩⟩
      all_goals
        have P3' : Pool H3 a (c + 3) := P3.mono (by omega)
        have k3' := (k1.trans k2).trans k3
        have o1 : 0 ≤ ((k : Int) - 1 - d1) ∧ ((k : Int) - 1 - d1) < (k : Int) := by omega
        have o2 : 0 ≤ d2 ∧ d2 < (k : Int) := ⟨d20, d21⟩
        have i1 : ∀ n ∈ [((k : Int) - 1 - d1)], 0 ≤ n ∧ n < (k : Int) := fun n hn => by rw [List.mem_singleton] at hn; rw [hn]; exact o1
        have i2 : ∀ n ∈ [((k : Int) - 1 - d1), d2], 0 ≤ n ∧ n < (k : Int) := fun n hn => by
          rcases List.mem_cons.mp hn with hn | hn
          · rw [hn]; exact o1
          · rw [List.mem_singleton] at hn; rw [hn]; exact o2
        have i3 : ∀ n ∈ [d2, ((k : Int) - 1 - d1)], 0 ≤ n ∧ n < (k : Int) := fun n hn => by
          rcases List.mem_cons.mp hn with hn | hn
          · rw [hn]; exact o2
          · rw [List.mem_singleton] at hn; rw [hn]; exact o1
      · have e5 := of_decide_eq_true e4
        refine ⟨_, rfl, by show 2 ≤ sizeLine; decide, fun t1 h1 => ⟨_, rfl, _, rfl, by show 3 ≤ sizeLine; decide, fun t2 h2 => ⟨_, rfl, _, rfl, by show 3 ≤ sizeLine; decide, fun t3 h3 => ⟨_, rfl, by show 2 ≤ sizeLine; decide, fun t4 h4 => ⟨by show 4 ≤ sizeLine; decide, fun L hL => ?_⟩⟩⟩⟩⟩
        have m1 := same_upd (o := .tup [.str "not", .int ((k : Int) - 1 - d1)]) h1
        have m2 := same_upd (o := .tup [.str "and", .int ((k : Int) - 1 - d1), .int d2]) h2
        have m3 := same_upd (o := .tup [.str "or", .int d2, .int ((k : Int) - 1 - d1)]) h3
        have m4 := same_upd (o := .tup [.str "step", .int ((k : Int) - 1 - d1)]) h4
        have m5 := same_upd (o := .lst [.ref t1, .ref t2, .ref t3, .ref t4]) hL
        have all := (((m1.trans m2).trans m3).trans m4).trans m5
        have a1 : SqT K _ t1 (Row.word "not" [((k : Int) - 1 - d1)]).enc := ssqt (((m2.trans m3).trans m4).trans m5) (SqT.of upd_same)
        have a2 : SqT K _ t2 (Row.word "and" [((k : Int) - 1 - d1), d2]).enc := ssqt ((m3.trans m4).trans m5) (SqT.of upd_same)
        have a3 : SqT K _ t3 (Row.word "or" [d2, ((k : Int) - 1 - d1)]).enc := ssqt (m4.trans m5) (SqT.of upd_same)
        have a4 : SqT K _ t4 (Row.word "step" [((k : Int) - 1 - d1)]).enc := ssqt m5 (SqT.of upd_same)
        have e6 : kd = 4 ∨ kd = 5 ∨ kd = 6 ∨ kd = 7 := by omega
        have PL := P3'.same all
        have kL := k3'.trans (skp all)
        rcases e6 with rfl | rfl | rfl | rfl
        · exact ⟨_, rfl, _, _, rfl, rfl, L, _, _, _, rfl, rfl, SqL.of upd_same, at_of (j := 0) rfl rfl, q _ t1 _ PL kL a1 ⟨(by decide +kernel : (Str.ofString "not", 1) ∈ partsL), i1⟩⟩
        · exact ⟨_, rfl, _, _, rfl, rfl, L, _, _, _, rfl, rfl, SqL.of upd_same, at_of (j := 1) rfl rfl, q _ t2 _ PL kL a2 ⟨(by decide +kernel : (Str.ofString "and", 2) ∈ partsL), i2⟩⟩
        · exact ⟨_, rfl, _, _, rfl, rfl, L, _, _, _, rfl, rfl, SqL.of upd_same, at_of (j := 2) rfl rfl, q _ t3 _ PL kL a3 ⟨(by decide +kernel : (Str.ofString "or", 2) ∈ partsL), i3⟩⟩
        · exact ⟨_, rfl, _, _, rfl, rfl, L, _, _, _, rfl, rfl, SqL.of upd_same, at_of (j := 3) rfl rfl, q _ t4 _ PL kL a4 ⟨(by decide +kernel : (Str.ofString "step", 1) ∈ partsL), i1⟩⟩
      · have e5 := ndec e4
        have c2 : (kd : Int) % 2 = 0 ∨ (kd : Int) % 2 = 1 := by omega
        obtain ⟨wh, hw, hw2⟩ : ∃ wh, atI [V.str "some", .str "all"] ((kd : Int) % 2) = some (.str wh) ∧ wh ∈ whoseL := by
          rcases c2 with c2 | c2
          · exact ⟨"some", by rw [c2]; rfl, by decide +kernel⟩
          · exact ⟨"all", by rw [c2]; rfl, by decide +kernel⟩
        obtain ⟨wd, hd, hd2⟩ : ∃ wd, atI [V.str "next", .str "once", .str "ever", .str "until", .str "unless", .str "until"] ((kd : Int) / 2 - 4) = some (.str wd) ∧ (((wd = Str.ofString "until" ∨ wd = Str.ofString "unless") ∧ (wd, 2) ∈ formsL) ∨ (¬ wd = Str.ofString "until" ∧ ¬ wd = Str.ofString "unless" ∧ (wd, 1) ∈ formsL)) := by
          have e6 : (kd : Int) / 2 = 4 ∨ (kd : Int) / 2 = 5 ∨ (kd : Int) / 2 = 6 ∨ (kd : Int) / 2 = 7 ∨ (kd : Int) / 2 = 8 ∨ (kd : Int) / 2 = 9 := by omega
          rcases e6 with e6 | e6 | e6 | e6 | e6 | e6 <;> rw [e6]
          · exact ⟨"next", rfl, .inr (by decide +kernel)⟩
          · exact ⟨"once", rfl, .inr (by decide +kernel)⟩
          · exact ⟨"ever", rfl, .inr (by decide +kernel)⟩
          · exact ⟨"until", rfl, .inl (by decide +kernel)⟩
          · exact ⟨"unless", rfl, .inl (by decide +kernel)⟩
          · exact ⟨"until", rfl, .inl (by decide +kernel)⟩
        refine ⟨by show 2 ≤ sizeLine; decide, fun t1 h1 => ⟨_, rfl, _, _, rfl, rfl, (by show (0 : Int) < _; decide), t1, _, _, _, rfl, rfl, SqL.of upd_same, hw, ?_⟩⟩
        refine ⟨by show 6 ≤ sizeLine; decide, fun t2 h2 => ⟨_, rfl, _, _, rfl, rfl, ⟨by decide, by decide⟩, _, _, rfl, rfl, t2, _, _, _, rfl, rfl, SqL.of upd_same, hd, ?_⟩⟩
        have m12 := (same_upd (o := .lst [.str "some", .str "all"]) h1).trans (same_upd (o := .lst [.str "next", .str "once", .str "ever", .str "until", .str "unless", .str "until"]) h2)
        have PL := P3'.same m12
        have kL := k3'.trans (skp m12)
        refine ⟨_, rfl, rfl, _, rfl, ite2 (fun x1 => ?wa) (fun x1 => ⟨_, rfl, rfl, _, rfl, ite2 (fun x2 => ?wb) (fun x2 => ?wc)⟩)⟩
        case wa | wb =>
          have hw3 : (wd, 2) ∈ formsL := by
            rcases hd2 with ⟨_, h⟩ | ⟨n1, n2, _⟩
            · exact h
            · first
              | exact absurd (of_decide_eq_true x2) (fun q => n2 (V.str.inj q))
              | exact absurd (of_decide_eq_true x1) (fun q => n1 (V.str.inj q))
          refine ⟨_, rfl, _, rfl, _, rfl, _, rfl, by show 4 ≤ sizeLine; decide, fun t ht => ?_⟩
          exact q _ t (.run wh wd [d2, (k : Int) - 1 - d1]) (PL.same (same_upd ht)) (kL.trans (skp (same_upd ht))) (SqT.of upd_same) ⟨hw2, hw3, i3⟩
        case wc =>
          have hw3 : (wd, 1) ∈ formsL := by
            rcases hd2 with ⟨h | h, _⟩ | ⟨_, _, h⟩
            · exact absurd (by rw [h]) (ndec x1)
            · exact absurd (by rw [h]) (ndec x2)
            · exact h
          refine ⟨_, rfl, _, rfl, _, rfl, by show 3 ≤ sizeLine; decide, fun t ht => ?_⟩
          exact q _ t (.run wh wd [(k : Int) - 1 - d1]) (PL.same (same_upd ht)) (kL.trans (skp (same_upd ht))) (SqT.of upd_same) ⟨hw2, hw3, i1⟩
def spSaying (K : PySem.W.Frag) : Sp := fun vs H Q _ => ∃ (a : PA) (c : Nat) (l : Addr) (zs : List Str) (m : Int), vs = [.ref a.p, .ref l, .int m] ∧ Pool H a c ∧ c < 600000 ∧ H l = some (.lst (zs.map V.str)) ∧ Off a l ∧ (∀ z ∈ zs, GoodName z) ∧ zs.length ≤ 8 ∧ 0 < m ∧ m ≤ 160 ∧
  ∀ (H' : Hp) (t : Addr) (rows : List Row), Pool H' a (c + 481) → Kp a H H' → SayAt K H' t rows → GoodSay rows → Q (.ref t) H'
theorem ok_saying {f : Addr} {fd : FuncData} (F : Fun K "_law_saying" "_law_saying" s_law_saying f fd) (T : Bi mg) (c_law_draw : Cal P w K mg base 1 "_law_draw" ["_law_pool_here", "_law_many"] spDraw) (c_law_row : Cal P w K mg base 2 "_law_row" ["_law_pool_here", "_law_names_here", "_law_at"] (spLRow K)) : FnOk P w K mg base CX0 3 f fd ["_law_pool_here", "_law_names_here", "_law_most"] (spSaying K) := by
  refine F.ok sc_law_saying (fun vs H Q E h => ?_) (fun cdv A outer s H vs Q E hr h => ?_)
  · obtain ⟨a, c, l, zs, m, rfl, _⟩ := h
    rfl
  · obtain ⟨a, c, l, zs, m, rfl, PP, hc, hl, ol, gz, lz, m0, m1, q⟩ := h
    refine ⟨_, (pss_cons (ps_set (i := 3) sc_law_saying.nd rfl (.inl rfl) (pe_lst pa_nil))
      (pss_cons (ps_for PassesOwn.never rfl (pi_range1 (by rfl) T.range (pa_cons (pe_op op_add pe_int (pe_call c_law_draw.G (hr.mono (by decide)) (by rfl) c_law_draw.g c_law_draw.kp c_law_draw.b .nil pass0 (pa_cons (pv 0) (pa_cons (pv 2) pa_nil)))) pa_nil)) (pg_name (i := 4) sc_law_saying.nd rfl (.inl rfl))
        (pss_one (ps_expr (pe_bm PySem.F.plainAttrs_list PySem.F.slot_list_append PySem.F.type_list_append mt_append (pv 3) (pa_cons (pe_call c_law_row.G hr (by rfl) c_law_row.g c_law_row.kp c_law_row.b .nil pass0 (pa_cons (pv 0) (pa_cons (pv 1) (pa_cons (pv 4) pa_nil)))) pa_nil)))))
      (pss_one (ps_ret (pe_callTy call_tuple_of (by rfl) T.tuple (by decide +kernel) (pa_cons (pv 3) pa_nil)))))), ?_⟩
    refine ⟨Nat.zero_le _, fun lr hlr => ?_⟩
    have olr := PP.off hlr
    refine ⟨_, rfl, _, rfl, a, c, m, rfl, PP.upd olr, by omega, m0, by omega, fun H1 r r0 r1 P1 k1 => ⟨_, _, rfl, rfl, 1 + r, rfl, by omega, by omega, for_range (lo := 0) (n := (1 + r).toNat) (fun i σ H' => ∃ (ra : List Addr) (rows : List Row) (y : Option V),
      σ = [some (.ref a.p), some (.ref l), some (.int m), some (.ref lr), y] ∧ Pool H' a (c + 1 + i * 3) ∧ Kp a H H' ∧ H' lr = some (.lst (ra.map V.ref)) ∧ Each (fun a r => SqT K H' a r.enc) ra rows ∧ rows.length = i ∧ (∀ j r, rows[j]? = some r → GoodRow j r))
      ⟨[], [], none, rfl, P1, ((Kp.refl H).mut hlr).trans k1, k1 _ _ upd_same olr, .nil, rfl, fun _ _ h => nomatch h⟩ ?_ ?_⟩⟩
    · rintro i σ H3 hi ⟨ra, rows, y, rfl, P3, k3, h3, e3, l3, g3⟩
      have i160 : i < 160 := by omega
      refine ⟨_, rfl, .inl ⟨rfl, _, SqL.of h3⟩, _, rfl, _, rfl, _, rfl, a, _, l, zs, i, by rw [Int.zero_add] <;> rfl, P3, by omega, k3 _ _ hl ol, ol, gz, lz, by omega, fun H4 t r' P4 k4 ht gr => ?_⟩
      have h4 := k4 _ _ h3 olr
      have wl := e3.len
      refine ⟨lr, _, _, rfl, rfl, h4, szLt (by rw [List.length_map]; omega), ?_⟩
      have e34 := (P3.imm k4).trans (Imm.list (o := .lst (ra.map V.ref ++ [.ref t])) h4)
      refine ⟨ra ++ [t], rows ++ [r'], some (.int (0 + i)), rfl, ?_, (k3.trans k4).mut hlr, ?_, ?_, ?_, ?_⟩
      · rw [show c + 1 + (i + 1) * 3 = c + 1 + i * 3 + 3 by omega]
        exact P4.upd olr
      · rw [upd_same, List.map_append]
        rfl
      · exact Each.snoc (R := fun a (r : Row) => SqT K (L2.upd H4 lr (.lst (ra.map V.ref ++ [.ref t]))) a r.enc) ((Imm.list (o := .lst (ra.map V.ref ++ [.ref t])) h4).sq ht) (e3.imp fun _ _ h => e34.sq h)
      · rw [List.length_append, l3]
        rfl
      · intro j r hj
        by_cases hji : j < rows.length
        · rw [List.getElem?_append_left hji] at hj
          exact g3 j r hj
        · rw [List.getElem?_append_right (by omega)] at hj
          have hj0 : j = i := by
            have := (List.getElem?_eq_some_iff.mp hj).1
            simp only [List.length_singleton] at this
            omega
          rw [hj0, l3, Nat.sub_self] at hj
          cases hj
          rw [hj0]
          exact gr
    · rintro σ H3 ⟨ra, rows, y, rfl, P3, k3, h3, e3, l3, g3⟩
      refine ⟨_, rfl, lr, _, rfl, .inl ⟨SqL.of h3, fun t ht => ?_⟩⟩
      exact q _ t rows ((P3.same (same_upd ht)).mono (by omega)) (k3.trans (skp (same_upd ht))) ⟨ra, SqT.of upd_same, e3.imp fun _ _ h => (Imm.new ht).sq h⟩ ⟨by omega, by omega, g3⟩
def spLaw (K : PySem.W.Frag) : Sp := fun vs H Q _ => ∃ (l : Addr) (ns : List Int), vs = [.ref l] ∧ SqL K H l (ns.map V.int) ∧ ns.length ≤ 63 ∧ ∀ H', Q (.bl true) H'
theorem ok_law {f : Addr} {fd : FuncData} (F : Fun K "law" "law" slaw f fd) (T : Bi mg) (c_law_pool : Cal P w K mg base 1 "_law_pool" ["_law_script"] (spPool K)) (c_law_draw : Cal P w K mg base 1 "_law_draw" ["_law_pool_here", "_law_many"] spDraw) (c_law_names : Cal P w K mg base 3 "_law_names" ["_law_pool_here", "_law_many"] spLNames)
    (c_law_saying : Cal P w K mg base 3 "_law_saying" ["_law_pool_here", "_law_names_here", "_law_most"] (spSaying K)) (ccheck : Cal P w K mg base 4 "check" ["thing"] (spSays K)) : FnOk P w K mg base CX0 5 f fd ["_law_script"] (spLaw K) := by
  refine F.ok sclaw (fun vs H Q E h => ?_) (fun cdv A outer s H vs Q E hr h => ?_)
  · obtain ⟨l, ns, rfl, _⟩ := h
    rfl
  · obtain ⟨l, ns, rfl, hS, hlen, q⟩ := h
    refine ⟨_, (pss_cons (ps_set (i := 1) sclaw.nd rfl (.inl rfl) (pe_call c_law_pool.G (hr.mono (by decide)) (by rfl) c_law_pool.g c_law_pool.kp c_law_pool.b .nil pass0 (pa_cons (pv 0) pa_nil)))
      (pss_cons (ps_set (i := 2) sclaw.nd rfl (.inl rfl) (pe_call c_law_draw.G (hr.mono (by decide)) (by rfl) c_law_draw.g c_law_draw.kp c_law_draw.b .nil pass0 (pa_cons (pv 1) (pa_cons pe_int pa_nil))))
      (pss_cons (ps_set (i := 3) sclaw.nd rfl (.inl rfl) (pe_call c_law_names.G (hr.mono (by decide)) (by rfl) c_law_names.g c_law_names.kp c_law_names.b .nil pass0 (pa_cons (pv 1) (pa_cons pe_int pa_nil))))
      (pss_cons (ps_set (i := 4) sclaw.nd rfl (.inl rfl) (pe_call c_law_saying.G (hr.mono (by decide)) (by rfl) c_law_saying.g c_law_saying.kp c_law_saying.b .nil pass0 (pa_cons (pv 1) (pa_cons (pv 3) (pa_cons (pe_ix ix_list (pe_lst (pa_cons pe_int (pa_cons pe_int (pa_cons pe_int (pa_cons pe_int (pa_cons pe_int pa_nil)))))) (pv 2) (fun _ _ => rfl)) pa_nil)))))
      (Evl.pss_cut (ps_if (pt_cmpR op_eq (pv 2) pe_int (nomark _))
        (pss_cons (ps_set (i := 5) sclaw.nd rfl (.inl rfl) (pe_lst (pa_cons (pe_tup (pa_cons pe_str (pa_cons (pe_ix ix_list (pv 3) pe_int (fun _ _ => rfl)) pa_nil))) pa_nil)))
        (pss_cons (ps_for PassesOwn.never rfl (pi_range1 (by rfl) T.range (pa_cons pe_int pa_nil)) (pg_name (i := 6) sclaw.nd rfl (.inl rfl))
          (pss_cons (ps_set (i := 7) sclaw.nd rfl (.inl rfl) (pe_call c_law_draw.G (hr.mono (by decide)) (by rfl) c_law_draw.g c_law_draw.kp c_law_draw.b .nil pass0 (pa_cons (pv 1) (pa_cons pe_int pa_nil))))
          (pss_one (ps_expr (pe_bm PySem.F.plainAttrs_list PySem.F.slot_list_append PySem.F.type_list_append mt_append (pv 5) (pa_cons (pe_ix ix_list (pe_lst (pa_cons (pe_tup (pa_cons pe_str (pa_cons (pv 6) pa_nil))) (pa_cons (pe_tup (pa_cons pe_str (pa_cons pe_int (pa_cons (pv 6) pa_nil)))) (pa_cons (pe_tup (pa_cons pe_str (pa_cons pe_str (pa_cons (pv 6) (pa_cons pe_int pa_nil))))) (pa_cons (pe_tup (pa_cons pe_str (pa_cons pe_str (pa_cons (pv 6) (pa_cons (pv 6) pa_nil))))) pa_nil))))) (pv 7) (fun _ _ => rfl)) pa_nil))))))
        (pss_one (ps_set (i := 4) sclaw.nd rfl (.inl rfl) (pe_callTy call_tuple_of (by rfl) T.tuple (by decide +kernel) (pa_cons (pv 5) pa_nil))))))
        pss_nil)
      (pss_one (ps_ret (pe_and (pe_cmpR op_is_bl (pe_call ccheck.G hr (by rfl) ccheck.g ccheck.kp ccheck.b .nil pass0 (pa_cons (pv 4) pa_nil)) pe_bl (nomark _)) (pe_and (pe_cmpR op_is_bl (pe_call ccheck.G hr (by rfl) ccheck.g ccheck.kp ccheck.b .nil pass0 (pa_cons (pe_tup (pa_cons (pe_tup (pa_cons pe_str pa_nil)) pa_nil)) pa_nil)) pe_bl (nomark _)) (pe_one (pe_cmpR op_is_bl (pe_call ccheck.G hr (by rfl) ccheck.g ccheck.kp ccheck.b .nil pass0 (pa_cons (pv 4) pa_nil)) pe_bl (nomark _)))))))))))), ?_⟩
    refine ⟨_, rfl, l, ns, rfl, hS, hlen, fun H1 a s1 P1 => ?_⟩
    refine ⟨_, rfl, a, 0, 5, rfl, P1, by decide, by decide, by decide, fun H2 way w0 w1 P2 k2 => ?_⟩
    refine ⟨_, rfl, a, _, 3, rfl, P2, by decide, by decide, fun H3 ln zs P3 k3 hl3 ol3 nz gz lz => ?_⟩
    refine ⟨_, rfl, _, rfl, by show 5 ≤ sizeLine; decide, fun u hu => ?_⟩
    have ou := P3.off hu
    have m3 := same_upd (o := .lst [.int 9, .int 160, .int 9, .int 160, .int 9]) hu
    obtain ⟨m, hm, m0, m1⟩ : ∃ m : Int, atI [V.int 9, .int 160, .int 9, .int 160, .int 9] way = some (.int m) ∧ 0 < m ∧ m ≤ 160 := by
      have : way = 0 ∨ way = 1 ∨ way = 2 ∨ way = 3 ∨ way = 4 := by omega
      rcases this with rfl | rfl | rfl | rfl | rfl
      · exact ⟨9, rfl, by decide, by decide⟩
      · exact ⟨160, rfl, by decide, by decide⟩
      · exact ⟨9, rfl, by decide, by decide⟩
      · exact ⟨160, rfl, by decide, by decide⟩
      · exact ⟨9, rfl, by decide, by decide⟩
    refine ⟨_, rfl, u, _, _, _, rfl, rfl, SqL.of upd_same, hm, a, _, ln, zs, m, rfl, P3.same m3, by decide, m3 _ _ hl3, ol3, gz, by omega, m0, m1, fun H4 t rows P4 k4 S4 g4 => ?_⟩
    have hl4 := k4 _ _ (m3 _ _ hl3) ol3
    refine ⟨fun σ H' => ∃ (t : Addr) (rows : List Row) (y5 y6 y7 : Option V), σ = [some (.ref l), some (.ref a.p), some (.int way), some (.ref ln), some (.ref t), y5, y6, y7] ∧ SayAt K H' t rows ∧ GoodSay rows, ?_, ?_⟩
    · refine ⟨_, rfl, rfl, _, rfl, ite2 (fun e => ?_) (fun e => ?_)⟩
      · obtain ⟨z, hz⟩ : ∃ z, zs[0]? = some z := ⟨zs[0], List.getElem?_eq_getElem (by omega)⟩
        refine ⟨_, rfl, ln, _, _, .str z, rfl, rfl, SqL.of hl4, at_of (j := 0) rfl (get_map hz), by show 2 ≤ sizeLine; decide, fun t0 ht0 => ⟨by show 1 ≤ sizeLine; decide, fun lr hlr => ?_⟩⟩
        have q1 := same_upd (o := .tup [.str "mark", .str z]) ht0
        have q2 := same_upd (o := .lst [.ref t0]) hlr
        have olr := (P4.same q1).off hlr
        refine ⟨159, rfl, by decide, by decide, for_range (lo := 0) (n := 159) (fun i σ H' => ∃ (ra : List Addr) (rows : List Row) (y6 y7 : Option V),
          σ = [some (.ref l), some (.ref a.p), some (.int way), some (.ref ln), some (.ref t), some (.ref lr), y6, y7] ∧ Pool H' a (1000 + i) ∧ H' lr = some (.lst (ra.map V.ref)) ∧ Each (fun a r => SqT K H' a r.enc) ra rows ∧ rows.length = i + 1 ∧ (∀ j r, rows[j]? = some r → GoodRow j r))
          ⟨[t0], [.mark z], none, none, rfl, ((P4.same q1).same q2).mono (by decide), upd_same, .cons (ssqt q2 (SqT.of upd_same)) .nil, rfl, fun j r hj => ?_⟩ ?_ ?_⟩
        · cases j with
          | zero => cases hj; exact gz z (List.mem_of_getElem? hz)
          | succ j => nomatch hj
        · rintro i σ H5 hi ⟨ra, rows, y6, y7, rfl, P5, h5, e5, l5, g5⟩
          refine ⟨_, rfl, a, _, 4, rfl, P5, by omega, by decide, by decide, fun H6 kd d0 d1 P6 k6 => ⟨_, rfl, .inl ⟨rfl, _, SqL.of (k6 _ _ h5 olr)⟩, ?_⟩⟩
          have h6 := k6 _ _ h5 olr
          refine ⟨_, rfl, by show 2 ≤ sizeLine; decide, fun t1 h1 => ⟨_, rfl, by show 3 ≤ sizeLine; decide, fun t2 h2 => ⟨_, rfl, by show 4 ≤ sizeLine; decide, fun t3 h3 => ⟨_, rfl, _, rfl, by show 4 ≤ sizeLine; decide, fun t4 h4 => ⟨by show 4 ≤ sizeLine; decide, fun L hL => ?_⟩⟩⟩⟩⟩
          have m1 := same_upd (o := .tup [.str "not", .int (0 + i)]) h1
          have m2 := same_upd (o := .tup [.str "or", .int 0, .int (0 + i)]) h2
          have m3 := same_upd (o := .tup [.str "all", .str "until", .int (0 + i), .int 0]) h3
          have m4 := same_upd (o := .tup [.str "some", .str "unless", .int (0 + i), .int (0 + i)]) h4
          have m5 := same_upd (o := .lst [.ref t1, .ref t2, .ref t3, .ref t4]) hL
          have all := (((m1.trans m2).trans m3).trans m4).trans m5
          have a1 : SqT K _ t1 (Row.word "not" [0 + (i : Int)]).enc := ssqt (((m2.trans m3).trans m4).trans m5) (SqT.of upd_same)
          have a2 : SqT K _ t2 (Row.word "or" [0, 0 + (i : Int)]).enc := ssqt ((m3.trans m4).trans m5) (SqT.of upd_same)
          have a3 : SqT K _ t3 (Row.run "all" "until" [0 + (i : Int), 0]).enc := ssqt (m4.trans m5) (SqT.of upd_same)
          have a4 : SqT K _ t4 (Row.run "some" "unless" [0 + (i : Int), 0 + (i : Int)]).enc := ssqt m5 (SqT.of upd_same)
          have PL := P6.same all
          have h7 := all _ _ h6
          have hL7 : L2.upd (L2.upd (L2.upd (L2.upd (L2.upd H6 t1 (.tup [.str "not", .int (0 + i)])) t2 (.tup [.str "or", .int 0, .int (0 + i)])) t3 (.tup [.str "all", .str "until", .int (0 + i), .int 0])) t4 (.tup [.str "some", .str "unless", .int (0 + i), .int (0 + i)])) L (.lst [.ref t1, .ref t2, .ref t3, .ref t4]) L = some (.lst [.ref t1, .ref t2, .ref t3, .ref t4]) := upd_same
          have i0 : Imm H5 (L2.upd (L2.upd (L2.upd (L2.upd (L2.upd H6 t1 (.tup [.str "not", .int (0 + i)])) t2 (.tup [.str "or", .int 0, .int (0 + i)])) t3 (.tup [.str "all", .str "until", .int (0 + i), .int 0])) t4 (.tup [.str "some", .str "unless", .int (0 + i), .int (0 + i)])) L (.lst [.ref t1, .ref t2, .ref t3, .ref t4])) := (P5.imm k6).trans (simm all)
          generalize L2.upd (L2.upd (L2.upd (L2.upd (L2.upd H6 t1 (.tup [.str "not", .int (0 + i)])) t2 (.tup [.str "or", .int 0, .int (0 + i)])) t3 (.tup [.str "all", .str "until", .int (0 + i), .int 0])) t4 (.tup [.str "some", .str "unless", .int (0 + i), .int (0 + i)])) L (.lst [.ref t1, .ref t2, .ref t3, .ref t4]) = H7 at *
          obtain ⟨t7, r7, hr7, ht7, gr7⟩ : ∃ t7 r7, atI [V.ref t1, .ref t2, .ref t3, .ref t4] kd = some (.ref t7) ∧ SqT K H7 t7 r7.enc ∧ GoodRow (i + 1) r7 := by
            have b1 : (0 : Int) ≤ 0 + i ∧ (0 : Int) + i < (i + 1 : Nat) := by omega
            have b0 : (0 : Int) ≤ 0 ∧ (0 : Int) < (i + 1 : Nat) := by omega
            have : kd = 0 ∨ kd = 1 ∨ kd = 2 ∨ kd = 3 := by omega
            rcases this with rfl | rfl | rfl | rfl
            · exact ⟨t1, _, rfl, a1, (by decide +kernel : (Str.ofString "not", 1) ∈ partsL), by simpa using b1⟩
            · exact ⟨t2, _, rfl, a2, (by decide +kernel : (Str.ofString "or", 2) ∈ partsL), by simpa using b1⟩
            · exact ⟨t3, _, rfl, a3, by decide +kernel, (by decide +kernel : (Str.ofString "until", 2) ∈ formsL), by simpa using b1⟩
            · exact ⟨t4, _, rfl, a4, by decide +kernel, (by decide +kernel : (Str.ofString "unless", 2) ∈ formsL), by simpa using b1⟩
          refine ⟨_, rfl, L, _, _, _, rfl, rfl, SqL.of hL7, hr7, lr, _, _, rfl, rfl, h7, szLt (by rw [List.length_map, e5.len]; omega), ?_⟩
          have e57 := i0.trans (Imm.list (o := .lst (ra.map V.ref ++ [.ref t7])) h7)
          refine ⟨ra ++ [t7], rows ++ [r7], some (.int (0 + i)), some (.int kd), rfl, ?_, ?_, ?_, ?_, ?_⟩
          · rw [show 1000 + (i + 1) = 1000 + i + 1 by omega]
            exact PL.upd olr
          · rw [upd_same, List.map_append]
            rfl
          · exact Each.snoc (R := fun a (r : Row) => SqT K (L2.upd H7 lr (.lst (ra.map V.ref ++ [.ref t7]))) a r.enc) ((Imm.list (o := .lst (ra.map V.ref ++ [.ref t7])) h7).sq ht7) (e5.imp fun _ _ h => e57.sq h)
          · rw [List.length_append, l5]
            rfl
          · intro j r hj
            by_cases hji : j < rows.length
            · rw [List.getElem?_append_left hji] at hj
              exact g5 j r hj
            · rw [List.getElem?_append_right (by omega)] at hj
              have hj0 : j = i + 1 := by
                have := (List.getElem?_eq_some_iff.mp hj).1
                simp only [List.length_singleton] at this
                omega
              rw [hj0, l5, Nat.sub_self] at hj
              cases hj
              rw [hj0]
              exact gr7
        · rintro σ H5 ⟨ra, rows, y6, y7, rfl, P5, h5, e5, l5, g5⟩
          refine ⟨_, rfl, lr, _, rfl, .inl ⟨SqL.of h5, fun t ht => ?_⟩⟩
          exact ⟨t, rows, _, _, _, rfl, ⟨ra, SqT.of upd_same, e5.imp fun _ _ h => (Imm.new ht).sq h⟩, ⟨by omega, by omega, g5⟩⟩
      · exact ⟨t, rows, none, none, none, rfl, S4, g4⟩
    · rintro σ H5 ⟨t, rows, y5, y6, y7, rfl, S5, g5⟩
      refine ⟨_, rfl, t, rows, rfl, S5, g5, fun H6 s6 => ⟨_, _, rfl, rfl, _, rfl, iteT ?_⟩⟩
      refine ⟨by show 1 ≤ sizeLine; decide, fun t1 ht1 => ⟨by show 1 ≤ sizeLine; decide, fun t2 ht2 => ⟨t2, [.word "yes" []], rfl, ⟨[t1], SqT.of upd_same, .cons (ssqt (same_upd ht2) (SqT.of upd_same)) .nil⟩, ⟨by decide, by decide, ?_⟩, fun H7 s7 => ⟨_, _, rfl, rfl, _, rfl, iteT ?_⟩⟩⟩⟩
      · intro j r hj
        cases j with
        | zero => cases hj; exact ⟨by decide +kernel, fun _ h => absurd h List.not_mem_nil⟩
        | succ j => nomatch hj
      · have i7 := ((s6.trans (simm (same_upd ht1))).trans (simm (same_upd ht2))).trans s7
        exact ⟨_, rfl, t, rows, rfl, S5.imm i7, g5, fun H8 s8 => ⟨_, _, rfl, rfl, q _⟩⟩
end

/-! ### what the top has written; the law's own head -/
theorem all_mk {l : PySem.W.OpenLaw} {w : World} {K : PySem.W.Frag} {h : Heap} {mg : Str → Option Value} {fa f1 f2 f3 f4 f5 f6 f7 f8 f9 f10 f11 f12 f13 f14 : Addr} (X : K.In h) (G : h.Ns mainGlobals mg) (hfa : mg "law" = some (.ref fa))
    {od1 an1 od2 an2 od3 an3 od4 an4 od5 an5 od6 an6 od7 an7 od8 an8 od9 an9 od10 an10 od11 an11 od12 an12 od13 an13 od14 an14 : Option Addr} {sl1 sl2 sl3 sl4 sl5 sl6 sl7 sl8 sl9 sl10 sl11 sl12 sl13 sl14 : Array (Option Value)} {oc1 kV1 dc1 pm1 cd1 ct1 oc2 kV2 dc2 pm2 cd2 ct2 oc3 kV3 dc3 pm3 cd3 ct3 oc4 kV4 dc4 pm4 cd4 ct4 oc5 kV5 dc5 pm5 cd5 ct5 oc6 kV6 dc6 pm6 cd6 ct6 oc7 kV7 dc7 pm7 cd7 ct7 oc8 kV8 dc8 pm8 cd8 ct8 oc9 kV9 dc9 pm9 cd9 ct9 oc10 kV10 dc10 pm10 cd10 ct10 oc11 kV11 dc11 pm11 cd11 ct11 oc12 kV12 dc12 pm12 cd12 ct12 oc13 kV13 dc13 pm13 cd13 ct13 oc14 kV14 dc14 pm14 cd14 ct14 : Value}
    (a1 : PySem.W.nsIn K mainGlobals "is_whole" = some (some (.ref f1))) (l1 : K.lookup f1 = some ⟨oc1, od1, .func (PySem.W.fnOf "is_whole" "is_whole" (defArgs sis_whole) (defBody sis_whole) (defScope sis_whole) .none kV1 dc1 pm1 an1 cd1 ct1), sl1⟩) (c1 : PySem.W.codeIn K cd1 "is_whole" = true) (k1 : PySem.W.keepIn K (.ref f1) = true)
    (a2 : PySem.W.nsIn K mainGlobals "is_number" = some (some (.ref f2))) (l2 : K.lookup f2 = some ⟨oc2, od2, .func (PySem.W.fnOf "is_number" "is_number" (defArgs sis_number) (defBody sis_number) (defScope sis_number) .none kV2 dc2 pm2 an2 cd2 ct2), sl2⟩) (c2 : PySem.W.codeIn K cd2 "is_number" = true) (k2 : PySem.W.keepIn K (.ref f2) = true)
    (a3 : PySem.W.nsIn K mainGlobals "is_row" = some (some (.ref f3))) (l3 : K.lookup f3 = some ⟨oc3, od3, .func (PySem.W.fnOf "is_row" "is_row" (defArgs sis_row) (defBody sis_row) (defScope sis_row) .none kV3 dc3 pm3 an3 cd3 ct3), sl3⟩) (c3 : PySem.W.codeIn K cd3 "is_row" = true) (k3 : PySem.W.keepIn K (.ref f3) = true)
    (a4 : PySem.W.nsIn K mainGlobals "is_name" = some (some (.ref f4))) (l4 : K.lookup f4 = some ⟨oc4, od4, .func (PySem.W.fnOf "is_name" "is_name" (defArgs sis_name) (defBody sis_name) (defScope sis_name) .none kV4 dc4 pm4 an4 cd4 ct4), sl4⟩) (c4 : PySem.W.codeIn K cd4 "is_name" = true) (k4 : PySem.W.keepIn K (.ref f4) = true)
    (a5 : PySem.W.nsIn K mainGlobals "numbers_of" = some (some (.ref f5))) (l5 : K.lookup f5 = some ⟨oc5, od5, .func (PySem.W.fnOf "numbers_of" "numbers_of" (defArgs snumbers_of) (defBody snumbers_of) (defScope snumbers_of) .none kV5 dc5 pm5 an5 cd5 ct5), sl5⟩) (c5 : PySem.W.codeIn K cd5 "numbers_of" = true) (k5 : PySem.W.keepIn K (.ref f5) = true)
    (a6 : PySem.W.nsIn K mainGlobals "can_stand" = some (some (.ref f6))) (l6 : K.lookup f6 = some ⟨oc6, od6, .func (PySem.W.fnOf "can_stand" "can_stand" (defArgs scan_stand) (defBody scan_stand) (defScope scan_stand) .none kV6 dc6 pm6 an6 cd6 ct6), sl6⟩) (c6 : PySem.W.codeIn K cd6 "can_stand" = true) (k6 : PySem.W.keepIn K (.ref f6) = true)
    (a7 : PySem.W.nsIn K mainGlobals "check" = some (some (.ref f7))) (l7 : K.lookup f7 = some ⟨oc7, od7, .func (PySem.W.fnOf "check" "check" (defArgs scheck) (defBody scheck) (defScope scheck) .none kV7 dc7 pm7 an7 cd7 ct7), sl7⟩) (c7 : PySem.W.codeIn K cd7 "check" = true) (k7 : PySem.W.keepIn K (.ref f7) = true)
    (a8 : PySem.W.nsIn K mainGlobals "_law_pool" = some (some (.ref f8))) (l8 : K.lookup f8 = some ⟨oc8, od8, .func (PySem.W.fnOf "_law_pool" "_law_pool" (defArgs s_law_pool) (defBody s_law_pool) (defScope s_law_pool) .none kV8 dc8 pm8 an8 cd8 ct8), sl8⟩) (c8 : PySem.W.codeIn K cd8 "_law_pool" = true) (k8 : PySem.W.keepIn K (.ref f8) = true)
    (a9 : PySem.W.nsIn K mainGlobals "_law_draw" = some (some (.ref f9))) (l9 : K.lookup f9 = some ⟨oc9, od9, .func (PySem.W.fnOf "_law_draw" "_law_draw" (defArgs s_law_draw) (defBody s_law_draw) (defScope s_law_draw) .none kV9 dc9 pm9 an9 cd9 ct9), sl9⟩) (c9 : PySem.W.codeIn K cd9 "_law_draw" = true) (k9 : PySem.W.keepIn K (.ref f9) = true)
    (a10 : PySem.W.nsIn K mainGlobals "_law_name" = some (some (.ref f10))) (l10 : K.lookup f10 = some ⟨oc10, od10, .func (PySem.W.fnOf "_law_name" "_law_name" (defArgs s_law_name) (defBody s_law_name) (defScope s_law_name) .none kV10 dc10 pm10 an10 cd10 ct10), sl10⟩) (c10 : PySem.W.codeIn K cd10 "_law_name" = true) (k10 : PySem.W.keepIn K (.ref f10) = true)
    (a11 : PySem.W.nsIn K mainGlobals "_law_names" = some (some (.ref f11))) (l11 : K.lookup f11 = some ⟨oc11, od11, .func (PySem.W.fnOf "_law_names" "_law_names" (defArgs s_law_names) (defBody s_law_names) (defScope s_law_names) .none kV11 dc11 pm11 an11 cd11 ct11), sl11⟩) (c11 : PySem.W.codeIn K cd11 "_law_names" = true) (k11 : PySem.W.keepIn K (.ref f11) = true)
    (a12 : PySem.W.nsIn K mainGlobals "_law_row" = some (some (.ref f12))) (l12 : K.lookup f12 = some ⟨oc12, od12, .func (PySem.W.fnOf "_law_row" "_law_row" (defArgs s_law_row) (defBody s_law_row) (defScope s_law_row) .none kV12 dc12 pm12 an12 cd12 ct12), sl12⟩) (c12 : PySem.W.codeIn K cd12 "_law_row" = true) (k12 : PySem.W.keepIn K (.ref f12) = true)
    (a13 : PySem.W.nsIn K mainGlobals "_law_saying" = some (some (.ref f13))) (l13 : K.lookup f13 = some ⟨oc13, od13, .func (PySem.W.fnOf "_law_saying" "_law_saying" (defArgs s_law_saying) (defBody s_law_saying) (defScope s_law_saying) .none kV13 dc13 pm13 an13 cd13 ct13), sl13⟩) (c13 : PySem.W.codeIn K cd13 "_law_saying" = true) (k13 : PySem.W.keepIn K (.ref f13) = true)
    (a14 : PySem.W.nsIn K mainGlobals "law" = some (some (.ref f14))) (l14 : K.lookup f14 = some ⟨oc14, od14, .func (PySem.W.fnOf "law" "law" (defArgs slaw) (defBody slaw) (defScope slaw) .none kV14 dc14 pm14 an14 cd14 ct14), sl14⟩) (c14 : PySem.W.codeIn K cd14 "law" = true) (k14 : PySem.W.keepIn K (.ref f14) = true)
    (z_ValueError : PySem.W.nsIn K mainGlobals "ValueError" = some none)
    (z_enumerate : PySem.W.nsIn K mainGlobals "enumerate" = some none)
    (z_range : PySem.W.nsIn K mainGlobals "range" = some none)
    (z_tuple : PySem.W.nsIn K mainGlobals "tuple" = some none)
    (z_isinstance : PySem.W.nsIn K mainGlobals "isinstance" = some none)
    (z_int : PySem.W.nsIn K mainGlobals "int" = some none)
    (z_all : PySem.W.nsIn K mainGlobals "all" = some none)
    (z_len : PySem.W.nsIn K mainGlobals "len" = some none)
    (z_bool : PySem.W.nsIn K mainGlobals "bool" = some none)
    (z_str : PySem.W.nsIn K mainGlobals "str" = some none)
    (z_min : PySem.W.nsIn K mainGlobals "min" = some none)
    {aWORDS : Addr} {odWORDS : Option Addr} {itsWORDS : Array Value} {nWORDS : Nat} {slWORDS : Array (Option Value)} (gWORDS : PySem.W.nsIn K mainGlobals "WORDS" = some (some (.ref aWORDS))) (lWORDS : K.lookup aWORDS = some ⟨.type "tuple", odWORDS, .seq itsWORDS nWORDS, slWORDS⟩) (sWORDS : itsWORDS.size ≤ sizeLine) (vWORDS : Vals (wordsL.map V.str) itsWORDS.toList)
    {aWHOSE : Addr} {odWHOSE : Option Addr} {itsWHOSE : Array Value} {nWHOSE : Nat} {slWHOSE : Array (Option Value)} (gWHOSE : PySem.W.nsIn K mainGlobals "WHOSE" = some (some (.ref aWHOSE))) (lWHOSE : K.lookup aWHOSE = some ⟨.type "tuple", odWHOSE, .seq itsWHOSE nWHOSE, slWHOSE⟩) (sWHOSE : itsWHOSE.size ≤ sizeLine) (vWHOSE : Vals (whoseL.map V.str) itsWHOSE.toList)
    {uLETTERS : Value} (gLETTERS : PySem.W.nsIn K mainGlobals "LETTERS" = some (some uLETTERS)) (rLETTERS : RelV (.str lettersS) uLETTERS)
    {uLONGEST : Value} (gLONGEST : PySem.W.nsIn K mainGlobals "LONGEST" = some (some uLONGEST)) (rLONGEST : RelV (.int 160) uLONGEST)
    {aPARTS : Addr} {esPARTS : Array DictEntry} {nPARTS : Nat} (gPARTS : PySem.W.nsIn K mainGlobals "PARTS" = some (some (.ref aPARTS))) (lPARTS : K.lookup aPARTS = some ⟨.type "dict", none, .dict esPARTS nPARTS, #[]⟩) (iPARTS : PySem.W.KeysLit w.params esPARTS.toList) (wPARTS : (aPARTS == sysModules) = false)
    {uPARTS0 : Value} (ePARTS0 : PySem.W.nsIn K aPARTS "yes" = some (some uPARTS0)) (rPARTS0 : RelV (.int 0) uPARTS0)
    {uPARTS1 : Value} (ePARTS1 : PySem.W.nsIn K aPARTS "no" = some (some uPARTS1)) (rPARTS1 : RelV (.int 0) uPARTS1)
    {uPARTS2 : Value} (ePARTS2 : PySem.W.nsIn K aPARTS "not" = some (some uPARTS2)) (rPARTS2 : RelV (.int 1) uPARTS2)
    {uPARTS3 : Value} (ePARTS3 : PySem.W.nsIn K aPARTS "and" = some (some uPARTS3)) (rPARTS3 : RelV (.int 2) uPARTS3)
    {uPARTS4 : Value} (ePARTS4 : PySem.W.nsIn K aPARTS "or" = some (some uPARTS4)) (rPARTS4 : RelV (.int 2) uPARTS4)
    {uPARTS5 : Value} (ePARTS5 : PySem.W.nsIn K aPARTS "step" = some (some uPARTS5)) (rPARTS5 : RelV (.int 1) uPARTS5)
    {aFORMS : Addr} {esFORMS : Array DictEntry} {nFORMS : Nat} (gFORMS : PySem.W.nsIn K mainGlobals "FORMS" = some (some (.ref aFORMS))) (lFORMS : K.lookup aFORMS = some ⟨.type "dict", none, .dict esFORMS nFORMS, #[]⟩) (iFORMS : PySem.W.KeysLit w.params esFORMS.toList) (wFORMS : (aFORMS == sysModules) = false)
    {uFORMS0 : Value} (eFORMS0 : PySem.W.nsIn K aFORMS "next" = some (some uFORMS0)) (rFORMS0 : RelV (.int 1) uFORMS0)
    {uFORMS1 : Value} (eFORMS1 : PySem.W.nsIn K aFORMS "once" = some (some uFORMS1)) (rFORMS1 : RelV (.int 1) uFORMS1)
    {uFORMS2 : Value} (eFORMS2 : PySem.W.nsIn K aFORMS "ever" = some (some uFORMS2)) (rFORMS2 : RelV (.int 1) uFORMS2)
    {uFORMS3 : Value} (eFORMS3 : PySem.W.nsIn K aFORMS "until" = some (some uFORMS3)) (rFORMS3 : RelV (.int 2) uFORMS3)
    {uFORMS4 : Value} (eFORMS4 : PySem.W.nsIn K aFORMS "unless" = some (some uFORMS4)) (rFORMS4 : RelV (.int 2) uFORMS4)
    : ∃ fd : FuncData, (∀ (s : Shared) (v : Value), BindsTo s fd ⟨[v], []⟩ [("_law_script", v)]) ∧ ∀ base : Heap, K.In base → base.Ns mainGlobals mg → FnOk l.prog w K mg base CX0 5 fa fd ["_law_script"] (spLaw K) := by
  have e := hfa.symm.trans (PySem.W.mg_of X G a14)
  cases e
  have F1 := fun_mk (st := sis_whole) l1 c1 k1
  have F2 := fun_mk (st := sis_number) l2 c2 k2
  have F3 := fun_mk (st := sis_row) l3 c3 k3
  have F4 := fun_mk (st := sis_name) l4 c4 k4
  have F5 := fun_mk (st := snumbers_of) l5 c5 k5
  have F6 := fun_mk (st := scan_stand) l6 c6 k6
  have F7 := fun_mk (st := scheck) l7 c7 k7
  have F8 := fun_mk (st := s_law_pool) l8 c8 k8
  have F9 := fun_mk (st := s_law_draw) l9 c9 k9
  have F10 := fun_mk (st := s_law_name) l10 c10 k10
  have F11 := fun_mk (st := s_law_names) l11 c11 k11
  have F12 := fun_mk (st := s_law_row) l12 c12 k12
  have F13 := fun_mk (st := s_law_saying) l13 c13 k13
  have F14 := fun_mk (st := slaw) l14 c14 k14
  have b1 := F1.binds (ps := ["thing"]) fun _ _ _ _ _ _ us hl => match us, hl with | [_], _ => rfl
  have b2 := F2.binds (ps := ["thing", "low", "high"]) fun _ _ _ _ _ _ us hl => match us, hl with | [_, _, _], _ => rfl
  have b3 := F3.binds (ps := ["thing", "least", "most"]) fun _ _ _ _ _ _ us hl => match us, hl with | [_, _, _], _ => rfl
  have b4 := F4.binds (ps := ["thing"]) fun _ _ _ _ _ _ us hl => match us, hl with | [_], _ => rfl
  have b5 := F5.binds (ps := ["row"]) fun _ _ _ _ _ _ us hl => match us, hl with | [_], _ => rfl
  have b6 := F6.binds (ps := ["thing", "at"]) fun _ _ _ _ _ _ us hl => match us, hl with | [_, _], _ => rfl
  have b7 := F7.binds (ps := ["thing"]) fun _ _ _ _ _ _ us hl => match us, hl with | [_], _ => rfl
  have b8 := F8.binds (ps := ["_law_script"]) fun _ _ _ _ _ _ us hl => match us, hl with | [_], _ => rfl
  have b9 := F9.binds (ps := ["_law_pool_here", "_law_many"]) fun _ _ _ _ _ _ us hl => match us, hl with | [_, _], _ => rfl
  have b10 := F10.binds (ps := ["_law_pool_here", "_law_start", "_law_taken"]) fun _ _ _ _ _ _ us hl => match us, hl with | [_, _, _], _ => rfl
  have b11 := F11.binds (ps := ["_law_pool_here", "_law_many"]) fun _ _ _ _ _ _ us hl => match us, hl with | [_, _], _ => rfl
  have b12 := F12.binds (ps := ["_law_pool_here", "_law_names_here", "_law_at"]) fun _ _ _ _ _ _ us hl => match us, hl with | [_, _, _], _ => rfl
  have b13 := F13.binds (ps := ["_law_pool_here", "_law_names_here", "_law_most"]) fun _ _ _ _ _ _ us hl => match us, hl with | [_, _, _], _ => rfl
  have T : Bi mg := ⟨PySem.W.mg_none_of X G z_ValueError, PySem.W.mg_none_of X G z_enumerate, PySem.W.mg_none_of X G z_range, PySem.W.mg_none_of X G z_tuple, PySem.W.mg_none_of X G z_isinstance, PySem.W.mg_none_of X G z_int, PySem.W.mg_none_of X G z_all, PySem.W.mg_none_of X G z_len, PySem.W.mg_none_of X G z_bool, PySem.W.mg_none_of X G z_str, PySem.W.mg_none_of X G z_min⟩
  have W : Wd K mg := ⟨aWORDS, uLETTERS, PySem.W.mg_of X G gWORDS, rfl, fun _ => .inr ⟨_, _, _, lWORDS, rfl, rfl, sWORDS, vWORDS⟩, PySem.W.mg_of X G gLETTERS, rLETTERS⟩
  have W1 : Wf K w mg := ⟨aWHOSE, aPARTS, aFORMS, esPARTS, nPARTS, esFORMS, nFORMS, uLONGEST, PySem.W.mg_of X G gWHOSE, rfl, fun _ => .inr ⟨_, _, _, lWHOSE, rfl, rfl, sWHOSE, vWHOSE⟩, PySem.W.mg_of X G gPARTS, rfl, ⟨lPARTS, iPARTS, wPARTS⟩, PySem.W.mg_of X G gFORMS, rfl, ⟨lFORMS, iFORMS, wFORMS⟩, PySem.W.mg_of X G gLONGEST, rLONGEST, List.forall_mem_cons.mpr ⟨⟨_, ePARTS0, rPARTS0⟩, List.forall_mem_cons.mpr ⟨⟨_, ePARTS1, rPARTS1⟩, List.forall_mem_cons.mpr ⟨⟨_, ePARTS2, rPARTS2⟩, List.forall_mem_cons.mpr ⟨⟨_, ePARTS3, rPARTS3⟩, List.forall_mem_cons.mpr ⟨⟨_, ePARTS4, rPARTS4⟩, List.forall_mem_cons.mpr ⟨⟨_, ePARTS5, rPARTS5⟩, List.forall_mem_nil _⟩⟩⟩⟩⟩⟩, List.forall_mem_cons.mpr ⟨⟨_, eFORMS0, rFORMS0⟩, List.forall_mem_cons.mpr ⟨⟨_, eFORMS1, rFORMS1⟩, List.forall_mem_cons.mpr ⟨⟨_, eFORMS2, rFORMS2⟩, List.forall_mem_cons.mpr ⟨⟨_, eFORMS3, rFORMS3⟩, List.forall_mem_cons.mpr ⟨⟨_, eFORMS4, rFORMS4⟩, List.forall_mem_nil _⟩⟩⟩⟩⟩⟩
  refine ⟨PySem.W.fnOf "law" "law" (defArgs slaw) (defBody slaw) (defScope slaw) .none kV14 dc14 pm14 an14 cd14 ct14, fun s v => .of_eq rfl, fun base _ _ => ?_⟩
  have cis_whole : Cal l.prog w K mg base 1 "is_whole" ["thing"] spWhole := ⟨f1, _, ok_whole F1 T, PySem.W.mg_of X G a1, F1.kp, b1⟩
  have cis_number : Cal l.prog w K mg base 2 "is_number" ["thing", "low", "high"] spNumber := ⟨f2, _, ok_number F2 T cis_whole, PySem.W.mg_of X G a2, F2.kp, b2⟩
  have cis_row : Cal l.prog w K mg base 1 "is_row" ["thing", "least", "most"] (spRow K) := ⟨f3, _, ok_row F3 T, PySem.W.mg_of X G a3, F3.kp, b3⟩
  have cis_name : Cal l.prog w K mg base 1 "is_name" ["thing"] spName := ⟨f4, _, ok_name F4 T W, PySem.W.mg_of X G a4, F4.kp, b4⟩
  have cnumbers_of : Cal l.prog w K mg base 1 "numbers_of" ["row"] (spNumbers K) := ⟨f5, _, ok_numbers F5 W1, PySem.W.mg_of X G a5, F5.kp, b5⟩
  have ccan_stand : Cal l.prog w K mg base 3 "can_stand" ["thing", "at"] (spStand K) := ⟨f6, _, ok_stand F6 T W1 cis_row cis_name cis_number cnumbers_of, PySem.W.mg_of X G a6, F6.kp, b6⟩
  have ccheck : Cal l.prog w K mg base 4 "check" ["thing"] (spSays K) := ⟨f7, _, ok_says F7 T W1 cis_row ccan_stand, PySem.W.mg_of X G a7, F7.kp, b7⟩
  have c_law_pool : Cal l.prog w K mg base 1 "_law_pool" ["_law_script"] (spPool K) := ⟨f8, _, ok_pool F8 , PySem.W.mg_of X G a8, F8.kp, b8⟩
  have c_law_draw : Cal l.prog w K mg base 1 "_law_draw" ["_law_pool_here", "_law_many"] spDraw := ⟨f9, _, ok_draw F9 T, PySem.W.mg_of X G a9, F9.kp, b9⟩
  have c_law_name : Cal l.prog w K mg base 2 "_law_name" ["_law_pool_here", "_law_start", "_law_taken"] spLName := ⟨f10, _, ok_lname F10 T c_law_draw, PySem.W.mg_of X G a10, F10.kp, b10⟩
  have c_law_names : Cal l.prog w K mg base 3 "_law_names" ["_law_pool_here", "_law_many"] spLNames := ⟨f11, _, ok_lnames F11 T c_law_draw c_law_name, PySem.W.mg_of X G a11, F11.kp, b11⟩
  have c_law_row : Cal l.prog w K mg base 2 "_law_row" ["_law_pool_here", "_law_names_here", "_law_at"] (spLRow K) := ⟨f12, _, ok_lrow F12 T c_law_draw, PySem.W.mg_of X G a12, F12.kp, b12⟩
  have c_law_saying : Cal l.prog w K mg base 3 "_law_saying" ["_law_pool_here", "_law_names_here", "_law_most"] (spSaying K) := ⟨f13, _, ok_saying F13 T c_law_draw c_law_row, PySem.W.mg_of X G a13, F13.kp, b13⟩
  exact ok_law F14 T c_law_pool c_law_draw c_law_names c_law_saying ccheck
end Fx
open PySem PySem.W PyProof.Rows
set_option maxHeartbeats 0 in
theorem PySem.Challenge.cw_fairtrees_k12_sayings_taken_holds : PySem.Challenge.rw_fairtrees_k12_sayings_taken.Holds := by
  w_on; o_law; k_head; (case hw => w_witness2)
  k_fill
  refine L2.walk_of (l := PySem.Challenge.rw_fairtrees_k12_sayings_taken) (n := 63) (k := 5) (x := "_law_script") (CX := fun _ => L2.CX0) (sp := fun w => Fx.spLaw _) rfl (by decide) rfl ⟨rfl, by decide, by decide⟩ (fun w h Y => PySem.W.kIn_of Y) ?F (fun _ _ a ns hl _ hS => ⟨a, ns, rfl, hS, hl, fun _ => rfl⟩) (fun _ _ _ _ _ h => h)
  case F =>
    intro w mg fa h KX G hmg
    refine' Fx.all_mk KX G hmg ?a1 ?l1 ?c1 ?k1 ?a2 ?l2 ?c2 ?k2 ?a3 ?l3 ?c3 ?k3 ?a4 ?l4 ?c4 ?k4 ?a5 ?l5 ?c5 ?k5 ?a6 ?l6 ?c6 ?k6 ?a7 ?l7 ?c7 ?k7 ?a8 ?l8 ?c8 ?k8 ?a9 ?l9 ?c9 ?k9 ?a10 ?l10 ?c10 ?k10 ?a11 ?l11 ?c11 ?k11 ?a12 ?l12 ?c12 ?k12 ?a13 ?l13 ?c13 ?k13 ?a14 ?l14 ?c14 ?k14 ?z_ValueError ?z_enumerate ?z_range ?z_tuple ?z_isinstance ?z_int ?z_all ?z_len ?z_bool ?z_str ?z_min ?gWORDS ?lWORDS ?sWORDS ?vWORDS ?gWHOSE ?lWHOSE ?sWHOSE ?vWHOSE ?gLETTERS ?rLETTERS ?gLONGEST ?rLONGEST ?gPARTS ?lPARTS ?iPARTS ?wPARTS ?ePARTS0 ?rPARTS0 ?ePARTS1 ?rPARTS1 ?ePARTS2 ?rPARTS2 ?ePARTS3 ?rPARTS3 ?ePARTS4 ?rPARTS4 ?ePARTS5 ?rPARTS5 ?gFORMS ?lFORMS ?iFORMS ?wFORMS ?eFORMS0 ?rFORMS0 ?eFORMS1 ?rFORMS1 ?eFORMS2 ?rFORMS2 ?eFORMS3 ?rFORMS3 ?eFORMS4 ?rFORMS4
    (case a1 => k_is); (case l1 => k_is); (case c1 => k_is); (case k1 => k_is); (case a2 => k_is); (case l2 => k_is); (case c2 => k_is); (case k2 => k_is); (case a3 => k_is); (case l3 => k_is); (case c3 => k_is); (case k3 => k_is); (case a4 => k_is); (case l4 => k_is); (case c4 => k_is); (case k4 => k_is); (case a5 => k_is); (case l5 => k_is); (case c5 => k_is); (case k5 => k_is); (case a6 => k_is); (case l6 => k_is); (case c6 => k_is); (case k6 => k_is); (case a7 => k_is); (case l7 => k_is); (case c7 => k_is); (case k7 => k_is); (case a8 => k_is); (case l8 => k_is); (case c8 => k_is); (case k8 => k_is); (case a9 => k_is); (case l9 => k_is); (case c9 => k_is); (case k9 => k_is); (case a10 => k_is); (case l10 => k_is); (case c10 => k_is); (case k10 => k_is); (case a11 => k_is); (case l11 => k_is); (case c11 => k_is); (case k11 => k_is); (case a12 => k_is); (case l12 => k_is); (case c12 => k_is); (case k12 => k_is); (case a13 => k_is); (case l13 => k_is); (case c13 => k_is); (case k13 => k_is); (case a14 => k_is); (case l14 => k_is); (case c14 => k_is); (case k14 => k_is); (case z_ValueError => k_is); (case z_enumerate => k_is); (case z_range => k_is); (case z_tuple => k_is); (case z_isinstance => k_is); (case z_int => k_is); (case z_all => k_is); (case z_len => k_is); (case z_bool => k_is); (case z_str => k_is); (case z_min => k_is); (case gWORDS => k_is); (case lWORDS => k_is); (case gWHOSE => k_is); (case lWHOSE => k_is); (case gLETTERS => k_is); (case gLONGEST => k_is); (case gPARTS => k_is); (case lPARTS => k_is); (case ePARTS0 => k_is); (case ePARTS1 => k_is); (case ePARTS2 => k_is); (case ePARTS3 => k_is); (case ePARTS4 => k_is); (case ePARTS5 => k_is); (case gFORMS => k_is); (case lFORMS => k_is); (case eFORMS0 => k_is); (case eFORMS1 => k_is); (case eFORMS2 => k_is); (case eFORMS3 => k_is); (case eFORMS4 => k_is)
    (case sWORDS => decide)
    (case vWORDS => repeat (first | exact .nil | refine .cons ⟨_, rfl⟩ ?_))
    (case sWHOSE => decide)
    (case vWHOSE => repeat (first | exact .nil | refine .cons ⟨_, rfl⟩ ?_))
    (case rLETTERS => exact ⟨_, rfl⟩)
    (case rLONGEST => exact ⟨_, rfl⟩)
    (case iPARTS => repeat (first | exact trivial | refine ⟨⟨_, _, rfl, rfl⟩, ?_⟩))
    (case wPARTS => decide)
    (case rPARTS0 => exact ⟨_, rfl⟩)
    (case rPARTS1 => exact ⟨_, rfl⟩)
    (case rPARTS2 => exact ⟨_, rfl⟩)
    (case rPARTS3 => exact ⟨_, rfl⟩)
    (case rPARTS4 => exact ⟨_, rfl⟩)
    (case rPARTS5 => exact ⟨_, rfl⟩)
    (case iFORMS => repeat (first | exact trivial | refine ⟨⟨_, _, rfl, rfl⟩, ?_⟩))
    (case wFORMS => decide)
    (case rFORMS0 => exact ⟨_, rfl⟩)
    (case rFORMS1 => exact ⟨_, rfl⟩)
    (case rFORMS2 => exact ⟨_, rfl⟩)
    (case rFORMS3 => exact ⟨_, rfl⟩)
    (case rFORMS4 => exact ⟨_, rfl⟩)
