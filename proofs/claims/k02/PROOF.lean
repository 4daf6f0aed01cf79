import PyProof.Rows.All
import Wide.All
import OpenK.AllK
import Wide.FinOn
import HandS.ForMost
import HandS.TupAny
import HandS.TupMul
import HandS.IsInst
import HandS.TupLe
import HandS.DictComp
import HandS.Conv
import HandS.Walk
import HandS.Evl
import KE.GoesMore
import PyProof.Draws
import PyProof.CollectIter
import PyProof.WalksMore
import PyProof.TupleOfSeq
import KE.KDictList
import HandS.Defaults
import HandS.MakeKwOnly
import HandS.Deep
import HandS.WordsExc
import HandS.ExcOwn
import HandS.TryOnly
import HandS.ExcIs
import PySem.Challenge.RW_fairtrees_k02_no_machine
set_option Elab.async false
set_option linter.all false
set_option maxRecDepth 100000
set_option maxHeartbeats 4000000
namespace Fx
open PySem PySem.Spec PyProof.Rows L2
def topS (i : Nat) : Stmt := PySem.Challenge.pw_fairtrees_k02_no_machine.main.body.getD i (.Pass ⟨0, 0, 0, 0⟩)

/-! ### heaps, data, the pool of draws -/
/-- a def of the text as its callers see it -/
structure Cal (P : Program) (w : World) (K : PySem.W.Frag) (mg : Str → Option Value) (base : Heap) (k : Nat) (x : Str) (ps : List Str) (sp : Sp) where
  f : Addr
  fd : FuncData
  G : FnOk P w K mg base CX0 k f fd ps sp
  g : mg x = some (.ref f)
  kp : PySem.W.keepIn K (.ref f) = true
  b : Binds K fd ps []
theorem same_upd {H : Hp} {p : Addr} {o : HO} (h : H p = none) : Same H (upd H p o) := fun b x e => by
  rw [upd_ne (ne_of_none e h)]
  exact e
/-- an object that H does not know may change -/
theorem smut {H H' : Hp} {p : Addr} {o : HO} (e : Same H H') (h : H p = none) : Same H (upd H' p o) := fun a u ha => by
  rw [upd_ne (ne_of_none ha h)]
  exact e a u ha
/-- all tuples stand -/
def Imm (H H' : Hp) : Prop := ∀ a xs, Rd H a (.tup xs) → Rd H' a (.tup xs)
theorem Imm.refl (H : Hp) : Imm H H := fun _ _ h => h
theorem Imm.trans {H H1 H2 : Hp} (a : Imm H H1) (b : Imm H1 H2) : Imm H H2 := fun x xs h => b x xs (a x xs h)
theorem simm {H H' : Hp} (e : Same H H') : Imm H H' := fun a xs h => by
  rcases h with h | ⟨o, h⟩
  · exact .inl (e _ _ h)
  · exact .inr ⟨o, e _ _ h⟩
theorem Imm.sq {K : PySem.W.Frag} {H H' : Hp} {a : Addr} {xs : List V} (e : Imm H H') (h : SqT K H a xs) : SqT K H' a xs := by
  rcases h with h | h
  · exact .inl (e _ _ h)
  · exact .inr h
theorem ssqt {K : PySem.W.Frag} {H H' : Hp} {a : Addr} {xs : List V} (e : Same H H') (h : SqT K H a xs) : SqT K H' a xs := (simm e).sq h
/-- a list that changes is no tuple -/
theorem Imm.list {H : Hp} {p : Addr} {xs : List V} {o : HO} (h : H p = some (.lst xs)) : Imm H (upd H p o) := fun a ys e => by
  rcases e with e | ⟨u, e⟩
  · exact .inl (by rw [upd_ne (ne_of h e (by intro q; cases q)).symm]; exact e)
  · exact .inr ⟨u, by rw [upd_ne (ne_of h e (by intro q; cases q)).symm]; exact e⟩
theorem Imm.new {H : Hp} {p : Addr} {o : HO} (h : H p = none) : Imm H (upd H p o) := simm (same_upd h)
/-- a list of addresses, each a tuple of such things -/
inductive Each {α : Type} (R : Addr → α → Prop) : List Addr → List α → Prop where
  | nil : Each R [] []
  | cons {a : Addr} {as : List Addr} {x : α} {xs : List α} (h : R a x) (t : Each R as xs) : Each R (a :: as) (x :: xs)
theorem Each.imp {α : Type} {R S : Addr → α → Prop} (f : ∀ a x, R a x → S a x) : ∀ {as : List Addr} {xs : List α}, Each R as xs → Each S as xs
  | _, _, .nil => .nil
  | _, _, .cons h t => .cons (f _ _ h) (t.imp f)
theorem Each.len {α : Type} {R : Addr → α → Prop} : ∀ {as : List Addr} {xs : List α}, Each R as xs → as.length = xs.length
  | _, _, .nil => rfl
  | _, _, .cons _ t => by rw [List.length_cons, List.length_cons, t.len]
theorem Each.get {α : Type} {R : Addr → α → Prop} : ∀ {as : List Addr} {xs : List α} {i : Nat} {a : Addr}, Each R as xs → as[i]? = some a → ∃ x, xs[i]? = some x ∧ R a x
  | _, _, _, _, .nil, h => by simp at h
  | _, _, 0, _, .cons (x := x) r _, h => by
    have e := Option.some.inj h
    subst e
    exact ⟨x, rfl, r⟩
  | _, _, i + 1, _, .cons _ t, h => by
    obtain ⟨x, h1, h2⟩ := t.get (i := i) (by simpa using h)
    exact ⟨x, by simpa using h1, h2⟩
theorem Each.getx {α : Type} {R : Addr → α → Prop} : ∀ {as : List Addr} {xs : List α} {i : Nat} {x : α}, Each R as xs → xs[i]? = some x → ∃ a, as[i]? = some a ∧ R a x
  | _, _, _, _, .nil, h => by simp at h
  | _, _, 0, _, .cons (a := a) r _, h => by
    have e := Option.some.inj h
    subst e
    exact ⟨a, rfl, r⟩
  | _, _, i + 1, _, .cons _ t, h => by
    obtain ⟨x, h1, h2⟩ := t.getx (i := i) (by simpa using h)
    exact ⟨x, by simpa using h1, h2⟩
theorem Each.snoc {α : Type} {R : Addr → α → Prop} {a : Addr} {x : α} (r : R a x) : ∀ {as : List Addr} {xs : List α}, Each R as xs → Each R (as ++ [a]) (xs ++ [x])
  | _, _, .nil => .cons r .nil
  | _, _, .cons h t => .cons h (t.snoc r)
theorem map_get {α : Type} {f : α → V} {xs : List α} {i : Nat} {v : V} (h : (xs.map f)[i]? = some v) : ∃ x, xs[i]? = some x ∧ v = f x := by
  rw [List.getElem?_map] at h
  cases e : xs[i]? with
  | none =>
    rw [e] at h
    cases h
  | some x =>
    rw [e] at h
    exact ⟨x, rfl, (Option.some.inj h).symm⟩
theorem get_map {α : Type} {f : α → V} {xs : List α} {i : Nat} {x : α} (h : xs[i]? = some x) : (xs.map f)[i]? = some (f x) := by
  rw [List.getElem?_map, h]
  rfl
theorem notdec {p : Prop} [Decidable p] (h : (!decide p) = true) : ¬ p := by simpa using h
theorem dec_of {p : Prop} [Decidable p] (h : ¬ ((!decide p) = true)) : p := by simpa using h
theorem ixN_nat {n j : Nat} (hj : j < n) : ixN n (j : Int) = some j := by
  unfold ixN
  rw [if_pos (by omega), if_pos (by omega)]
  simp
theorem ixN0 {n : Nat} (h : 0 < n) : ixN n 0 = some 0 := ixN_nat (j := 0) h
theorem six0 {n : Nat} (h : 0 < n) : seqIndex? 0 n = some 0 := by
  unfold seqIndex?
  simp
  omega
theorem szOk {n : Nat} (h : n ≤ 100000) : n ≤ sizeLine := Nat.le_trans h (by decide)
theorem szLt {n : Nat} (h : n < 100000) : n < sizeLine := Nat.lt_of_lt_of_le h (by decide)
theorem ty_sqt {K : PySem.W.Frag} {H : Hp} {a : Addr} {xs : List V} (h : SqT K H a xs) : TyX K H (.ref a) (.type "tuple") := by
  rcases h with (h | ⟨o, h⟩) | ⟨o, its, n, hk, hc, _⟩
  · exact .base (.tup h)
  · exact .fTuple h
  · exact .kTuple hk hc
/-- the pool's addresses: itself, its great numbers, its small ones -/
structure PA where
  p : Addr
  g : Addr
  s : Addr
def Off (a : PA) (b : Addr) : Prop := b ≠ a.p ∧ b ≠ a.g ∧ b ≠ a.s
structure Pool (H : Hp) (a : PA) (c : Nat) : Prop where
  ex : ∃ (gs ss : List Int) (st ct : Int), H a.p = some (.lst [.ref a.g, .ref a.s, .int st, .int ct]) ∧ H a.g = some (.lst (gs.map V.int)) ∧ H a.s = some (.lst (ss.map V.int)) ∧
    gs.length ≤ 63 ∧ ss.length ≤ 63 ∧ 0 ≤ st ∧ st < 2147483647 ∧ 0 ≤ ct ∧ ct ≤ c ∧ a.s ≠ a.g
/-- all but the pool stands -/
def Kp (a : PA) (H H' : Hp) : Prop := ∀ b o, H b = some o → Off a b → H' b = some o
theorem Kp.refl {a : PA} (H : Hp) : Kp a H H := fun _ _ h _ => h
theorem Kp.trans {a : PA} {H H1 H2 : Hp} (x : Kp a H H1) (y : Kp a H1 H2) : Kp a H H2 := fun c o h n => y c o (x c o h n) n
theorem skp {a : PA} {H H' : Hp} (s : Same H H') : Kp a H H' := fun b o h _ => s b o h
theorem Kp.mut {a : PA} {H H' : Hp} {q : Addr} {o : HO} (e : Kp a H H') (h : H q = none) : Kp a H (upd H' q o) := fun b u hb n => by
  rw [upd_ne (ne_of_none hb h)]
  exact e b u hb n
theorem Kp.free {a : PA} {H H' : Hp} {l : Addr} (k : Kp a H H') (h : H' l = none) (n : Off a l) : H l = none := by
  cases e : H l with
  | none => rfl
  | some o =>
    rw [k l o e n] at h
    cases h
theorem Pool.mono {H : Hp} {a : PA} {c c' : Nat} (P : Pool H a c) (h : c ≤ c') : Pool H a c' := by
  obtain ⟨gs, ss, st, ct, a1, a2, a3, a4, a5, a6, a7, a8, a9, a10⟩ := P.ex
  exact ⟨gs, ss, st, ct, a1, a2, a3, a4, a5, a6, a7, a8, by omega, a10⟩
theorem Pool.same {H H' : Hp} {a : PA} {c : Nat} (P : Pool H a c) (e : Same H H') : Pool H' a c := by
  obtain ⟨gs, ss, st, ct, a1, a2, a3, a4, a5, a6, a7, a8, a9, a10⟩ := P.ex
  exact ⟨gs, ss, st, ct, e _ _ a1, e _ _ a2, e _ _ a3, a4, a5, a6, a7, a8, a9, a10⟩
theorem Pool.off {H : Hp} {a : PA} {b : Addr} {c : Nat} (P : Pool H a c) (h : H b = none) : Off a b := by
  obtain ⟨gs, ss, st, ct, a1, a2, a3, a4, a5, a6, a7, a8, a9, a10⟩ := P.ex
  exact ⟨(ne_of_none a1 h).symm, (ne_of_none a2 h).symm, (ne_of_none a3 h).symm⟩
/-- what is no list is none of the pool's -/
theorem Pool.offo {H : Hp} {a : PA} {b : Addr} {c : Nat} {o : HO} (P : Pool H a c) (h : H b = some o) (n : ∀ xs, o ≠ .lst xs) : Off a b := by
  obtain ⟨gs, ss, st, ct, a1, a2, a3, a4, a5, a6, a7, a8, a9, a10⟩ := P.ex
  exact ⟨(ne_of a1 h (n _).symm).symm, (ne_of a2 h (n _).symm).symm, (ne_of a3 h (n _).symm).symm⟩
theorem Pool.imm {H H' : Hp} {a : PA} {c : Nat} (P : Pool H a c) (k : Kp a H H') : Imm H H' := fun b xs h => by
  rcases h with h | ⟨o, h⟩
  · exact .inl (k _ _ h (P.offo h fun _ q => by cases q))
  · exact .inr ⟨o, k _ _ h (P.offo h fun _ q => by cases q)⟩
/-- an object beside the pool is laid or changed -/
theorem Pool.upd {H : Hp} {a : PA} {b : Addr} {c : Nat} {o : HO} (P : Pool H a c) (n : Off a b) : Pool (upd H b o) a c := by
  obtain ⟨gs, ss, st, ct, a1, a2, a3, a4, a5, a6, a7, a8, a9, a10⟩ := P.ex
  exact ⟨gs, ss, st, ct, by rw [upd_ne n.1.symm]; exact a1, by rw [upd_ne n.2.1.symm]; exact a2, by rw [upd_ne n.2.2.symm]; exact a3, a4, a5, a6, a7, a8, a9, a10⟩
/-! ### rules within a comprehension's block: the written part by its name -/
section
variable {X : Cx}
theorem ixL (K : PySem.W.Frag) (h : X.K = K := by rfl) : IxR X (rIxL K) := by subst h; exact ix_list
theorem ixT (K : PySem.W.Frag) (h : X.K = K := by rfl) : IxR X (rIxT K) := by subst h; exact ix_tup
theorem inS (K : PySem.W.Frag) (h : X.K = K := by rfl) : OpR X (compareOp .In) (rIn K false) := by subst h; exact op_in_seq
theorem ninS (K : PySem.W.Frag) (h : X.K = K := by rfl) : OpR X (compareOp .NotIn) (rIn K true) := by subst h; exact op_notIn_seq
theorem lenS (K : PySem.W.Frag) (h : X.K = K := by rfl) : CallR X (.builtin "len") (fun xs H Q => ∃ p ys, xs = [.ref p] ∧ (SqL K H p ys ∨ SqT K H p ys) ∧ Q (.int ys.length) H) := by subst h; exact call_len_seq
theorem isiK (K : PySem.W.Frag) (h : X.K = K := by rfl) : CallR X (.builtin "isinstance") (rIsi K) := by subst h; exact call_isi
theorem tupOf (K : PySem.W.Frag) (h : X.K = K := by rfl) : CallR X (.type "tuple") (fun xs H Q => ∃ p ys, xs = [.ref p] ∧ ((SqL K H p ys ∧ ∀ l, H l = none → Q (.ref l) (upd H l (.tup ys))) ∨ (SqT K H p ys ∧ Q (.ref p) H))) := by subst h; exact call_tuple_of
theorem slL (K : PySem.W.Frag) (h : X.K = K := by rfl) : SlR X (rSlL K) := by subst h; exact sl_list
theorem slA (K : PySem.W.Frag) (h : X.K = K := by rfl) : SlR X (rSlA K) := by subst h; exact sl_tupA
theorem catA (K : PySem.W.Frag) (h : X.K = K := by rfl) : OpR X (binaryOp .Add) (rCatA K) := by subst h; exact op_catA
theorem sortS (K : PySem.W.Frag) (h : X.K = K := by rfl) : CallR X (.builtin "sorted") (rSortedS K) := by subst h; exact cr_sortedS
theorem sortI (K : PySem.W.Frag) (h : X.K = K := by rfl) : CallR X (.builtin "sorted") (rSorted K) := by subst h; exact cr_sorted
end
/-! ### comprehensions: what holds of the list so far -/
section
variable {K : PySem.W.Frag}
/-- over a range, its turns drawing from the pool (k draws a turn) -/
theorem lc_rangeP {lo : Int} {n j : Nat} {tt : TT} {te : TE} {vs : List Nat} {σ : L2.St} {H1 : Hp} {D : Addr} {Qd : Hp → Prop} {a : PA} {c0 : Nat} (k : Nat) (ok : Nat → List V → Prop)
    (P0 : Pool H1 a c0) (hD : H1 D = none) (hn : n ≤ 100000) (h0 : ok 0 []) (hw : ∀ x, wipe ((wipe σ vs).set j (some x)) vs = wipe σ vs)
    (turn : ∀ (i : Nat) (H : Hp) (acc : List V), i < n → Pool H a (c0 + i * k) → Kp a H1 H → ok i acc → acc.length ≤ i → ∀ (N1 : V → Hp → Prop) (N2 : Hp → Prop),
      (∀ y H', Pool H' a (c0 + i * k + k) → Kp a H H' → ok (i + 1) (acc ++ [y]) → N1 y H') → (∀ H', Pool H' a (c0 + i * k + k) → Kp a H H' → ok (i + 1) acc → N2 H') →
      tt ((wipe σ vs).set j (some (.int (lo + i)))) H fun b H3 => if b = true then te ((wipe σ vs).set j (some (.int (lo + i)))) H3 N1 else N2 H3)
    (done : ∀ (H : Hp) (acc : List V), Pool H a (c0 + n * k) → Kp a H1 H → H D = some (.lst acc) → acc.length ≤ n → ok n acc → Off a D → Qd H) :
    ∃ W : Nat → Nat → Hp → Prop, (∃ m, W 0 m (upd H1 D (.lst []))) ∧ ∀ i m H, W i m H →
      ((Itr lo n).stop i H ∧ Qd H) ∨ ((Itr lo n).go i H ∧ ∃ Nx : Hp → Prop, (∀ H', Nx H' → ∃ m', m' < m ∧ W (i + 1) m' H') ∧ ∀ x H', (Itr lo n).yld i H x H' → (gName j) x (wipe σ vs) H' fun σ2 H2 => wipe σ2 vs = wipe σ vs ∧ tt σ2 H2 fun b H3 =>
        if b = true then te σ2 H3 fun y H4 => ∃ acc, H4 D = some (.lst acc) ∧ acc.length < sizeLine ∧ Nx (upd H4 D (.lst (acc ++ [y]))) else Nx H3) := by
  have oD : Off a D := P0.off hD
  refine lc_range (lo := lo) (n := n) (fun i H => ∃ acc, Pool H a (c0 + i * k) ∧ Kp a H1 H ∧ H D = some (.lst acc) ∧ acc.length ≤ i ∧ ok i acc) ⟨[], ?_, skp (same_upd hD), upd_same, Nat.le_refl _, h0⟩ (fun i H hi p => ?_) (fun H p => ?_)
  · rw [Nat.zero_mul]
    exact P0.upd oD
  · obtain ⟨acc, p1, p2, p3, p4, p5⟩ := p
    refine ⟨hw _, turn i H acc hi p1 p2 p5 p4 _ _ (fun y H' q1 q2 q3 => ⟨acc, q2 _ _ p3 oD, szLt (by omega), acc ++ [y], ?_, ?_, upd_same, ?_, q3⟩) (fun H' q1 q2 q3 => ⟨acc, ?_, p2.trans q2, q2 _ _ p3 oD, by omega, q3⟩)⟩
    · rw [Nat.succ_mul, ← Nat.add_assoc]
      exact q1.upd oD
    · exact Kp.mut (p2.trans q2) hD
    · rw [List.length_append]
      show acc.length + 1 ≤ i + 1
      omega
    · rw [Nat.succ_mul, ← Nat.add_assoc]
      exact q1
  · obtain ⟨acc, p1, p2, p3, p4, p5⟩ := p
    exact done H acc p1 p2 p3 p4 p5 oD
/-- over a walked thing, its turns changing nothing that stood -/
theorem lc_rangeS {lo : Int} {n j : Nat} {tt : TT} {te : TE} {vs : List Nat} {σ : L2.St} {H1 : Hp} {D : Addr} {Qd : Hp → Prop} (ok : Nat → List V → Prop)
    (hD : H1 D = none) (hn : n ≤ 100000) (h0 : ok 0 []) (hw : ∀ x, wipe ((wipe σ vs).set j (some x)) vs = wipe σ vs)
    (turn : ∀ (i : Nat) (H : Hp) (acc : List V), i < n → Same H1 H → ok i acc → acc.length ≤ i → ∀ (N1 : V → Hp → Prop) (N2 : Hp → Prop),
      (∀ y H', Same H H' → ok (i + 1) (acc ++ [y]) → N1 y H') → (∀ H', Same H H' → ok (i + 1) acc → N2 H') →
      tt ((wipe σ vs).set j (some (.int (lo + i)))) H fun b H3 => if b = true then te ((wipe σ vs).set j (some (.int (lo + i)))) H3 N1 else N2 H3)
    (done : ∀ (H : Hp) (acc : List V), Same H1 H → H D = some (.lst acc) → acc.length ≤ n → ok n acc → Qd H) :
    ∃ W : Nat → Nat → Hp → Prop, (∃ m, W 0 m (upd H1 D (.lst []))) ∧ ∀ i m H, W i m H →
      ((Itr lo n).stop i H ∧ Qd H) ∨ ((Itr lo n).go i H ∧ ∃ Nx : Hp → Prop, (∀ H', Nx H' → ∃ m', m' < m ∧ W (i + 1) m' H') ∧ ∀ x H', (Itr lo n).yld i H x H' → (gName j) x (wipe σ vs) H' fun σ2 H2 => wipe σ2 vs = wipe σ vs ∧ tt σ2 H2 fun b H3 =>
        if b = true then te σ2 H3 fun y H4 => ∃ acc, H4 D = some (.lst acc) ∧ acc.length < sizeLine ∧ Nx (upd H4 D (.lst (acc ++ [y]))) else Nx H3) := by
  refine lc_range (lo := lo) (n := n) (fun i H => ∃ acc, Same H1 H ∧ H D = some (.lst acc) ∧ acc.length ≤ i ∧ ok i acc) ⟨[], same_upd hD, upd_same, Nat.le_refl _, h0⟩ (fun i H hi p => ?_) (fun H p => ?_)
  · obtain ⟨acc, p2, p3, p4, p5⟩ := p
    refine ⟨hw _, turn i H acc hi p2 p5 p4 _ _ (fun y H' q2 q3 => ⟨acc, q2 _ _ p3, szLt (by omega), acc ++ [y], smut (p2.trans q2) hD, upd_same, ?_, q3⟩) (fun H' q2 q3 => ⟨acc, p2.trans q2, q2 _ _ p3, by omega, q3⟩)⟩
    rw [List.length_append]
    show acc.length + 1 ≤ i + 1
    omega
  · obtain ⟨acc, p2, p3, p4, p5⟩ := p
    exact done H acc p2 p3 p4 p5
theorem lc_listS {a : Addr} {xs : List V} {j : Nat} {tt : TT} {te : TE} {vs : List Nat} {σ : L2.St} {H1 : Hp} {D : Addr} {Qd : Hp → Prop} (ok : Nat → List V → Prop)
    (hx : SqL K H1 a xs) (hD : H1 D = none) (hn : xs.length ≤ 100000) (h0 : ok 0 []) (hw : ∀ x, wipe ((wipe σ vs).set j (some x)) vs = wipe σ vs)
    (turn : ∀ (i : Nat) (x : V) (H : Hp) (acc : List V), xs[i]? = some x → Same H1 H → ok i acc → acc.length ≤ i → ∀ (N1 : V → Hp → Prop) (N2 : Hp → Prop),
      (∀ y H', Same H H' → ok (i + 1) (acc ++ [y]) → N1 y H') → (∀ H', Same H H' → ok (i + 1) acc → N2 H') →
      tt ((wipe σ vs).set j (some x)) H fun b H3 => if b = true then te ((wipe σ vs).set j (some x)) H3 N1 else N2 H3)
    (done : ∀ (H : Hp) (acc : List V), Same H1 H → H D = some (.lst acc) → acc.length ≤ xs.length → ok xs.length acc → Qd H) :
    ∃ W : Nat → Nat → Hp → Prop, (∃ m, W 0 m (upd H1 D (.lst []))) ∧ ∀ i m H, W i m H →
      ((Itl K a).stop i H ∧ Qd H) ∨ ((Itl K a).go i H ∧ ∃ Nx : Hp → Prop, (∀ H', Nx H' → ∃ m', m' < m ∧ W (i + 1) m' H') ∧ ∀ x H', (Itl K a).yld i H x H' → (gName j) x (wipe σ vs) H' fun σ2 H2 => wipe σ2 vs = wipe σ vs ∧ tt σ2 H2 fun b H3 =>
        if b = true then te σ2 H3 fun y H4 => ∃ acc, H4 D = some (.lst acc) ∧ acc.length < sizeLine ∧ Nx (upd H4 D (.lst (acc ++ [y]))) else Nx H3) := by
  refine lc_list (xs := xs) (fun i H => ∃ acc, Same H1 H ∧ H D = some (.lst acc) ∧ acc.length ≤ i ∧ ok i acc) ⟨[], same_upd hD, upd_same, Nat.le_refl _, h0⟩ (fun i H _ p => ?_) (fun i x H hi p => ?_) (fun H p => ?_)
  · obtain ⟨acc, p2, _⟩ := p
    exact p2.seq hx
  · obtain ⟨acc, p2, p3, p4, p5⟩ := p
    have hil : i < xs.length := (List.getElem?_eq_some_iff.mp hi).1
    refine ⟨hw _, turn i x H acc hi p2 p5 p4 _ _ (fun y H' q2 q3 => ⟨acc, q2 _ _ p3, szLt (by omega), acc ++ [y], smut (p2.trans q2) hD, upd_same, ?_, q3⟩) (fun H' q2 q3 => ⟨acc, p2.trans q2, q2 _ _ p3, by omega, q3⟩)⟩
    rw [List.length_append]
    show acc.length + 1 ≤ i + 1
    omega
  · obtain ⟨acc, p2, p3, p4, p5⟩ := p
    exact done H acc p2 p3 p4 p5
theorem lc_tupS {a : Addr} {xs : List V} {j : Nat} {tt : TT} {te : TE} {vs : List Nat} {σ : L2.St} {H1 : Hp} {D : Addr} {Qd : Hp → Prop} (ok : Nat → List V → Prop)
    (hx : SqT K H1 a xs) (hD : H1 D = none) (hn : xs.length ≤ 100000) (h0 : ok 0 []) (hw : ∀ x, wipe ((wipe σ vs).set j (some x)) vs = wipe σ vs)
    (turn : ∀ (i : Nat) (x : V) (H : Hp) (acc : List V), xs[i]? = some x → Same H1 H → ok i acc → acc.length ≤ i → ∀ (N1 : V → Hp → Prop) (N2 : Hp → Prop),
      (∀ y H', Same H H' → ok (i + 1) (acc ++ [y]) → N1 y H') → (∀ H', Same H H' → ok (i + 1) acc → N2 H') →
      tt ((wipe σ vs).set j (some x)) H fun b H3 => if b = true then te ((wipe σ vs).set j (some x)) H3 N1 else N2 H3)
    (done : ∀ (H : Hp) (acc : List V), Same H1 H → H D = some (.lst acc) → acc.length ≤ xs.length → ok xs.length acc → Qd H) :
    ∃ W : Nat → Nat → Hp → Prop, (∃ m, W 0 m (upd H1 D (.lst []))) ∧ ∀ i m H, W i m H →
      ((Itt K a).stop i H ∧ Qd H) ∨ ((Itt K a).go i H ∧ ∃ Nx : Hp → Prop, (∀ H', Nx H' → ∃ m', m' < m ∧ W (i + 1) m' H') ∧ ∀ x H', (Itt K a).yld i H x H' → (gName j) x (wipe σ vs) H' fun σ2 H2 => wipe σ2 vs = wipe σ vs ∧ tt σ2 H2 fun b H3 =>
        if b = true then te σ2 H3 fun y H4 => ∃ acc, H4 D = some (.lst acc) ∧ acc.length < sizeLine ∧ Nx (upd H4 D (.lst (acc ++ [y]))) else Nx H3) := by
  refine lc_tup (xs := xs) (fun i H => ∃ acc, Same H1 H ∧ H D = some (.lst acc) ∧ acc.length ≤ i ∧ ok i acc) ⟨[], same_upd hD, upd_same, Nat.le_refl _, h0⟩ (fun i H _ p => ?_) (fun i x H hi p => ?_) (fun H p => ?_)
  · obtain ⟨acc, p2, _⟩ := p
    exact ssqt p2 hx
  · obtain ⟨acc, p2, p3, p4, p5⟩ := p
    have hil : i < xs.length := (List.getElem?_eq_some_iff.mp hi).1
    refine ⟨hw _, turn i x H acc hi p2 p5 p4 _ _ (fun y H' q2 q3 => ⟨acc, q2 _ _ p3, szLt (by omega), acc ++ [y], smut (p2.trans q2) hD, upd_same, ?_, q3⟩) (fun H' q2 q3 => ⟨acc, p2.trans q2, q2 _ _ p3, by omega, q3⟩)⟩
    rw [List.length_append]
    show acc.length + 1 ≤ i + 1
    omega
  · obtain ⟨acc, p2, p3, p4, p5⟩ := p
    exact done H acc p2 p3 p4 p5
end

/-- what the top leaves of the names that the text reads -/
structure Bi (mg : Str → Option Value) : Prop where
  ValueError : mg "ValueError" = none
  len : mg "len" = none
  range : mg "range" = none
  isinstance : mg "isinstance" = none
  int : mg "int" = none
  tuple : mg "tuple" = none
  bool : mg "bool" = none
  str : mg "str" = none
  list : mg "list" = none
  sorted : mg "sorted" = none

/-! ### _law_pool, _law_draw -/
abbrev s_law_pool : Stmt := topS 18
theorem sc_law_pool : FnScope ["_law_script", "_law_great", "_law_cell"] ["_law_script"] (defScope s_law_pool) := ⟨rfl, rfl, rfl, by decide +kernel, rfl, by decide +kernel, by decide +kernel⟩
abbrev s_law_draw : Stmt := topS 19
theorem sc_law_draw : FnScope ["_law_pool_here", "_law_many_here", "_law_cell"] ["_law_pool_here", "_law_many_here"] (defScope s_law_draw) := ⟨rfl, rfl, rfl, by decide +kernel, rfl, by decide +kernel, by decide +kernel⟩
section
variable {P : Program} {w : World} {K : PySem.W.Frag} {mg : Str → Option Value} {base : Heap}
def spPool (K : PySem.W.Frag) : Sp := fun vs H Q _ => ∃ (l : Addr) (ns : List Int), vs = [.ref l] ∧ SqL K H l (ns.map V.int) ∧ ns.length ≤ 63 ∧ ∀ H' a, Same H H' → Pool H' a 0 → Q (.ref a.p) H'
theorem ok_pool {f : Addr} {fd : FuncData} (F : Fun K "_law_pool" "_law_pool" s_law_pool f fd) : FnOk P w K mg base CX0 1 f fd ["_law_script"] (spPool K) := by
  refine F.ok sc_law_pool (fun vs H Q E h => ?_) (fun cdv A outer s H vs Q E hr h => ?_)
  · obtain ⟨l, ns, rfl, _⟩ := h
    rfl
  · obtain ⟨l, ns, rfl, hS, hlen, q⟩ := h
    refine ⟨_, (pss_cons (ps_setLc (i := 1) (own := [("_law_cell", 2)]) (g := gName 2) (by rfl) sc_law_pool.nd rfl rfl (sw_true rfl rfl rfl (by decide +kernel)) (pi_list (pv 0)) (blkOk_by (own := [("_law_cell", 2)]) (N := ["_law_script", "_law_great", "_law_cell"]) (sc := defScope s_law_pool) (by decide +kernel)) (fun _ _ _ _ _ => (pg_name (i := 2) sc_law_pool.nd rfl (.inl rfl))) (fun _ _ _ _ _ => (pts_one (pt_cmpR op_ge (pv 2) (pe_op op_pow pe_int pe_int) (nomark _)))) (fun _ _ _ _ _ => (pv 2)))
      (pss_one (ps_ret (pe_lst (pa_cons (pv 1) (pa_cons (pe_lc (own := [("_law_cell", 2)]) (g := gName 2) rfl sc_law_pool.nd (pi_list (pv 0)) (blkOk_by (own := [("_law_cell", 2)]) (N := ["_law_script", "_law_great", "_law_cell"]) (sc := defScope s_law_pool) (by decide +kernel)) (fun _ _ _ _ _ => (pg_name (i := 2) sc_law_pool.nd rfl (.inl rfl))) (fun _ _ _ _ _ => (pts_one (pt_cmpR op_lt (pv 2) (pe_op op_pow pe_int pe_int) (nomark _)))) (fun _ _ _ _ _ => (pv 2))) (pa_cons pe_int (pa_cons pe_int pa_nil)))))))), ?_⟩
    refine ⟨_, rfl, l, rfl, ⟨_, hS⟩, fun D hD => lc_listS (K := K) (a := l) (xs := ns.map V.int) (fun i acc => ∃ gs : List Int, acc = gs.map V.int) hS hD (by rw [List.length_map]; omega) ⟨[], rfl⟩ (fun _ => rfl) ?_ ?_⟩
    · intro i x H1 acc hx s1 ⟨gs, hg⟩ _ N1 N2 k1 k2
      obtain ⟨z, hz, rfl⟩ := map_get hx
      refine ⟨_, rfl, _, _, rfl, rfl, ⟨by decide, by decide, by decide⟩, _, _, rfl, rfl, _, rfl, ite2 (fun e => ?_) (fun e => ?_)⟩
      · exact ⟨_, rfl, k1 _ _ (Same.refl _) ⟨gs ++ [z], by rw [hg, List.map_append]; rfl⟩⟩
      · exact k2 _ (Same.refl _) ⟨gs, hg⟩
    · intro H1 acc s1 hD1 la ⟨gs, hg⟩
      subst hg
      have hS1 : SqL K H1 l (ns.map V.int) := s1.seq hS
      refine ⟨_, rfl, _, rfl, l, rfl, ⟨_, hS1⟩, fun D2 hD2 => lc_listS (K := K) (a := l) (xs := ns.map V.int) (fun i acc => ∃ gs : List Int, acc = gs.map V.int) hS1 hD2 (by rw [List.length_map]; omega) ⟨[], rfl⟩ (fun _ => rfl) ?_ ?_⟩
      · intro i x H2 acc hx s2 ⟨gs, hg⟩ _ N1 N2 k1 k2
        obtain ⟨z, hz, rfl⟩ := map_get hx
        refine ⟨_, rfl, _, _, rfl, rfl, ⟨by decide, by decide, by decide⟩, _, _, rfl, rfl, _, rfl, ite2 (fun e => ?_) (fun e => ?_)⟩
        · exact ⟨_, rfl, k1 _ _ (Same.refl _) ⟨gs ++ [z], by rw [hg, List.map_append]; rfl⟩⟩
        · exact k2 _ (Same.refl _) ⟨gs, hg⟩
      · intro H2 acc s2 hD2' la2 ⟨ss, hs⟩
        subst hs
        refine ⟨by show 4 ≤ sizeLine; decide, fun p hp => q _ ⟨p, D, D2⟩ ((s1.trans s2).trans (same_upd hp)) ⟨gs, ss, 5, 0, upd_same, ?_, ?_, ?_, ?_, by decide, by decide, by decide, by decide, ?_⟩⟩
        · show upd H2 p _ D = _
          rw [upd_ne (ne_of_none (s2 _ _ hD1) hp)]
          exact s2 _ _ hD1
        · show upd H2 p _ D2 = _
          rw [upd_ne (ne_of_none hD2' hp)]
          exact hD2'
        · rw [List.length_map, List.length_map] at la
          omega
        · rw [List.length_map, List.length_map] at la2
          omega
        · exact (ne_of_none hD1 hD2).symm
def spDraw : Sp := fun vs H Q _ => ∃ (a : PA) (c : Nat) (m : Int), vs = [.ref a.p, .int m] ∧ Pool H a c ∧ c < 1000000 ∧ 0 < m ∧ m < 1073741824 ∧
  ∀ H' r, 0 ≤ r → r < m → Pool H' a (c + 1) → Kp a H H' → Q (.int r) H'
theorem ok_draw {f : Addr} {fd : FuncData} (F : Fun K "_law_draw" "_law_draw" s_law_draw f fd) (T : Bi mg) : FnOk P w K mg base CX0 1 f fd ["_law_pool_here", "_law_many_here"] spDraw := by
  refine F.ok sc_law_draw (fun vs H Q E h => ?_) (fun cdv A outer s H vs Q E hr h => ?_)
  · obtain ⟨a, c, m, rfl, _⟩ := h
    rfl
  · obtain ⟨⟨p, g, s⟩, c, m, rfl, PP, hc, hm0, hm1, q⟩ := h
    obtain ⟨gs, ss, st, ct, a1, a2, a3, a4, a5, a6, a7, a8, a9, a10⟩ := PP.ex
    have npg : p ≠ g := ne_of a1 a2 (by intro q; have := HO.lst.inj q; cases gs <;> cases this)
    have nps : p ≠ s := ne_of a1 a3 (by intro q; have := HO.lst.inj q; cases ss <;> cases this)
    refine ⟨_, (pss_cons (ps_if (pt_cmpR op_gt (pe_callB call_len_seq (by rfl) T.len PySem.boot_len (pa_cons (pe_ix ix_list (pv 0) pe_int (fun _ _ => rfl)) pa_nil)) pe_int (nomark _))
        (pss_cons (ps_set (i := 2) sc_law_draw.nd rfl (.inl rfl) (pe_ix ix_list (pe_ix ix_list (pv 0) pe_int (fun _ _ => rfl)) pe_int (fun _ _ => rfl)))
        (pss_cons (ps_asg (pe_op op_fdiv (pv 2) (pv 1)) (pg_sub (pe_ix ix_list (pv 0) pe_int (fun _ _ => rfl)) pe_int set_list))
        (pss_cons (ps_if (pt_cmpR op_eq (pe_op op_fdiv (pv 2) (pv 1)) pe_int (nomark _))
          (pss_one (ps_expr (pe_bm PySem.F.plainAttrs_list PySem.F.slot_list_pop PySem.F.type_list_pop mt_popAt (pe_ix ix_list (pv 0) pe_int (fun _ _ => rfl)) (pa_cons pe_int pa_nil))))
          pss_nil)
        (pss_one (ps_ret (pe_op op_mod (pv 2) (pv 1)))))))
        pss_nil)
      (pss_cons (ps_asg (pe_op op_add (pe_ix ix_list (pv 0) pe_int (fun _ _ => rfl)) pe_int) (pg_sub (pv 0) pe_int set_list))
      (pss_cons (ps_set (i := 2) sc_law_draw.nd rfl (.inl rfl) pe_int)
      (pss_cons (ps_if (pt_cmpR op_gt (pe_callB call_len_seq (by rfl) T.len PySem.boot_len (pa_cons (pe_ix ix_list (pv 0) pe_int (fun _ _ => rfl)) pa_nil)) pe_int (nomark _))
        (pss_one (ps_set (i := 2) sc_law_draw.nd rfl (.inl rfl) (pe_ix ix_list (pe_ix ix_list (pv 0) pe_int (fun _ _ => rfl)) (pe_op op_mod (pe_ix ix_list (pv 0) pe_int (fun _ _ => rfl)) (pe_callB call_len_seq (by rfl) T.len PySem.boot_len (pa_cons (pe_ix ix_list (pv 0) pe_int (fun _ _ => rfl)) pa_nil))) (fun _ _ => rfl))))
        pss_nil)
      (pss_cons (ps_set (i := 2) sc_law_draw.nd rfl (.inl rfl) (pe_op op_mul (pe_op op_mod (pv 2) pe_int) (pe_op op_add (pe_op op_mul (pe_ix ix_list (pv 0) pe_int (fun _ _ => rfl)) (pe_ix ix_list (pv 0) pe_int (fun _ _ => rfl))) pe_int)))
      (pss_cons (ps_asg (pe_op op_mod (pe_op op_add (pe_op op_add (pe_op op_mul (pe_ix ix_list (pv 0) pe_int (fun _ _ => rfl)) pe_int) (pv 2)) (pe_op op_mul pe_int (pe_ix ix_list (pv 0) pe_int (fun _ _ => rfl)))) pe_int) (pg_sub (pv 0) pe_int set_list))
      (pss_one (ps_ret (pe_op op_mod (pe_op op_fdiv (pe_op op_mod (pe_op op_pow (pe_ix ix_list (pv 0) pe_int (fun _ _ => rfl)) pe_int) pe_int) pe_int) (pv 1)))))))))), ?_⟩
    -- if len(pool[0]) > 0
    refine ⟨_, rfl, p, _, _, _, rfl, rfl, SqL.of a1, at_of (j := 0) rfl rfl, g, _, rfl, .inl (SqL.of a2), _, _, rfl, rfl, _, rfl, ite2 (fun e => ?_) (fun e => ?_)⟩
    · obtain ⟨z, r, rfl⟩ : ∃ z r, gs = z :: r := by
        cases gs with
        | nil => exact absurd e (by decide)
        | cons z r => exact ⟨z, r, rfl⟩
      refine ⟨_, rfl, p, _, _, _, rfl, rfl, SqL.of a1, at_of (j := 0) rfl rfl, g, _, _, .int z, rfl, rfl, SqL.of a2, at_of (j := 0) rfl rfl, ?_⟩
      have a1' : ∀ o, upd H g o p = some (.lst [.ref g, .ref s, .int st, .int ct]) := fun o => by
        rw [upd_ne npg]
        exact a1
      have a3' : ∀ o, upd H g o s = some (.lst (ss.map V.int)) := fun o => by
        rw [upd_ne a10]
        exact a3
      refine ⟨_, rfl, _, rfl, _, _, rfl, rfl, ⟨hm0, hm1⟩, _, rfl, p, _, _, _, rfl, rfl, SqL.of a1, at_of (j := 0) rfl rfl, g, _, 0, 0, rfl, rfl, a2, ixN0 (by simp), ?_⟩
      refine ⟨_, rfl, _, rfl, _, _, rfl, rfl, ⟨hm0, hm1⟩, rfl, _, rfl, ite2 (fun e0 => ?_) (fun e0 => ?_)⟩
      · refine ⟨_, rfl, p, _, _, _, rfl, rfl, SqL.of (a1' _), at_of (j := 0) rfl rfl, .inl ⟨rfl, _, SqL.of upd_same⟩, g, _, 0, 0, _, rfl, rfl, upd_same, by decide, by decide, six0 (by simp), rfl, ?_⟩
        refine ⟨_, rfl, _, rfl, _, _, rfl, rfl, hm0, ?_⟩
        refine q _ _ (Int.emod_nonneg _ (by omega)) (Int.emod_lt_of_pos _ hm0) ⟨r, ss, st, ct, ?_, ?_, ?_, ?_, a5, a6, a7, a8, by omega, a10⟩ (fun b o hb n => ?_)
        · rw [upd_upd]
          exact a1' _
        · show upd _ g _ g = _
          rw [upd_same]
          rfl
        · rw [upd_upd]
          exact a3' _
        · simp at a4
          omega
        · rw [upd_ne n.2.1, upd_ne n.2.1]
          exact hb
      · refine ⟨_, rfl, _, rfl, _, _, rfl, rfl, hm0, ?_⟩
        refine q _ _ (Int.emod_nonneg _ (by omega)) (Int.emod_lt_of_pos _ hm0) ⟨(z / m) :: r, ss, st, ct, a1' _, ?_, a3' _, ?_, a5, a6, a7, a8, by omega, a10⟩ (fun b o hb n => ?_)
        · show upd _ g _ g = _
          rw [upd_same]
          rfl
        · simpa using a4
        · rw [upd_ne n.2.1]
          exact hb
    · -- pool[3] = pool[3] + 1
      refine ⟨_, rfl, p, _, _, _, rfl, rfl, SqL.of a1, at_of (j := 3) rfl rfl, _, _, rfl, rfl, _, rfl, p, _, 3, 3, rfl, rfl, a1, rfl, ?_⟩
      have w1 : upd H p (.lst [.ref g, .ref s, .int st, .int (ct + 1)]) p = some (.lst [.ref g, .ref s, .int st, .int (ct + 1)]) := upd_same
      have w2 : ∀ o, upd H p o g = some (.lst (gs.map V.int)) := fun o => by
        rw [upd_ne npg.symm]
        exact a2
      have w3 : ∀ o, upd H p o s = some (.lst (ss.map V.int)) := fun o => by
        rw [upd_ne nps.symm]
        exact a3
      -- cell = 0; if len(pool[1]) > 0
      refine ⟨_, rfl, p, _, _, _, rfl, rfl, SqL.of w1, at_of (j := 1) rfl rfl, s, _, rfl, .inl (SqL.of (w3 _)), _, _, rfl, rfl, _, rfl, ite2 (fun e => ?_) (fun e => ?_)⟩
      · have l0 : 0 < ss.length := by
          have := of_decide_eq_true e
          simpa using this
        have l1 : 0 ≤ (ct + 1) % (ss.length : Int) := Int.emod_nonneg _ (by omega)
        have l2 : (ct + 1) % (ss.length : Int) < ss.length := Int.emod_lt_of_pos _ (by omega)
        obtain ⟨j, ej⟩ : ∃ j : Nat, (ct + 1) % (ss.length : Int) = (j : Int) := ⟨_, (Int.toNat_of_nonneg l1).symm⟩
        have hj : j < ss.length := by omega
        have gj : (ss.map V.int)[j]? = some (.int ss[j]) := get_map (List.getElem?_eq_getElem hj)
        refine ⟨_, rfl, p, _, _, _, rfl, rfl, SqL.of w1, at_of (j := 1) rfl rfl, _, rfl, p, _, _, _, rfl, rfl, SqL.of w1, at_of (j := 3) rfl rfl, _, rfl, p, _, _, _, rfl, rfl, SqL.of w1, at_of (j := 1) rfl rfl, s, _, rfl, .inl (SqL.of (w3 _)), _, _, rfl, rfl, (by rw [List.length_map]; omega),
          s, _, _, _, rfl, rfl, SqL.of (w3 _), at_of (by rw [List.length_map]; exact ej) gj, ?_⟩
        generalize ss[j] = y
        refine ⟨_, rfl, _, _, rfl, rfl, (by show (0 : Int) < _; decide), _, rfl, p, _, _, _, rfl, rfl, SqL.of w1, at_of (j := 3) rfl rfl, _, rfl, p, _, _, _, rfl, rfl, SqL.of w1, at_of (j := 3) rfl rfl, _, _, rfl, rfl, .inl ⟨by omega, by omega⟩, _, _, rfl, rfl, _, _, rfl, rfl, .inl ⟨by omega, by omega⟩, ?_⟩
        refine ⟨_, rfl, p, _, _, _, rfl, rfl, SqL.of w1, at_of (j := 2) rfl rfl, _, _, rfl, rfl, .inl ⟨by omega, by omega⟩, _, rfl, _, _, rfl, rfl, _, rfl, p, _, _, _, rfl, rfl, SqL.of w1, at_of (j := 3) rfl rfl, _, _, rfl, rfl, .inl ⟨by omega, by omega⟩, _, _, rfl, rfl, _, _, rfl, rfl, (by show (0 : Int) < _; decide), _, rfl, p, _, 2, 2, rfl, rfl, w1, rfl, ?_⟩
        dsimp only [List.set]
        generalize hz : ((st * 48271 + y % 2147483629 * ((ct + 1) * (ct + 1) + 1) + 97 * (ct + 1)) % 2147483647 : Int) = z
        have hz0 : 0 ≤ z := by omega
        have hz1 : z < 2147483647 := by omega
        have w5 : upd (upd H p (.lst [.ref g, .ref s, .int st, .int (ct + 1)])) p (.lst [.ref g, .ref s, .int z, .int (ct + 1)]) p = some (.lst [.ref g, .ref s, .int z, .int (ct + 1)]) := upd_same
        refine ⟨_, rfl, p, _, _, _, rfl, rfl, SqL.of w5, at_of (j := 2) rfl rfl, _, _, rfl, rfl, ⟨by decide, by decide, by omega⟩, _, _, rfl, rfl, (by show (0 : Int) < _; decide), _, _, rfl, rfl, ⟨by decide, by decide⟩, _, rfl, _, _, rfl, rfl, hm0, ?_⟩
        refine q _ _ (Int.emod_nonneg _ (by omega)) (Int.emod_lt_of_pos _ hm0) ⟨gs, ss, z, ct + 1, w5, ?_, ?_, a4, a5, hz0, hz1, by omega, by omega, a10⟩ (fun b o hb n => ?_)
        · rw [upd_upd]
          exact w2 _
        · rw [upd_upd]
          exact w3 _
        · rw [upd_upd, upd_ne n.1]
          exact hb
      · refine ⟨_, rfl, _, _, rfl, rfl, (by show (0 : Int) < _; decide), _, rfl, p, _, _, _, rfl, rfl, SqL.of w1, at_of (j := 3) rfl rfl, _, rfl, p, _, _, _, rfl, rfl, SqL.of w1, at_of (j := 3) rfl rfl, _, _, rfl, rfl, .inl ⟨by omega, by omega⟩, _, _, rfl, rfl, _, _, rfl, rfl, .inl ⟨by omega, by omega⟩, ?_⟩
        refine ⟨_, rfl, p, _, _, _, rfl, rfl, SqL.of w1, at_of (j := 2) rfl rfl, _, _, rfl, rfl, .inl ⟨by omega, by omega⟩, _, rfl, _, _, rfl, rfl, _, rfl, p, _, _, _, rfl, rfl, SqL.of w1, at_of (j := 3) rfl rfl, _, _, rfl, rfl, .inl ⟨by omega, by omega⟩, _, _, rfl, rfl, _, _, rfl, rfl, (by show (0 : Int) < _; decide), _, rfl, p, _, 2, 2, rfl, rfl, w1, rfl, ?_⟩
        dsimp only [List.set]
        generalize hz : ((st * 48271 + 0 % 2147483629 * ((ct + 1) * (ct + 1) + 1) + 97 * (ct + 1)) % 2147483647 : Int) = z
        have hz0 : 0 ≤ z := by omega
        have hz1 : z < 2147483647 := by omega
        have w5 : upd (upd H p (.lst [.ref g, .ref s, .int st, .int (ct + 1)])) p (.lst [.ref g, .ref s, .int z, .int (ct + 1)]) p = some (.lst [.ref g, .ref s, .int z, .int (ct + 1)]) := upd_same
        refine ⟨_, rfl, p, _, _, _, rfl, rfl, SqL.of w5, at_of (j := 2) rfl rfl, _, _, rfl, rfl, ⟨by decide, by decide, by omega⟩, _, _, rfl, rfl, (by show (0 : Int) < _; decide), _, _, rfl, rfl, ⟨by decide, by decide⟩, _, rfl, _, _, rfl, rfl, hm0, ?_⟩
        refine q _ _ (Int.emod_nonneg _ (by omega)) (Int.emod_lt_of_pos _ hm0) ⟨gs, ss, z, ct + 1, w5, ?_, ?_, a4, a5, hz0, hz1, by omega, by omega, a10⟩ (fun b o hb n => ?_)
        · rw [upd_upd]
          exact w2 _
        · rw [upd_upd]
          exact w3 _
        · rw [upd_upd, upd_ne n.1]
          exact hb
end

def wordsL : List Str := ["yes", "no", "not", "and", "or", "step", "some", "all", "next", "once", "ever", "until", "unless"]
def lettersS : Str := "abcdefghijklmnopqrstuvwxyz"
structure Wd (K : PySem.W.Frag) (mg : Str → Option Value) where
  aW : Addr
  uL : Value
  gWORDS : mg "WORDS" = some (.ref aW)
  rWORDS : RelV (.ref aW) (.ref aW)
  sW : ∀ H, SqT K H aW (wordsL.map V.str)
  gLETTERS : mg "LETTERS" = some uL
  rLETTERS : RelV (.str lettersS) uL
/-- a text that is_name takes -/
structure GoodName (z : Str) : Prop where
  lo : 1 ≤ z.length
  hi : z.length ≤ 8
  nw : z ∉ wordsL
  al : ∀ c ∈ z.cps.toList, c ∈ lettersS.cps.toList
theorem flat_str (xs : List Str) : (xs.map V.str).all flatV = true := by
  rw [List.all_map, List.all_eq_true]
  exact fun _ _ => rfl
theorem flat_int (xs : List Int) : (xs.map V.int).all flatV = true := by
  rw [List.all_map, List.all_eq_true]
  exact fun _ _ => rfl
theorem inV_str (z : Str) (xs : List Str) : inV (.str z) (xs.map V.str) = decide (z ∈ xs) := by
  unfold inV
  rw [List.any_map]
  by_cases h : z ∈ xs
  · rw [decide_eq_true h, List.any_eq_true]
    exact ⟨z, h, by simp [Function.comp, eqV]⟩
  · rw [decide_eq_false h, List.any_eq_false]
    intro y hy q
    exact h (by simp [Function.comp, eqV] at q; rw [← q]; exact hy)
theorem inV_int (z : Int) (xs : List Int) : inV (.int z) (xs.map V.int) = decide (z ∈ xs) := by
  unfold inV
  rw [List.any_map]
  by_cases h : z ∈ xs
  · rw [decide_eq_true h, List.any_eq_true]
    exact ⟨z, h, by simp [Function.comp, eqV]⟩
  · rw [decide_eq_false h, List.any_eq_false]
    intro y hy q
    exact h (by simp [Function.comp, eqV] at q; rw [← q]; exact hy)

/-! ### rising rows -/
/-- a rising row of numbers below many -/
def RiseI (many : Int) (ns : List Int) : Prop := ns.Pairwise (· < ·) ∧ ∀ n ∈ ns, 0 ≤ n ∧ n < many
theorem rise_len {many : Int} {ns : List Int} (h : RiseI many ns) (hm : 0 ≤ many) : (ns.length : Int) ≤ many := by
  have key : ∀ (ns : List Int) (lo : Int), ns.Pairwise (· < ·) → (∀ n ∈ ns, lo ≤ n ∧ n < many) → lo ≤ many → (ns.length : Int) ≤ many - lo := by
    intro ns
    induction ns with
    | nil =>
      intro lo _ _ h
      show (0 : Int) ≤ _
      omega
    | cons x r ih =>
      intro lo hp hb hl
      obtain ⟨p1, p2⟩ := List.pairwise_cons.mp hp
      have b1 := hb x List.mem_cons_self
      have := ih (x + 1) p2 (fun n hn => ⟨by have := p1 n hn; omega, (hb n (List.mem_cons_of_mem _ hn)).2⟩) (by omega)
      rw [List.length_cons]
      omega
  have := key ns 0 h.1 h.2 hm
  omega
/-- a rising row of names -/
def RiseS (zs : List Str) : Prop := zs.Pairwise (fun x y => x.cps.toList < y.cps.toList) ∧ ∀ z ∈ zs, GoodName z

/-! ### fairtrees.machines, on what it takes -/
structure MachAt (K : PySem.W.Frag) (H : Hp) (m : Addr) (steps : List (List Int)) (marks : List (List Str)) : Prop where
  ex : ∃ (s k : Addr) (sa ka : List Addr), SqT K H m [.ref s, .ref k] ∧ SqT K H s (sa.map V.ref) ∧ SqT K H k (ka.map V.ref) ∧
    Each (fun a ns => SqT K H a (ns.map V.int)) sa steps ∧ Each (fun a zs => SqT K H a (zs.map V.str)) ka marks
structure GoodMach (steps : List (List Int)) (marks : List (List Str)) : Prop where
  len : steps.length = marks.length
  lo : 1 ≤ steps.length
  hi : steps.length ≤ 40
  st : ∀ r ∈ steps, RiseI steps.length r
  mr : ∀ r ∈ marks, RiseS r ∧ r.length ≤ 8
theorem MachAt.imm {K : PySem.W.Frag} {H H' : Hp} {m : Addr} {steps : List (List Int)} {marks : List (List Str)} (M : MachAt K H m steps marks) (e : Imm H H') : MachAt K H' m steps marks := by
  obtain ⟨s, k, sa, ka, h1, h2, h3, h4, h5⟩ := M.ex
  exact ⟨s, k, sa, ka, e.sq h1, e.sq h2, e.sq h3, h4.imp fun _ _ h => e.sq h, h5.imp fun _ _ h => e.sq h⟩
structure WishAt (K : PySem.W.Frag) (H : Hp) (t : Addr) (ws : List (Str × Str)) : Prop where
  ex : ∃ wa : List Addr, SqT K H t (wa.map V.ref) ∧ Each (fun a (x : Str × Str) => SqT K H a [.str x.1, .str x.2]) wa ws
theorem WishAt.imm {K : PySem.W.Frag} {H H' : Hp} {t : Addr} {ws : List (Str × Str)} (M : WishAt K H t ws) (e : Imm H H') : WishAt K H' t ws := by
  obtain ⟨wa, h1, h2⟩ := M.ex
  exact ⟨wa, e.sq h1, h2.imp fun _ _ h => e.sq h⟩
theorem ref_get {as : List Addr} {i : Nat} {v : V} (h : (as.map V.ref)[i]? = some v) : ∃ a, as[i]? = some a ∧ v = .ref a := map_get h
theorem dec_str (x y : Str) : decide (V.str x = V.str y) = decide (x = y) := by
  by_cases h : x = y
  · rw [decide_eq_true h, decide_eq_true (by rw [h])]
  · rw [decide_eq_false h, decide_eq_false fun q => h (V.str.inj q)]
theorem dec_int (x y : Int) : decide (V.int x = V.int y) = decide (x = y) := by
  by_cases h : x = y
  · rw [decide_eq_true h, decide_eq_true (by rw [h])]
  · rw [decide_eq_false h, decide_eq_false fun q => h (V.int.inj q)]
/-- the standings that bear a name -/
def bearersOf (marks : List (List Str)) (z : Str) (n : Nat) : List Int := ((List.range n).filter fun j => decide (z = Str.ofString "") || decide (z ∈ marks.getD j [])).map Int.ofNat
theorem bearersOf_yes {marks : List (List Str)} {z : Str} {n : Nat} (h : (decide (z = Str.ofString "") || decide (z ∈ marks.getD n [])) = true) : bearersOf marks z (n + 1) = bearersOf marks z n ++ [(n : Int)] := by
  unfold bearersOf
  rw [List.range_succ, List.filter_append, List.map_append, List.filter_cons, if_pos h] <;> rfl
theorem bearersOf_no {marks : List (List Str)} {z : Str} {n : Nat} (h : (decide (z = Str.ofString "") || decide (z ∈ marks.getD n [])) = false) : bearersOf marks z (n + 1) = bearersOf marks z n := by
  unfold bearersOf
  rw [List.range_succ, List.filter_append, List.map_append, List.filter_cons, if_neg (by rw [h]; decide)]
  show _ ++ [] = _
  rw [List.append_nil]

/-! ### _law_name, _law_names -/
theorem letters_eq : lettersS.cps.toList = List.range' 97 26 := by decide +kernel
theorem letters_at {j : Nat} (hj : j < 26) : lettersS.cps.toList[j]? = some (97 + j) := by
  rw [letters_eq, List.getElem?_range' hj]
  simp
theorem letters_len : lettersS.length ≤ 100000 := by
  show lettersS.cps.size ≤ 100000
  rw [← Array.length_toList, letters_eq]
  simp
theorem letters_mem {j : Nat} (hj : j < 26) : 97 + j ∈ lettersS.cps.toList := List.mem_of_getElem? (letters_at hj)
def Alpha (z : Str) : Prop := ∀ c ∈ z.cps.toList, c ∈ lettersS.cps.toList
theorem app_list (x y : Str) : (x ++ y).cps.toList = x.cps.toList ++ y.cps.toList := by
  show (x.cps ++ y.cps).toList = _
  rw [Array.toList_append]
theorem app_len (x y : Str) : (x ++ y).length = x.length + y.length := by
  show (x ++ y).cps.size = x.cps.size + y.cps.size
  rw [← Array.length_toList, ← Array.length_toList, ← Array.length_toList, app_list, List.length_append]
theorem alpha_app {x : Str} {j : Nat} (h : Alpha x) (hj : j < 26) : Alpha (x ++ ⟨#[97 + j]⟩) := fun c hc => by
  rw [app_list] at hc
  rcases List.mem_append.mp hc with hc | hc
  · exact h c hc
  · have e : c = 97 + j := by simpa using hc
    rw [e]
    exact letters_mem hj
theorem pigeon {α : Type} [BEq α] [LawfulBEq α] : ∀ (l m : List α), l.Nodup → (∀ x ∈ l, x ∈ m) → l.length ≤ m.length
  | [], _, _, _ => Nat.zero_le _
  | x :: r, m, nd, h => by
    obtain ⟨n1, n2⟩ := List.nodup_cons.mp nd
    have hx := h x List.mem_cons_self
    have := pigeon r (m.erase x) n2 fun y hy => (List.mem_erase_of_ne (fun q => n1 (by rw [← q]; exact hy))).mpr (h y (List.mem_cons_of_mem _ hy))
    rw [List.length_erase_of_mem hx] at this
    have : 0 < m.length := List.length_pos_of_mem hx
    rw [List.length_cons]
    omega
/-- what the loop tries at its k-th turn -/
def cand (nm : Str) (last k : Nat) : Str := nm ++ ⟨#[97 + (last + k) % 26]⟩
theorem cand_inj {nm : Str} {last j k : Nat} (hj : j < 26) (hk : k < 26) (h : cand nm last j = cand nm last k) : j = k := by
  have e : (cand nm last j).cps.toList = (cand nm last k).cps.toList := by rw [h]
  unfold cand at e
  rw [app_list, app_list] at e
  have e2 := List.append_cancel_left e
  simp at e2
  omega
theorem cand_some {nm : Str} {last : Nat} {words taken : List Str} (hw : words.length + taken.length < 26) (h : ∀ j, j < 26 → cand nm last j ∈ words ∨ cand nm last j ∈ taken) : False := by
  have nd : ((List.range 26).map (cand nm last)).Nodup := by
    refine List.pairwise_map.mpr ((List.pairwise_lt_range (n := 26)).imp_of_mem fun ha hb hab e => ?_)
    have := cand_inj (List.mem_range.mp ha) (List.mem_range.mp hb) e
    omega
  have := pigeon _ (words ++ taken) nd fun x hx => by
    obtain ⟨j, hj, rfl⟩ := List.mem_map.mp hx
    exact List.mem_append.mpr (h j (List.mem_range.mp hj))
  rw [List.length_map, List.length_range, List.length_append] at this
  omega
abbrev s_law_name : Stmt := topS 20
theorem sc_law_name : FnScope ["_law_pool_here", "_law_start", "_law_taken", "_law_letters", "_law_name_here", "_law_k", "_law_last", "_law_words", "_law_found"] ["_law_pool_here", "_law_start", "_law_taken"] (defScope s_law_name) := ⟨rfl, rfl, rfl, by decide +kernel, rfl, by decide +kernel, by decide +kernel⟩
abbrev s_law_names : Stmt := topS 21
theorem sc_law_names : FnScope ["_law_pool_here", "_law_many_here", "_law_letters", "_law_start", "_law_k", "_law_names_here"] ["_law_pool_here", "_law_many_here"] (defScope s_law_names) := ⟨rfl, rfl, rfl, by decide +kernel, rfl, by decide +kernel, by decide +kernel⟩
section
variable {P : Program} {w : World} {K : PySem.W.Frag} {mg : Str → Option Value} {base : Heap}
def spLName : Sp := fun vs H Q _ => ∃ (a : PA) (c : Nat) (start : Str) (t : Addr) (taken : List Str), vs = [.ref a.p, .str start, .ref t] ∧ Pool H a c ∧ c < 900000 ∧ H t = some (.lst (taken.map V.str)) ∧ Off a t ∧ Alpha start ∧ start.length ≤ 4 ∧ taken.length ≤ 12 ∧
  ∀ H' z, GoodName z → z ∉ taken → Pool H' a (c + 5) → Kp a H H' → Q (.str z) H'
theorem ok_lname {f : Addr} {fd : FuncData} (F : Fun K "_law_name" "_law_name" s_law_name f fd) (T : Bi mg) (c_law_draw : Cal P w K mg base 1 "_law_draw" ["_law_pool_here", "_law_many_here"] spDraw) : FnOk P w K mg base CX0 2 f fd ["_law_pool_here", "_law_start", "_law_taken"] spLName := by
  refine F.ok sc_law_name (fun vs H Q E h => ?_) (fun cdv A outer s H vs Q E hr h => ?_)
  · obtain ⟨a, c, start, t, taken, rfl, _⟩ := h
    rfl
  · obtain ⟨a, c, start, t, taken, rfl, PP, hc, ht, ot, al, sl, tl, q⟩ := h
    refine ⟨_, (pss_cons (ps_set (i := 3) sc_law_name.nd rfl (.inl rfl) pe_str)
      (pss_cons (ps_set (i := 4) sc_law_name.nd rfl (.inl rfl) (pv 1))
      (pss_cons (ps_for PassesOwn.never rfl (pi_range1 (by rfl) T.range (pa_cons (pe_call c_law_draw.G hr (by rfl) c_law_draw.g c_law_draw.kp c_law_draw.b .nil pass0 (pa_cons (pv 0) (pa_cons pe_int pa_nil))) pa_nil)) (pg_name (i := 5) sc_law_name.nd rfl (.inl rfl))
        (pss_one (ps_set (i := 4) sc_law_name.nd rfl (.inl rfl) (pe_op op_add_str (pv 4) (pe_ix ix_str (pv 3) (pe_call c_law_draw.G hr (by rfl) c_law_draw.g c_law_draw.kp c_law_draw.b .nil pass0 (pa_cons (pv 0) (pa_cons pe_int pa_nil))) (fun _ _ => rfl))))))
      (pss_cons (ps_set (i := 6) sc_law_name.nd rfl (.inl rfl) (pe_call c_law_draw.G hr (by rfl) c_law_draw.g c_law_draw.kp c_law_draw.b .nil pass0 (pa_cons (pv 0) (pa_cons pe_int pa_nil))))
      (pss_cons (ps_set (i := 7) sc_law_name.nd rfl (.inl rfl) (pe_lst (pa_cons pe_str (pa_cons pe_str (pa_cons pe_str (pa_cons pe_str (pa_cons pe_str (pa_cons pe_str (pa_cons pe_str (pa_cons pe_str (pa_cons pe_str (pa_cons pe_str (pa_cons pe_str (pa_cons pe_str (pa_cons pe_str pa_nil)))))))))))))))
      (pss_cons (ps_for PassesOwn.never rfl (pi_range1 (by rfl) T.range (pa_cons pe_int pa_nil)) (pg_name (i := 5) sc_law_name.nd rfl (.inl rfl))
        (pss_cons (ps_set (i := 8) sc_law_name.nd rfl (.inl rfl) (pe_op op_add_str (pv 4) (pe_ix ix_str (pv 3) (pe_op op_mod (pe_op op_add (pv 6) (pv 5)) pe_int) (fun _ _ => rfl))))
        (pss_one (ps_if (PW.pt (pw_and (pt_cmpR op_notIn_seq (pv 8) (pv 7) (by rfl)) (pw_and1 (pt_cmpR op_notIn_seq (pv 8) (pv 2) (by rfl)))))
          (pss_one (ps_ret (pv 8)))
          pss_nil))))
      (pss_one (ps_ret (pe_op op_add_str (pv 4) pe_str))))))))), ?_⟩
    -- for k in range(draw(pool, 4))
    refine ⟨_, rfl, _, rfl, a, c, 4, rfl, PP, by omega, by decide, by decide, fun H1 r r0 r1 P1 k1 => ⟨r, rfl, by omega, by omega, for_range (lo := 0) (n := r.toNat) (fun i σ H' => ∃ nm y,
      σ = [some (.ref a.p), some (.str start), some (.ref t), some (.str lettersS), some (.str nm), y, none, none, none] ∧ Alpha nm ∧ nm.length = start.length + i ∧ Pool H' a (c + 1 + i) ∧ Kp a H H')
      ⟨start, none, rfl, al, rfl, P1, k1⟩ ?_ ?_⟩⟩
    · rintro i σ H2 hi ⟨nm, y, rfl, an, ln, P2, k2⟩
      refine ⟨_, rfl, _, rfl, _, rfl, a, _, 26, rfl, P2, by omega, by decide, by decide, fun H3 r' r0' r1' P3 k3 => ?_⟩
      obtain ⟨j, rfl⟩ : ∃ j : Nat, r' = (j : Int) := ⟨r'.toNat, by omega⟩
      have hj : j < 26 := by omega
      refine ⟨lettersS, _, 97 + j, rfl, rfl, szOk letters_len, atI_nat (letters_at hj), nm, _, rfl, rfl, ?_, ?_⟩
      · show nm.length + 1 ≤ sizeLine
        exact szOk (by omega)
      · refine ⟨nm ++ ⟨#[97 + j]⟩, _, rfl, alpha_app an hj, ?_, ?_, k2.trans k3⟩
        · rw [app_len, ln]
          rfl
        · exact P3
    · rintro σ H2 ⟨nm, y, rfl, an, ln, P2, k2⟩
      -- last = draw(pool, 26); words
      refine ⟨_, rfl, a, _, 26, rfl, P2, by omega, by decide, by decide, fun H3 r' r0' r1' P3 k3 => ?_⟩
      obtain ⟨last, rfl⟩ : ∃ j : Nat, r' = (j : Int) := ⟨r'.toNat, by omega⟩
      refine ⟨by show 13 ≤ sizeLine; decide, fun l hl => ?_⟩
      have hl2 : upd H3 l (.lst (wordsL.map V.str)) l = some (.lst (wordsL.map V.str)) := upd_same
      have ht3 : H3 t = some (.lst (taken.map V.str)) := (k2.trans k3) _ _ ht ot
      have ht4 : ∀ o, upd H3 l o t = some (.lst (taken.map V.str)) := fun o => by
        rw [upd_ne (ne_of_none ht3 hl)]
        exact ht3
      refine ⟨26, rfl, by decide, by decide, for_range (lo := 0) (n := 26) (fun i σ H' => ∃ y z,
        σ = [some (.ref a.p), some (.str start), some (.ref t), some (.str lettersS), some (.str nm), y, some (.int last), some (.ref l), z] ∧ H' = upd H3 l (.lst (wordsL.map V.str)) ∧ ∀ j, j < i → cand nm last j ∈ wordsL ∨ cand nm last j ∈ taken)
        ⟨_, _, rfl, rfl, fun j hj => absurd hj (Nat.not_lt_zero _)⟩ ?_ ?_⟩
      · rintro i σ H' hi ⟨y', z, rfl, rfl, all⟩
        have hm : (last + i) % 26 < 26 := Nat.mod_lt _ (by decide)
        have em : ((last : Int) + (0 + (i : Int))) % 26 = (((last + i) % 26 : Nat) : Int) := by omega
        refine ⟨_, rfl, _, rfl, _, rfl, _, rfl, _, _, rfl, rfl, _, _, rfl, rfl, (by show (0 : Int) < _; decide), lettersS, _, 97 + (last + i) % 26, rfl, rfl, szOk letters_len, (by
          show atI _ (((last : Int) + (0 + (i : Int))) % 26) = _
          rw [em]
          exact atI_nat (letters_at hm)), nm, _, rfl, rfl, ?_, ?_⟩
        · show nm.length + 1 ≤ sizeLine
          exact szOk (by omega)
        · refine ⟨_, rfl, _, rfl, l, _, rfl, .inl (SqL.of hl2), rfl, flat_str _, _, rfl, ?_⟩
          rw [inV_str]
          refine ite2 (fun e => ?_) (fun e => ?_)
          · refine ⟨_, rfl, _, rfl, t, _, rfl, .inl (SqL.of (ht4 _)), rfl, flat_str _, _, rfl, ?_⟩
            rw [inV_str]
            refine ite2 (fun e2 => ?_) (fun e2 => ?_)
            · have n1 : cand nm last i ∉ wordsL := notdec e
              have n2 : cand nm last i ∉ taken := notdec e2
              have lc : (cand nm last i).length = nm.length + 1 := by
                unfold cand
                rw [app_len]
                rfl
              refine ⟨_, rfl, q _ (cand nm last i) ⟨by omega, by omega, n1, alpha_app an hm⟩ n2 ((P3.upd (P3.off hl)).mono (by omega)) ((k2.trans k3).mut ((k2.trans k3).free hl (P3.off hl)))⟩
            · refine ⟨_, _, rfl, rfl, fun j hj => ?_⟩
              by_cases h : j < i
              · exact all j h
              · have e3 : j = i := by omega
                rw [e3]
                exact .inr (dec_of e2)
          · refine iteF ⟨_, _, rfl, rfl, fun j hj => ?_⟩
            by_cases h : j < i
            · exact all j h
            · have e3 : j = i := by omega
              rw [e3]
              exact .inl (dec_of e)
      · rintro σ H' ⟨y', z, rfl, rfl, all⟩
        exact (cand_some (words := wordsL) (by show 13 + taken.length < 26; omega) all).elim
def spLNames : Sp := fun vs H Q _ => ∃ (a : PA) (c : Nat) (n : Nat), vs = [.ref a.p, .int n] ∧ Pool H a c ∧ c < 800000 ∧ n ≤ 12 ∧
  ∀ (H' : Hp) (l : Addr) (zs : List Str), Pool H' a (c + 5 + n * 5) → Kp a H H' → H' l = some (.lst (zs.map V.str)) → Off a l → zs.Nodup → (∀ z ∈ zs, GoodName z) → zs.length = n → Q (.ref l) H'
theorem ok_lnames {f : Addr} {fd : FuncData} (F : Fun K "_law_names" "_law_names" s_law_names f fd) (T : Bi mg) (c_law_draw : Cal P w K mg base 1 "_law_draw" ["_law_pool_here", "_law_many_here"] spDraw) (c_law_name : Cal P w K mg base 2 "_law_name" ["_law_pool_here", "_law_start", "_law_taken"] spLName) :
    FnOk P w K mg base CX0 3 f fd ["_law_pool_here", "_law_many_here"] spLNames := by
  refine F.ok sc_law_names (fun vs H Q E h => ?_) (fun cdv A outer s H vs Q E hr h => ?_)
  · obtain ⟨a, c, n, rfl, _⟩ := h
    rfl
  · obtain ⟨a, c, n, rfl, PP, hc, hn, q⟩ := h
    refine ⟨_, (pss_cons (ps_set (i := 2) sc_law_names.nd rfl (.inl rfl) pe_str)
      (pss_cons (ps_set (i := 3) sc_law_names.nd rfl (.inl rfl) pe_str)
      (pss_cons (ps_for PassesOwn.never rfl (pi_range1 (by rfl) T.range (pa_cons (pe_ix ix_list (pe_lst (pa_cons pe_int (pa_cons pe_int (pa_cons pe_int (pa_cons pe_int pa_nil))))) (pe_call c_law_draw.G (hr.mono (by decide)) (by rfl) c_law_draw.g c_law_draw.kp c_law_draw.b .nil pass0 (pa_cons (pv 0) (pa_cons pe_int pa_nil))) (fun _ _ => rfl)) pa_nil)) (pg_name (i := 4) sc_law_names.nd rfl (.inl rfl))
        (pss_one (ps_set (i := 3) sc_law_names.nd rfl (.inl rfl) (pe_op op_add_str (pv 3) (pe_ix ix_str (pv 2) (pe_call c_law_draw.G (hr.mono (by decide)) (by rfl) c_law_draw.g c_law_draw.kp c_law_draw.b .nil pass0 (pa_cons (pv 0) (pa_cons pe_int pa_nil))) (fun _ _ => rfl))))))
      (pss_cons (ps_set (i := 5) sc_law_names.nd rfl (.inl rfl) (pe_lst pa_nil))
      (pss_cons (ps_for PassesOwn.never rfl (pi_range1 (by rfl) T.range (pa_cons (pv 1) pa_nil)) (pg_name (i := 4) sc_law_names.nd rfl (.inl rfl))
        (pss_one (ps_expr (pe_bm PySem.F.plainAttrs_list PySem.F.slot_list_append PySem.F.type_list_append mt_append (pv 5) (pa_cons (pe_call c_law_name.G hr (by rfl) c_law_name.g c_law_name.kp c_law_name.b .nil pass0 (pa_cons (pv 0) (pa_cons (pv 3) (pa_cons (pv 5) pa_nil)))) pa_nil)))))
      (pss_one (ps_ret (pv 5)))))))), ?_⟩
    refine ⟨by show 4 ≤ sizeLine; decide, fun d hd => ⟨_, rfl, a, c, 4, rfl, PP.upd (PP.off hd), by omega, by decide, by decide, fun H1 r r0 r1 P1 k1 => ?_⟩⟩
    have k1' : Kp a H H1 := (skp (same_upd hd)).trans k1
    have hd1 : H1 d = some (.lst [.int 0, .int 0, .int 1, .int 4]) := k1 _ _ upd_same (PP.off hd)
    obtain ⟨v, v0, v1, hv⟩ : ∃ v : Int, 0 ≤ v ∧ v ≤ 4 ∧ atI [V.int 0, .int 0, .int 1, .int 4] r = some (.int v) := by
      have : r = 0 ∨ r = 1 ∨ r = 2 ∨ r = 3 := by omega
      rcases this with rfl | rfl | rfl | rfl
      · exact ⟨0, by decide, by decide, rfl⟩
      · exact ⟨0, by decide, by decide, rfl⟩
      · exact ⟨1, by decide, by decide, rfl⟩
      · exact ⟨4, by decide, by decide, rfl⟩
    refine ⟨d, _, r, .int v, rfl, rfl, SqL.of hd1, hv, v, rfl, by omega, by omega, for_range (lo := 0) (n := v.toNat) (fun i σ H' => ∃ nm y,
      σ = [some (.ref a.p), some (.int n), some (.str lettersS), some (.str nm), y, none] ∧ Alpha nm ∧ nm.length = i ∧ Pool H' a (c + 1 + i) ∧ Kp a H H')
      ⟨Str.ofString "", none, rfl, (fun c hc => absurd hc (by rw [show (Str.ofString "").cps.toList = [] by decide +kernel]; exact List.not_mem_nil)), (by decide +kernel), P1, k1'⟩ ?_ ?_⟩
    · rintro i σ H2 hi ⟨nm, y, rfl, an, ln, P2, k2⟩
      refine ⟨_, rfl, _, rfl, _, rfl, a, _, 26, rfl, P2, by omega, by decide, by decide, fun H3 r' r0' r1' P3 k3 => ?_⟩
      obtain ⟨j, rfl⟩ : ∃ j : Nat, r' = (j : Int) := ⟨r'.toNat, by omega⟩
      have hj : j < 26 := by omega
      refine ⟨lettersS, _, 97 + j, rfl, rfl, szOk letters_len, atI_nat (letters_at hj), nm, _, rfl, rfl, ?_, ?_⟩
      · show nm.length + 1 ≤ sizeLine
        exact szOk (by omega)
      · refine ⟨nm ++ ⟨#[97 + j]⟩, _, rfl, alpha_app an hj, ?_, P3, k2.trans k3⟩
        rw [app_len, ln]
        rfl
    · rintro σ H2 ⟨nm, y, rfl, an, ln, P2, k2⟩
      refine ⟨Nat.zero_le _, fun l hl => ?_⟩
      have ol := P2.off hl
      have hl0 := k2.free hl ol
      refine ⟨_, rfl, n, rfl, by omega, by omega, for_range (lo := 0) (n := (n : Int).toNat) (fun i σ H' => ∃ (zs : List Str) (y : Option V),
        σ = [some (.ref a.p), some (.int n), some (.str lettersS), some (.str nm), y, some (.ref l)] ∧ zs.length = i ∧ zs.Nodup ∧ (∀ z ∈ zs, GoodName z) ∧ H' l = some (.lst (zs.map V.str)) ∧ Pool H' a (c + 5 + i * 5) ∧ Kp a H H')
        ⟨[], _, rfl, rfl, List.nodup_nil, (fun z hz => absurd hz List.not_mem_nil), upd_same, ((P2.mono (by omega)).upd ol), k2.mut hl0⟩ ?_ ?_⟩
      · rintro i σ H3 hi ⟨zs, y', rfl, lz, nz, gz, hz, P3, k3⟩
        refine ⟨_, rfl, .inl ⟨rfl, _, SqL.of hz⟩, _, rfl, _, rfl, _, rfl, a, _, nm, l, zs, rfl, P3, by omega, hz, ol, an, by omega, by omega, fun H4 z g4 n4 P4 k4 => ?_⟩
        have hz4 := k4 _ _ hz ol
        refine ⟨l, _, _, rfl, rfl, hz4, szLt (by rw [List.length_map]; omega), zs ++ [z], _, rfl, ?_, ?_, ?_, ?_, ?_, ?_⟩
        · rw [List.length_append, lz]
          rfl
        · rw [List.nodup_append]
          refine ⟨nz, by simp, fun x hx y hy e => ?_⟩
          have : y = z := by simpa using hy
          rw [this] at e
          exact n4 (by rw [← e]; exact hx)
        · intro x hx
          rcases List.mem_append.mp hx with hx | hx
          · exact gz x hx
          · have : x = z := by simpa using hx
            rw [this]
            exact g4
        · rw [upd_same, List.map_append]
          rfl
        · rw [show c + 5 + (i + 1) * 5 = c + 5 + i * 5 + 5 by omega]
          exact P4.upd ol
        · exact (k3.trans k4).mut hl0
      · rintro σ H3 ⟨zs, y', rfl, lz, nz, gz, hz, P3, k3⟩
        rw [Int.toNat_natCast] at lz P3
        exact ⟨_, rfl, q _ l zs P3 k3 hz ol nz gz lz⟩
end

/-! ### t[::-1], t a tuple -/
namespace BkT
open PySem PySem.Spec PyProof.Rows L2
section
variable {prog : Program} {w : World} {A : Around} {E : Value → Shared → Prop} {s : Shared}
theorem fm {α β : Type} {f g : α → Option β} : ∀ {l : List α}, (∀ x ∈ l, f x = g x) → l.filterMap f = l.filterMap g
  | [], _ => rfl
  | x :: r, h => by
    rw [List.filterMap_cons, List.filterMap_cons, h x List.mem_cons_self, fm fun y hy => h y (List.mem_cons_of_mem _ hy)]
theorem adj (n : Nat) : Builtin.Slice.sliceAdjust none none (-1) (n : Int) = ((n : Int) - 1, -1) := by
  unfold Builtin.Slice.sliceAdjust
  simp
theorem plc (n : Nat) : Builtin.Slice.slicePlaces ((n : Int) - 1) (-1) (-1) = n := by
  unfold Builtin.Slice.slicePlaces
  simp
  omega
theorem picked (xs : Array Value) : (List.range xs.size).filterMap (fun (k : Nat) => xs[(((xs.size : Int) - 1) + (k : Int) * (-1)).toNat]?) = xs.toList.reverse := by
  have h : (List.range xs.size).filterMap (fun (k : Nat) => xs[(((xs.size : Int) - 1) + (k : Int) * (-1)).toNat]?) = (List.range xs.size).filterMap ((fun j => xs[j]?) ∘ fun k => xs.size - 1 - k) := by
    refine fm fun k hk => ?_
    have := List.mem_range.mp hk
    show xs[(((xs.size : Int) - 1) + (k : Int) * (-1)).toNat]? = xs[xs.size - 1 - k]?
    congr 1
    omega
  rw [h, ← List.filterMap_map, show ((List.range xs.size).map fun k => xs.size - 1 - k) = (List.range xs.size).reverse from by
    refine List.ext_getElem (by simp) fun i h1 h2 => ?_
    simp, List.filterMap_reverse]
  congr 1
  have := pick_run xs 0 xs.size
  rw [List.filterMap_map, List.drop_zero, List.take_of_length_le (by simp)] at this
  rw [← this]
  refine fm fun k _ => ?_
  show xs[k]? = xs[0 + k]?
  rw [Nat.zero_add]
theorem got {t sl : Addr} {items : Array Value} {vk : Value} {Q : Value → Shared → Prop} (ht : IsTup s.heap t items) (hs : s.heap.IsSliceOf sl .none .none vk) (pk : IsPart vk (some (-1)))
    (h : Q (.ref s.heap.objs.size) { s with heap := s.heap.push { cls := .type "tuple", data := .seq items.toList.reverse.toArray } }) (hz : items.size ≤ sizeLine) : wpAny (model prog w) A (getItem (.ref t) (.ref sl)) Q E s := by
  obtain ⟨os, hos, hcs, hds⟩ := id hs
  have hTs : s.TypeIs (.ref sl) "slice" := ⟨os, hos, hcs⟩
  cases pk with
  | int i tk =>
  unfold getItem
  try with_reducible refine wpAny_holding ?_
  first | refine wpAny_bind (wpAny_pure ?_) | skip
  refine wpAny_bind (wpAny_sequenceKey ht.typeIs (by decide) ?_)
  refine wpAny_bind (wpAny_callSpecial?_slot (name := Str.ofString "__getitem__") ht.typeIs PyProof.Rows.slot_tuple_getitem
    (wpAny_call_entry PyProof.Rows.slot_tuple_getitem ht.typeIs entry_tuple_getitem ?_ (args_tuple_getitem _ _)))
  change wpAny _ _ (Builtin.Tuple.tupleItemsOf (.ref t) >>= _) _ _ s
  refine wpAny_bind (tupleItemsOf_ ht (wpAny_bind (wpAny_typeOf hTs ?_)))
  rw [if_pos (by decide)]
  refine wpAny_bind ?_
  unfold Builtin.Slice.sliceApplied Builtin.Slice.sliceFields
  refine wpAny_bind (wpAny_bind (wpAny_field hos hds (x := .none) rfl (wpAny_bind (wpAny_field hos hds (x := .none) rfl (wpAny_bind (wpAny_field hos hds (x := .int (-1) tk) rfl (wpAny_pure ?_)))))))
  refine wpAny_bind (slicePart_int ?_)
  change wpAny _ _ (if ((-1 : Int) == 0) = true then _ else _) _ _ s
  rw [if_neg (by decide)]
  refine wpAny_bind (slicePart_none (wpAny_bind (slicePart_none (wpAny_bind (wpAny_pure ?_)))))
  change wpAny _ _ (match Builtin.Slice.sliceAdjust none none (-1) (items.size : Int) with | (lo, hi) => pure (lo, (-1 : Int), Builtin.Slice.slicePlaces lo hi (-1))) _ _ s
  rw [adj]
  change wpAny _ _ (pure (((items.size : Int) - 1), (-1 : Int), Builtin.Slice.slicePlaces ((items.size : Int) - 1) (-1) (-1))) _ _ s
  rw [plc]
  refine wpAny_pure ?_
  change wpAny _ _ (if (((items.size : Int) - 1) == 0 && (-1 : Int) == 1 && items.size == items.size) = true then _ else _) _ _ s
  rw [if_neg (by simp)]
  rw [picked]
  refine wpAny_bind ?_
  exact wpAny_newObj_type (wpAny_pure ⟨_, rfl, wpAny_pure h⟩) (by change items.toList.reverse.toArray.size ≤ sizeLine; simp; exact hz)
end
section
variable {X : Cx} {e : Expr} {te : TE} {tk : TO} {pos p2 p4 p5 : Pos} {j : Nat}
def tBack (K : PySem.W.Frag) (te : TE) (tk : TO) : TE := fun σ H Q => te σ H fun x H1 => tk σ H1 fun o H2 => o = some (-1) ∧ ∃ a xs, x = .ref a ∧ SqT K H2 a xs ∧ ∀ p, H2 p = none → Q (.ref p) (L2.upd H2 p (.tup xs.reverse))
theorem pe_back (he : PE X e te) (hk : PO X (some (.UnaryOp .USub (.Constant (.int 1) j p4) p5)) tk) : PE X (.Subscript e (.Slice none none (some (.UnaryOp .USub (.Constant (.int 1) j p4) p5)) p2) pos) (tBack X.K te tk) := by
  refine ⟨fun pins s σ H Q I h => ?_⟩
  refine Subscript_ (L2.thn (he.run pins s σ H _ I h) fun v s1 y => ?_)
  obtain ⟨x, H1, I1, r1, q1⟩ := y
  refine wpAny_Slice ?_
  rw [evalPart_none]
  refine wpAny_pure (wpAny_pure (L2.thn (hk.run pins s1 σ H1 _ I1 q1) fun vk s2 z => ?_))
  obtain ⟨o, H2, I2, pk, rfl, a, xs, rfl, hx, q⟩ := z
  cases r1
  have I3 : Inv X pins σ H2 { s2 with heap := s2.heap.push { cls := .type "slice", data := .fields #[.none, .none, vk] } } := I2.kept (t' := s2.toks) fun b ob q => Heap.get?_push_of_some _ q
  obtain ⟨its, r, ht, hz⟩ := I3.tuple hx
  have hl : its.toArray.size = xs.length := by rw [List.size_toArray]; exact r.length.symm
  change wpAny (model X.prog X.w) X.A (subscriptTail e (.Slice none none (some (.UnaryOp .USub (.Constant (.int 1) j p4) p5)) p2) (.ref a) (.ref s2.heap.objs.size)) (EP X pins σ Q) X.xe { s2 with heap := s2.heap.push { cls := .type "slice", data := .fields #[.none, .none, vk] } }
  refine tail_any (ops := [.ref a, .ref s2.heap.objs.size]) ht.typeIs PyProof.Rows.slot_tuple_getitem.lookup (got ht (Heap.IsSliceOf.new ..) pk ?_ (by rw [hl]; exact hz)) (by with_unfolding_all rfl)
  refine ⟨.ref _, _, I3.laid (o := .tup xs.reverse) (t' := s2.toks) (fun b ob q => Heap.get?_push_of_some _ q) (Nat.le_refl _) ?_, rfl, q _ (I3.hok.fresh (Nat.le_refl _))⟩
  refine ⟨by rw [List.length_reverse]; exact hz, its.reverse, ?_, IsTup.new _ _⟩
  exact r.reverse
end
end BkT

/-! ### tuple * k; tuple(d); a, b, *c = t -/
namespace R22
open PySem PySem.Spec PyProof.Rows L2
def rRepA (K : PySem.W.Frag) : R2 := fun x y H Q => ∃ l k xs, x = .ref l ∧ y = .int k ∧ SqT K H l xs ∧ xs ≠ [] ∧ 1 ≤ k ∧ k ≤ 1000 ∧ xs.length ≤ 1000 ∧ ((k = 1 ∧ Q (.ref l) H) ∨ (1 < k ∧ ∀ p, H p = none → Q (.ref p) (L2.upd H p (.tup (List.replicate k.toNat xs).flatten))))
theorem mul1 (l : Addr) (o : Obj) (items : Array Value) (n : Nat) (hc : o.cls = .type "tuple") (hd : o.data = .seq items n) (u : Tok) :
    Meets (Builtin.«tuple.__mul__» ⟨[.ref l, .int 1 u], []⟩) (fun _ R s => s.heap.get? l = some o ∧ R (.ok (.ret (.ref l))) s) :=
  .of_wp fun prog w A R s hyp => by
    obtain ⟨hp, gg, dd, tt, oo⟩ := s
    obtain ⟨at1, hyp⟩ := hyp
    have ix := AutoSeq1.idx_int
    obtain ⟨cls, di, da, sl⟩ := o
    simp only at hc hd
    subst hc hd
    wp_walk using AutoSeq1.wpAny_loadPart' at1
    exact ⟨_, rfl, hyp⟩
section
variable {X : Cx}
theorem op_repA : OpR X (binaryOp .Mult) (rRepA X.K) := by
  intro pins s σ H x y v u Q I rx ry hyp
  obtain ⟨l, k, xs, e1, e2, hT, hne, b1, b2, hz, hyp⟩ := hyp
  rcases hyp with ⟨k1, q⟩ | ⟨k1, q⟩
  · subst e1 e2 k1
    cases rx
    obtain ⟨t, rfl⟩ := ry
    obtain ⟨its, rv, ⟨ob, at1, hc, n, hd⟩, _⟩ := I.tuple hT
    have at2 := at1
    have ty : s.TypeIs (.ref l) "tuple" := ⟨ob, at1, hc⟩
    obtain ⟨cls, di, da, sl⟩ := ob
    simp only at hc hd
    subst hc hd
    exact wpAny_binaryOp_repeat_ref (T := "tuple") (U := "int") (by decide) ty (fun s' => typeIs_int s' 1 t) noFill_tuple_mul F.fills_int_mul F.slot_int_rmul repeat_tuple F.slot_int_index.lookup
      (call_meets F.slot_int_rmul (typeIs_int s 1 t) F.entry_int_rmul (F.args_int_rmul_2 _ _) (int_rmul_tuple 1 t l its.toArray n di sl)
        ⟨at1, rfl, ty, call_meets F.slot_tuple_mul ty F.entry_tuple_mul (F.args_tuple_mul_2 _ _) (mul1 l _ _ _ rfl rfl t) ⟨at2, .ref l, H, I, rfl, q⟩⟩)
  · exact op_repT pins s σ H x y v u Q I rx ry ⟨l, k, xs, e1, e2, hT, hne, by omega, b2, hz, q⟩
end
/-! tuple(d) -/
section
variable {prog : Program} {w : World} {A : Around} {E : Value → Shared → Prop} {s : Shared} {T : String} {r d : Addr} {n : Nat} {P : Nat → Value → Prop} {OK : Heap → Prop}
theorem collected {Q : List Value → Shared → Prop} (src : PySem.W.KdlSrc prog w T r d n P OK) (hh : A.handled = none) (ok : OK s.heap) (small : n ≤ sizeLine)
    (k : ∀ (g : Heap) (tk : Nat) (acc : Array Value), (∀ b o, s.heap.get? b = some o → g.get? b = some o) → ItemsOf P acc n → Q acc.toList { s with heap := g, toks := tk }) :
    wpAny (model prog w) A (collect (.ref r)) Q E s := by
  obtain ⟨l1, l2⟩ := src.there _ ok
  unfold collect
  refine wpAny_bind (wpAny_runValue (codeAny_builtin F.entry_proto_collect ?_)); rw [Around.under_plainId F.plain_proto_collect _]
  change wpAny _ A.in1 (newList [] >>= fun x => again (.builtin "list.__iadd__" ⟨[x, .ref r], []⟩)) _ _ s
  refine wpAny_bind (wpAny_newObj_type (wpAny_pure ⟨plainId_quiet F.plain_list_iadd _, codeAny_builtin F.entry_list_iadd ?_⟩))
  rw [Around.under_plainId F.plain_list_iadd _]
  change wpAny _ A.in1 (Builtin.List.listExtendWith (.ref s.heap.objs.size) (.ref r) (.ref s.heap.objs.size)) _ _ _
  have old : ∀ b o, s.heap.get? b = some o → (s.heap.push { cls := .type "list", data := .seq ([] : List Value).toArray }).get? b = some o := fun b o q => Heap.get?_push_of_some _ q
  have fin : ∀ (g : Heap) (tk : Nat) (acc : Array Value) (c : Nat), (∀ b o, s.heap.get? b = some o → g.get? b = some o) → ItemsOf P acc n → g.get? s.heap.objs.size = some { cls := .type "list", dict := none, data := .seq acc c, slots := #[] } →
      wpAny (model prog w) A (do match (← load s.heap.objs.size).data with | Data.seq xs _ => pure xs.toList | _ => unsupported "internal:collect") Q E { s with heap := g, toks := tk } := fun g tk acc c kp ac at1 => wpAny_bind (wpAny_load at1 (wpAny_pure (k g tk acc kp ac)))
  refine wpAny_mono (PySem.W.kdl_extend (A := A) (R := fun f s2 => ∃ g tk acc c, f = .ok (.ret (.ref s.heap.objs.size)) ∧ s2 = { s with heap := g, toks := tk } ∧ (∀ b o, s.heap.get? b = some o → g.get? b = some o) ∧ ItemsOf P acc n ∧ g.get? s.heap.objs.size = some { cls := .type "list", dict := none, data := .seq acc c, slots := #[] })
    (s := { s with heap := s.heap.push { cls := .type "list", data := .seq ([] : List Value).toArray } }) src hh (src.keep _ _ ok fun b _ o q => old b o q) s.heap.objs.size (Nat.ne_of_gt l1) (Nat.ne_of_gt l2) _ 0 (Heap.get?_push_size _ rfl)
    (fun g tk acc c kp at1 ac => ⟨g, tk, acc, c, rfl, rfl, fun b o q => kp b o (Nat.ne_of_lt (Heap.lt_size q)) (old b o q), ac, at1⟩) small) (fun f s2 x => ?_) (fun e s2 x => ?_)
  · cases f with
    | done f =>
      obtain ⟨g, tk, acc, c, e1, rfl, kp, ac, at1⟩ := x
      cases e1
      exact fin g tk acc c kp ac at1
    | again c' =>
      refine ⟨x.1, codeAny_mono x.2 fun f' s3 y => ?_⟩
      obtain ⟨g, tk, acc, c, rfl, rfl, kp, ac, at1⟩ := y
      exact fin g tk acc c kp ac at1
  · obtain ⟨g, tk, acc, c, e1, _⟩ := x
    cases e1
theorem newed {Q : Value → Shared → Prop} (src : PySem.W.KdlSrc prog w T r d n P OK) (hh : A.handled = none) (ok : OK s.heap) (small : n ≤ sizeLine)
    (k : ∀ (g : Heap) (tk : Nat) (acc : Array Value), (∀ b o, s.heap.get? b = some o → g.get? b = some o) → ItemsOf P acc n → Q (.ref g.objs.size) { s with heap := g.push { cls := .type "tuple", data := .seq acc }, toks := tk }) :
    codeAny (model prog w) A (.call (.builtin "tuple.__new__") ⟨[.type "tuple", .ref r], []⟩) (wants Q E) s := by
  refine codeAny_of_tree ?_
  change wpAny _ A.in1 (do checkBuiltinCall "tuple.__new__" ⟨[.type "tuple", .ref r], []⟩; again (.builtin "tuple.__new__" ⟨[.type "tuple", .ref r], []⟩)) _ _ s
  refine wpAny_bind (wpAny_of_eq (F.newCall_tuple_1 _) (wpAny_pure ⟨plainId_quiet F.plain_tuple_new _, codeAny_builtin F.entry_tuple_new ?_⟩)); rw [Around.under_plainId F.plain_tuple_new _]
  have u1 := sub_tuple_self
  have u2 := init_tuple_lookup
  have u3 := madeHere_tuple
  have u4 : s.TypeIs (.ref r) T := src.type _ ok
  have u5 : A.in1.handled = none := hh
  have u6 := src.notTuple
  wp_walk using wpAny_typeOf u4, collected (A := A.in1) src u5 ok small
  intro g tk acc kp ac
  change wpAny _ _ (Builtin.Tuple.tupleExact acc.toList.toArray >>= fun x => ret x) _ _ _
  unfold Builtin.Tuple.tupleExact
  have ea : acc.toList.toArray = acc := by simp
  rw [ea]
  exact wpAny_bind (wpAny_newObj_type (wpAny_pure (k g tk acc kp ac)) (by change acc.size ≤ sizeLine; rw [ac.1]; exact small))
theorem told {Q : Value → Shared → Prop} (src : PySem.W.KdlSrc prog w T r d n P OK) (hh : A.handled = none) (ok : OK s.heap) (small : n ≤ sizeLine)
    (k : ∀ (g : Heap) (tk : Nat) (acc : Array Value), (∀ b o, s.heap.get? b = some o → g.get? b = some o) → ItemsOf P acc n → Q (.ref g.objs.size) { s with heap := g.push { cls := .type "tuple", data := .seq acc }, toks := tk }) :
    wpAny (model prog w) A (call (.type "tuple") [.ref r]) Q E s :=
  callType_codes (Q₁ := fun x s1 => s1.TypeIs x "tuple" ∧ Q x s1) F.called_tuple (F.typeCall_tuple_1 _) F.entry_object_init (newed (A := A.in1) src hh ok small fun g tk acc kp ac => ⟨⟨_, Heap.get?_push_size _ rfl, rfl⟩, k g tk acc kp ac⟩)
    fun x s1 y => ⟨y.1, F.args_object_init_2 x _, object_init_meets F.called_tuple.init.lookup F.called_tuple.made (by decide) prog w A.in1 _ s1 ⟨y.1, rfl, y.2⟩⟩
end
section
variable {X : Cx}
def rTupD : List V → Hp → VK → Prop := fun xs H Q => ∃ a kvs, xs = [.ref a] ∧ H a = some (.dK kvs) ∧ ∀ b, H b = none → Q (.ref b) (L2.upd H b (.tup (kvs.map fun z => kV z.1)))
theorem call_tuple_dict (hc : X.calm = true) : CallR X (.type "tuple") rTupD := by
  intro pins s σ H xs us Q I r hyp
  obtain ⟨a, kvs, e, hk, q⟩ := hyp
  subst e
  obtain ⟨u, eu, rx⟩ := vals1 r
  subst eu
  obtain rfl : u = Value.ref a := rx
  obtain ⟨small, lo, vs, rk, hd⟩ := (show ObjOk X.prog X.w H s.heap a (.dK kvs) from I.hok a _ hk)
  obtain ⟨ep, hat⟩ := hd.dictAt
  have ln : kvs.length = vs.length := Paired.length rk
  refine told (PySem.W.kdl_dict (knd := mixKind X.prog X.w) (kvs := vs) (ep := ep) lo) (I.ok.hd hc) hat (by rw [← ln]; exact small) fun g tk acc kp ac => ?_
  have I1 : Inv X pins σ H { s with heap := g, toks := tk } := I.kept kp
  refine ⟨.ref g.objs.size, L2.upd H g.objs.size (.tup (kvs.map fun z => kV z.1)), I1.laid (t' := tk) (fun b o q => Heap.get?_push_of_some _ q) (Nat.le_refl _) (show ObjOk X.prog X.w _ _ _ (.tup (kvs.map fun z => kV z.1)) from ⟨?_, acc.toList, ?_, ?_⟩), rfl, q _ (I1.hok.fresh (Nat.le_refl _))⟩
  · rw [List.length_map]
    exact small
  · have el : acc.toList.length = acc.size := by simp
    refine vals_of_at (by rw [List.length_map, el, ac.1, ln]) fun j x v h1 h2 => ?_
    obtain ⟨k, y, hky, hi⟩ := ac.2 j v (by rw [← Array.getElem?_toList]; exact h2)
    have e1 : (kvs.map fun z => kV z.1)[j]? = some (kV k) := by
      have := congrArg (fun l => (l[j]?).map kV) (KV.keys rk)
      simpa [List.getElem?_map, Option.map_map, Function.comp_def, hky] using this
    rw [e1] at h1
    cases h1
    exact keyIs_rel hi
  · rw [Array.toArray_toList]
    exact IsTup.new _ _
end
/-! a, .., *c = a tuple -/
theorem walk_from {prog : Program} {w : World} {A : Around} (hh : A.handled = none) (I ax : Addr) (hne : ax ≠ I) (items : Array Value) (k : Nat) (hk : k ≤ items.size) :
    Walks prog w A I [I, ax] [I] (items.size - k) (fun i v => items[k + i]? = some v) (fun i h => h.IsTupleIter I ax (k + i) ∧ h.IsTuple ax items) :=
  let W := Walks.tuple (prog := prog) (w := w) hh I ax hne items
  ⟨W.sub, fun i => W.frame (k + i), fun i s Q E hi st hQ => W.item (k + i) s Q E (by omega) st hQ,
    fun s Q E st hQ => W.done s Q E (by rw [show k + (items.size - k) = items.size by omega] at st; exact st) hQ, fun i => W.self (k + i)⟩
section
variable {prog : Program} {w : World} {A : Around} {E : Value → Shared → Prop} {s : Shared}
theorem items_star {t : Addr} {items : Array Value} {k : Nat} {Q : List Value → Shared → Prop} (hh : A.handled = none) (ht : IsTup s.heap t items) (hk : k ≤ items.size) (hz : items.size ≤ sizeLine)
    (hQ : ∀ (h' : Heap) (tk : Nat), (∀ b o, s.heap.get? b = some o → h'.get? b = some o) →
      Q (items.toList.take k ++ [.ref h'.objs.size]) { s with heap := h'.push { cls := .type "list", data := .seq (items.toList.drop k).toArray }, toks := tk }) :
    wpAny (model prog w) A (unpackItems (.ref t) (k + 1) (some k)) Q E s := by
  have hlt : t ≠ s.heap.objs.size := Nat.ne_of_lt ht.lt
  unfold unpackItems
  refine wpAny_bind ?_
  unfold notIterableAtAll
  refine wpAny_bind (wpAny_specialOf ht.typeIs slot_tuple_iter.lookup (wpAny_pure ?_))
  simp only [Bool.false_eq_true, if_false]
  refine wpAny_bind (wpAny_holding (iter_tuple ht ?_))
  refine wpAny_bind (wpAny_holding (draw_tuple hlt k 0 _ _ ⟨_, Heap.get?_push_size _ rfl, rfl, rfl⟩ (ht.push _) (by omega) fun g hit hs => ?_))
  rw [List.drop_zero, if_neg (by simp; omega)]
  have ht1 : IsTup g t items := (ht.push _).extBut hs.extBut hlt
  have l1 : s.heap.objs.size < g.objs.size := by obtain ⟨o, e, _⟩ := hit; exact Heap.lt_size e
  have l2 : t < g.objs.size := ht1.lt
  have hit1 : g.IsTupleIter s.heap.objs.size t (k + 0) := by rw [Nat.add_zero]; rw [Nat.zero_add] at hit; exact hit
  refine wpAny_bind (wpAny_holding (wpAny_collect_iter (T := "tuple_iterator") (.inr (.inr (.inr rfl))) (walk_from (A := A.in1) hh s.heap.objs.size t hlt items k hk).toS
    (fun _ _ st => let ⟨o, ho, hc, _⟩ := st.1; ⟨o, ho, hc⟩) ⟨hit1, ht1⟩ (fun b hb => ?_) (by simp) (fun s' acc hm ha => ?_) (by omega)))
  · simp only [List.mem_cons, List.not_mem_nil, or_false] at hb
    rcases hb with rfl | rfl
    · exact l1
    · exact l2
  · have ea : acc.toList = items.toList.drop k := by
      refine List.ext_getElem? fun j => ?_
      rw [List.getElem?_drop]
      by_cases hj : j < acc.size
      · have := ha.2 j acc[j] (by simp [hj])
        rw [Array.getElem?_toList, Array.getElem?_toList, this]
        simp [hj]
      · have h1 := ha.1
        rw [List.getElem?_eq_none (by simp; omega), List.getElem?_eq_none (by simp; omega)]
    rw [ea]
    have e0 : k + 1 - 1 - k = 0 := by omega
    simp only [e0, Nat.not_lt_zero, if_false, Nat.sub_zero]
    rw [List.take_of_length_le (Nat.le_refl _), List.drop_of_length_le (Nat.le_refl _)]
    refine wpAny_bind (wpAny_newObj_type (wpAny_pure ?_) (by change (items.toList.drop k).toArray.size ≤ sizeLine; simp; omega))
    obtain ⟨g1, gg, dd, tt, oo⟩ := s'
    obtain ⟨m1, m2, m3, m4, m5⟩ := hm
    simp only at m1 m2 m3 m4 m5 ⊢
    subst m2 m3 m4
    rw [List.append_nil]
    exact hQ g1 tt fun b o e => m1 b o (by simp; exact Nat.ne_of_lt (Heap.lt_size e)) (hs.extBut b o (Nat.ne_of_lt (Heap.lt_size e)) (Heap.get?_push_of_some _ e))
end
section
variable {X : Cx} {pos : Pos}
/-- (a, .., *c) = a tuple, k plain targets ahead of the last -/
def gStar (K : PySem.W.Frag) (k : Nat) (t : TGs) : TG := fun v σ H Q => ∃ a xs, v = .ref a ∧ SqT K H a xs ∧ k ≤ xs.length ∧ ∀ p, H p = none → t (xs.take k ++ [.ref p]) σ (L2.upd H p (.lst (xs.drop k))) Q
theorem pgs_star {e : Expr} {p : Pos} {t : TG} (h1 : PG X e t) (hs : (assignEach [.Starred e p] X.env).map (·.2) = [assign e X.env] := by rfl) : PGs X [.Starred e p] (gCons t gNil) := by
  refine ⟨fun pins s σ H vs us Q I r h => ?_⟩
  obtain ⟨v, vr, e1, h⟩ := h
  subst e1
  cases r with
  | cons r rr =>
    rw [hs]
    refine assignInOrder_cons (L2.thn (h1.run pins s σ H _ _ _ I r h) fun _ s1 y => ?_)
    obtain ⟨σ1, H1, I1, n1, q1⟩ := y
    subst n1
    cases rr
    exact assignInOrder_nil ⟨σ1, H1, I1, q1⟩
theorem pg_star {es : List Expr} {j k : Nat} {t : TGs} (hc : X.calm = true) (h : PGs X es t)
    (hn : (assignEach es X.env).length = k + 1 := by rfl) (hst : (assignEach es X.env).findIdx? (·.1) = some k := by rfl) : PG X (.Tuple es j pos) (gStar X.K k t) := by
  refine ⟨fun pins s σ H v u Q I r hw => ?_⟩
  obtain ⟨a, xs, e1, hq, hl, hw⟩ := hw
  subst e1
  cases r
  obtain ⟨its, rv, ht, hz⟩ := I.tuple hq
  rw [assign_Tuple]
  refine wpAny_bind (wpAny_standAt ?_)
  unfold unpack
  rw [hn, hst]
  refine wpAny_bind (wpAny_holding (items_star (I.ok.hd hc) ht (by have := rv.length; simp at *; omega) (by have := rv.length; simp at *; omega) fun h' tk kp => ?_))
  have I1 : Inv X pins σ H { s with heap := h', toks := tk } := I.kept kp
  have I2 := I1.laid (t' := tk) (h' := h'.push { cls := .type "list", data := .seq (its.drop k).toArray }) (fun b o q => Heap.get?_push_of_some _ q) (Nat.le_refl _) (show ObjOk X.prog X.w (L2.upd H h'.objs.size (.lst (xs.drop k))) _ h'.objs.size (.lst (xs.drop k)) from ⟨by rw [List.length_drop]; have := rv.length; simp at *; omega, its.drop k, _, rv.drop k, Heap.get?_push_size _ rfl⟩)
  refine h.run pins _ σ _ _ _ Q I2 ?_ (hw _ (I1.hok.fresh (Nat.le_refl _)))
  exact (rv.take k).append (.cons rfl .nil)
end
end R22

/-! ### cut, joined, repeated tuples -/
/-! what a cut, a joined, a repeated tuple tells, new or not -/
section
variable {K : PySem.W.Frag} {H : Hp}
theorem catQ {a b : Addr} {xs ys : List V} {Q : V → Hp → Prop} (ha : SqT K H a xs) (hb : SqT K H b ys) (q : ∀ c H', Same H H' → SqT K H' c (xs ++ ys) → Q (.ref c) H') :
    (xs = [] → Q (.ref b) H) ∧ (xs ≠ [] → ys = [] → Q (.ref a) H) ∧ (xs ≠ [] → ys ≠ [] → ∀ p, H p = none → Q (.ref p) (L2.upd H p (.tup (xs ++ ys)))) :=
  ⟨fun e => q b H (Same.refl _) (by rw [e]; exact hb), fun _ e => q a H (Same.refl _) (by rw [e, List.append_nil]; exact ha), fun _ _ p hp => q p _ (same_upd hp) (SqT.of upd_same)⟩
theorem slQ {a : Addr} {xs : List V} {lo hi : Option Int} {Q : V → Hp → Prop} (ha : SqT K H a xs) (q : ∀ c H', Same H H' → SqT K H' c (cutV xs lo hi) → Q (.ref c) H') :
    (HT.sIx xs.length 0 lo = 0 ∧ HT.sIx xs.length xs.length hi = xs.length → Q (.ref a) H) ∧ (¬ (HT.sIx xs.length 0 lo = 0 ∧ HT.sIx xs.length xs.length hi = xs.length) → ∀ p, H p = none → Q (.ref p) (L2.upd H p (.tup (cutV xs lo hi)))) :=
  ⟨fun e => q a H (Same.refl _) (by unfold cutV; rw [e.1, e.2, Nat.sub_zero, List.drop_zero, List.take_of_length_le (Nat.le_refl _)]; exact ha), fun _ p hp => q p _ (same_upd hp) (SqT.of upd_same)⟩
theorem repQ {a : Addr} {k : Int} {xs : List V} {Q : V → Hp → Prop} (ha : SqT K H a xs) (h1 : 1 ≤ k) (q : ∀ c H', Same H H' → SqT K H' c (List.replicate k.toNat xs).flatten → Q (.ref c) H') :
    (k = 1 ∧ Q (.ref a) H) ∨ (1 < k ∧ ∀ p, H p = none → Q (.ref p) (L2.upd H p (.tup (List.replicate k.toNat xs).flatten))) := by
  by_cases e : k = 1
  · subst e
    exact .inl ⟨rfl, q a H (Same.refl _) (by simpa using ha)⟩
  · exact .inr ⟨by omega, fun p hp => q p _ (same_upd hp) (SqT.of upd_same)⟩
variable {X : Cx}
def rCatQ (K : PySem.W.Frag) : R2 := fun x y H Q => ∃ a b xs ys, x = .ref a ∧ y = .ref b ∧ SqT K H a xs ∧ SqT K H b ys ∧ xs.length + ys.length ≤ sizeLine ∧ ∀ c H', Same H H' → SqT K H' c (xs ++ ys) → Q (.ref c) H'
theorem op_catQ : OpR X (binaryOp .Add) (rCatQ X.K) := fun pins s σ H x y v u Q I rx ry ⟨a, b, xs, ys, h1, h2, h3, h4, h5, q⟩ => op_catA pins s σ H x y v u Q I rx ry ⟨a, b, xs, ys, h1, h2, h3, h4, h5, catQ h3 h4 q⟩
def rSlQ (K : PySem.W.Frag) : V → Option Int → Option Int → Hp → VK → Prop := fun x lo hi H Q => ∃ a xs, x = .ref a ∧ SqT K H a xs ∧ ∀ c H', Same H H' → SqT K H' c (cutV xs lo hi) → Q (.ref c) H'
theorem sl_tupQ : SlR X (rSlQ X.K) := fun pins s σ H x v vl vu lo hi sl Q I rx hs pl pu ⟨a, xs, h1, h2, q⟩ => sl_tupA pins s σ H x v vl vu lo hi sl Q I rx hs pl pu ⟨a, xs, h1, h2, slQ h2 q⟩
def rRepQ (K : PySem.W.Frag) : R2 := fun x y H Q => ∃ l k xs, x = .ref l ∧ y = .int k ∧ SqT K H l xs ∧ xs ≠ [] ∧ 1 ≤ k ∧ k ≤ 1000 ∧ xs.length ≤ 1000 ∧ ∀ c H', Same H H' → SqT K H' c (List.replicate k.toNat xs).flatten → Q (.ref c) H'
theorem op_repQ : OpR X (binaryOp .Mult) (rRepQ X.K) := fun pins s σ H x y v u Q I rx ry ⟨a, k, xs, h1, h2, h3, h4, h5, h6, h7, q⟩ => R22.op_repA pins s σ H x y v u Q I rx ry ⟨a, k, xs, h1, h2, h3, h4, h5, h6, h7, repQ h3 h5 q⟩
end

/-! ### things of any kind -/
inductive Th where
  | non
  | bl (b : Bool)
  | int (i : Int)
  | str (x : Str)
  | tup (ts : List Th)
  | lst
  | dic
mutual
/-- the value v is such a thing; no tuple of it is longer than N -/
inductive TAt (N : Nat) (K : PySem.W.Frag) (H : Hp) : V → Th → Prop where
  | non : TAt N K H .non .non
  | bl (b : Bool) : TAt N K H (.bl b) (.bl b)
  | int (i : Int) : TAt N K H (.int i) (.int i)
  | str (x : Str) (h : x.length ≤ 100) (c : ∀ c ∈ x.cps.toList, c < 1114112) : TAt N K H (.str x) (.str x)
  | tup {a : Addr} {xs : List V} {ts : List Th} (h : SqT K H a xs) (l : xs.length ≤ N) (t : TAll N K H xs ts) : TAt N K H (.ref a) (.tup ts)
  | lst {a : Addr} {xs : List V} (h : H a = some (.lst xs)) : TAt N K H (.ref a) .lst
  | dic {a : Addr} {kvs : List (Key × V)} (h : H a = some (.dK kvs)) : TAt N K H (.ref a) .dic
inductive TAll (N : Nat) (K : PySem.W.Frag) (H : Hp) : List V → List Th → Prop where
  | nil : TAll N K H [] []
  | cons {v : V} {vs : List V} {t : Th} {ts : List Th} (h : TAt N K H v t) (r : TAll N K H vs ts) : TAll N K H (v :: vs) (t :: ts)
end
section
variable {K : PySem.W.Frag} {H H' : Hp} {N N' : Nat}
theorem TAll.len : ∀ {vs : List V} {ts : List Th}, TAll N K H vs ts → vs.length = ts.length
  | _, _, .nil => rfl
  | _, _, .cons _ r => by rw [List.length_cons, List.length_cons, r.len]
theorem TAll.get : ∀ {vs : List V} {ts : List Th} {i : Nat} {v : V}, TAll N K H vs ts → vs[i]? = some v → ∃ t, ts[i]? = some t ∧ TAt N K H v t
  | _, _, _, _, .nil, h => by simp at h
  | _, _, 0, _, .cons (t := t) x _, h => by
    have e := Option.some.inj h
    subst e
    exact ⟨t, rfl, x⟩
  | _, _, i + 1, _, .cons _ r, h => by
    obtain ⟨t, h1, h2⟩ := r.get (i := i) (by simpa using h)
    exact ⟨t, by simpa using h1, h2⟩
theorem TAll.mem {vs : List V} {ts : List Th} (a : TAll N K H vs ts) {v : V} (h : v ∈ vs) : ∃ t, TAt N K H v t := by
  obtain ⟨i, hi⟩ := List.mem_iff_getElem?.mp h
  obtain ⟨t, _, x⟩ := a.get hi
  exact ⟨t, x⟩
theorem TAll.of : ∀ {vs : List V}, (∀ v ∈ vs, ∃ t, TAt N K H v t) → ∃ ts, TAll N K H vs ts
  | [], _ => ⟨[], .nil⟩
  | v :: vs, h => by
    obtain ⟨t, x⟩ := h v List.mem_cons_self
    obtain ⟨ts, r⟩ := TAll.of (vs := vs) fun y hy => h y (List.mem_cons_of_mem _ hy)
    exact ⟨t :: ts, .cons x r⟩
/-- a tuple of things is a thing -/
theorem TAt.mk {a : Addr} {xs : List V} (h : SqT K H a xs) (l : xs.length ≤ N) (all : ∀ v ∈ xs, ∃ t, TAt N K H v t) : ∃ t, TAt N K H (.ref a) t := by
  obtain ⟨ts, r⟩ := TAll.of all
  exact ⟨.tup ts, .tup h l r⟩
mutual
theorem TAt.keep (hN : N ≤ N') (e1 : ∀ a xs, SqT K H a xs → SqT K H' a xs) (e2 : ∀ a xs, H a = some (.lst xs) → ∃ ys, H' a = some (.lst ys)) (e3 : ∀ a kvs, H a = some (.dK kvs) → H' a = some (.dK kvs)) : ∀ {v : V} {t : Th}, TAt N K H v t → TAt N' K H' v t
  | _, _, .non => .non
  | _, _, .bl b => .bl b
  | _, _, .int i => .int i
  | _, _, .str x h c => .str x h c
  | _, _, .tup h l t => .tup (e1 _ _ h) (Nat.le_trans l hN) (TAll.keep hN e1 e2 e3 t)
  | _, _, .lst h => .lst (e2 _ _ h).choose_spec
  | _, _, .dic h => .dic (e3 _ _ h)
theorem TAll.keep (hN : N ≤ N') (e1 : ∀ a xs, SqT K H a xs → SqT K H' a xs) (e2 : ∀ a xs, H a = some (.lst xs) → ∃ ys, H' a = some (.lst ys)) (e3 : ∀ a kvs, H a = some (.dK kvs) → H' a = some (.dK kvs)) : ∀ {vs : List V} {ts : List Th}, TAll N K H vs ts → TAll N' K H' vs ts
  | _, _, .nil => .nil
  | _, _, .cons x r => .cons (TAt.keep hN e1 e2 e3 x) (TAll.keep hN e1 e2 e3 r)
end
theorem TAt.more (hN : N ≤ N') {v : V} {t : Th} (x : TAt N K H v t) : TAt N' K H v t := x.keep hN (fun _ _ h => h) (fun _ xs h => ⟨xs, h⟩) (fun _ _ h => h)
theorem TAt.same (s : Same H H') {v : V} {t : Th} (x : TAt N K H v t) : TAt N K H' v t := x.keep (Nat.le_refl _) (fun _ _ h => ssqt s h) (fun _ xs h => ⟨xs, s _ _ h⟩) (fun _ _ h => s _ _ h)
/-- draws leave a thing as it is -/
theorem TAt.kp {A : PA} {c c' : Nat} (P : Pool H A c) (P' : Pool H' A c') (k : Kp A H H') {v : V} {t : Th} (x : TAt N K H v t) : TAt N K H' v t := by
  refine x.keep (Nat.le_refl _) (fun _ _ h => (P.imm k).sq h) (fun a xs h => ?_) (fun a kvs h => k _ _ h (P.offo h fun _ q => by cases q))
  obtain ⟨gs, ss, st, ct, p1, p2, p3, _⟩ := P'.ex
  by_cases h1 : a = A.p
  · exact ⟨_, by rw [h1]; exact p1⟩
  · by_cases h2 : a = A.g
    · exact ⟨_, by rw [h2]; exact p2⟩
    · by_cases h3 : a = A.s
      · exact ⟨_, by rw [h3]; exact p3⟩
      · exact ⟨xs, k _ _ h ⟨h1, h2, h3⟩⟩
end
/-! isinstance, len of a thing -/
def tyn : Th → String
  | .non => "NoneType"
  | .bl _ => "bool"
  | .int _ => "int"
  | .str _ => "str"
  | .tup _ => "tuple"
  | .lst => "list"
  | .dic => "dict"
def isTh (nm : String) (t : Th) : Bool := tyn t == nm || (nm == "int" && tyn t == "bool")
def tyL : List String := ["tuple", "int", "bool", "str"]
theorem kit_th {K : PySem.W.Frag} {t : Th} {nm : String} (h : nm ∈ tyL) : PySem.W.kitOne K (.type (tyn t)) (.type nm) = some (isTh nm t) := by
  have key : ∀ a ∈ ["NoneType", "bool", "int", "str", "tuple", "list", "dict"], ∀ b ∈ tyL, kitB a b = some (a == b || (b == "int" && a == "bool")) := by decide +kernel
  have ht : tyn t ∈ ["NoneType", "bool", "int", "str", "tuple", "list", "dict"] := by cases t <;> simp [tyn]
  exact kit_ty (key _ ht _ h)
theorem ty_th {K : PySem.W.Frag} {H : Hp} {N : Nat} {v : V} {t : Th} (x : TAt N K H v t) : TyX K H v (.type (tyn t)) := by
  cases x with
  | non => exact .base .non
  | bl b => exact .base (.bl b)
  | int i => exact .base (.int i)
  | str x _ _ => exact .base (.str x)
  | tup h _ _ => exact ty_sqt h
  | lst h => exact .base (.lst h)
  | dic h => exact .base (.dK h)
section
variable {X : Cx}
def rIsT (K : PySem.W.Frag) : List V → Hp → VK → Prop := fun xs H Q => ∃ (v : V) (t : Th) (N : Nat) (nm : String), xs = [v, .ty nm] ∧ TAt N K H v t ∧ nm ∈ tyL ∧ Q (.bl (isTh nm t)) H
theorem call_isT : CallR X (.builtin "isinstance") (rIsT X.K) := fun pins s σ H xs us Q I r ⟨v, t, _, nm, e, x, h, q⟩ =>
  call_isi pins s σ H xs us Q I r ⟨v, .ty nm, .type (tyn t), .type nm, isTh nm t, e, .ty nm, ty_th x, kit_th h, q⟩
theorem isTK (K : PySem.W.Frag) (h : X.K = K := by rfl) : CallR X (.builtin "isinstance") (rIsT K) := by subst h; exact call_isT
def rLenX (K : PySem.W.Frag) : List V → Hp → VK → Prop := fun xs H Q => (∃ z, xs = [.str z] ∧ z.length ≤ sizeLine ∧ Q (.int z.length) H) ∨ (∃ p ys, xs = [.ref p] ∧ (SqL K H p ys ∨ SqT K H p ys) ∧ Q (.int ys.length) H)
theorem call_lenX : CallR X (.builtin "len") (rLenX X.K) := fun pins s σ H xs us Q I r h => h.elim (fun h => call_len_str pins s σ H xs us Q I r h) (fun h => call_len_seq pins s σ H xs us Q I r h)
theorem lenXK (K : PySem.W.Frag) (h : X.K = K := by rfl) : CallR X (.builtin "len") (rLenX K) := by subst h; exact call_lenX
end
/-! what a thing is, by the law -/
def rowB : Th → Int → Int → Bool
  | .tup ts, lo, hi => decide (lo ≤ ts.length) && decide ((ts.length : Int) ≤ hi)
  | _, _, _ => false
def nameB : Th → Bool
  | .str x => decide (1 ≤ x.length) && decide (x.length ≤ 8) && decide (x ∉ wordsL) && x.cps.toList.all fun c => decide (c ∈ lettersS.cps.toList)
  | _ => false

/-! ### own errors -/
structure XCls (K : PySem.W.Frag) (mg : Str → Option Value) (nm : Str) (C : Addr) : Prop where
  g : mg nm = some (.ref C)
  k : PySem.W.keepIn K (.ref C) = true
  b : PySem.W.subIn K (.ref C) (.type "BaseException") = some true
  t : PySem.W.typeIn K (.ref C) = some (.type "type")
  h : PySem.W.hasDictIn K C = true
theorem XCls.r {K : PySem.W.Frag} {mg : Str → Option Value} {nm : Str} {C : Addr} (_ : XCls K mg nm C) : RelV (.ref C) (.ref C) := rfl
/-- the error that is raised -/
structure XRai (K : PySem.W.Frag) (C : Addr) : Prop where
  x : PySem.W.excIn K C [.type "ValueError", .type "Exception", .type "BaseException", .type "object"] "ValueError.__new__" = true
  E : ExcC K C
  s : PySem.W.subIn K (.ref C) (.ref C) = some true
  v : PySem.W.subIn K (.ref C) (.type "ValueError") = some true
theorem XCls.exm {K : PySem.W.Frag} {mg : Str → Option Value} {nm : Str} {C D : Addr} {b : Bool} (c : XCls K mg nm C) (h : PySem.W.subIn K (.ref D) (.ref C) = some b) : PySem.W.exmOne K (.ref D) (.ref C) = some b :=
  PySem.W.exm_ref c.b c.h c.t h
theorem XCls.kit {K : PySem.W.Frag} {mg : Str → Option Value} {nm : Str} {C D : Addr} {b : Bool} (c : XCls K mg nm C) (r : XRai K D) (h : PySem.W.subIn K (.ref D) (.ref C) = some b) : PySem.W.kitOne K (.ref D) (.ref C) = some b := by
  have e := c.exm h
  unfold PySem.W.exmOne at e
  rw [if_pos (by rw [c.b] <;> rfl)] at e
  unfold PySem.W.kitOne
  by_cases q : (Value.ref D == Value.ref C) = true
  · rw [if_pos q]
    have q' : D = C := Value.ref.inj (eq_of_beq q)
    rw [q'] at h r
    rw [r.s] at h
    exact h
  · rw [if_neg q]
    exact e
theorem XRai.kit {K : PySem.W.Frag} {D : Addr} (r : XRai K D) : PySem.W.kitOne K (.ref D) (.type "ValueError") = some true := by
  unfold PySem.W.kitOne PySem.W.kitCls
  rw [if_neg (by intro q; exact absurd (eq_of_beq q) (by intro z; cases z))]
  change (if PySem.W.kitMeta "ValueError" = true then _ else _) = _
  rw [if_pos (by decide +kernel)]
  exact r.v
theorem zc_of {cls : Value} {d : Option Addr} {D : Addr} {oe : Obj} (hz : Zc cls d oe) (hp : cls = .ref D ∧ d = none) : Zc (.ref D) none oe := by
  obtain ⟨rfl, rfl⟩ := hp
  exact hz
theorem pss_when {X : Cx} {sts : List Stmt} {p : Prop} {t : TS} (h : p → PSs X sts t) : PSs X sts (fun D σ H => p ∧ t D σ H) := ⟨fun pins s σ H D I q => (h q.1).run pins s σ H D I q.2⟩
/-- a def that may raise, as callers see it -/
structure CalX (P : Program) (w : World) (K : PySem.W.Frag) (mg : Str → Option Value) (base : Heap) (k : Nat) (x : Str) (ps : List Str) (sp : Sp) where
  f : Addr
  fd : FuncData
  G : FnOk P w K mg base (L2.CX P w) k f fd ps sp
  g : mg x = some (.ref f)
  kp : PySem.W.keepIn K (.ref f) = true
  b : Binds K fd ps []
/-- the raised error, the base of all, two others -/
structure XSet (K : PySem.W.Frag) (mg : Str → Option Value) (nR nA nB : Str) where
  R : Addr
  T : Addr
  A : Addr
  B : Addr
  xR : XCls K mg nR R
  xT : XCls K mg "TreeError" T
  xA : XCls K mg nA A
  xB : XCls K mg nB B
  r : XRai K R
  sT : PySem.W.subIn K (.ref R) (.ref T) = some true
  sA : PySem.W.subIn K (.ref R) (.ref A) = some false
  sB : PySem.W.subIn K (.ref R) (.ref B) = some false

/-! ### odd things, bent things -/
abbrev s_law_odd : Stmt := topS 23
theorem sc_law_odd : FnScope ["_law_pool_here", "_law_some"] ["_law_pool_here"] (defScope s_law_odd) := ⟨rfl, rfl, rfl, by decide +kernel, rfl, by decide +kernel, by decide +kernel⟩
abbrev s_law_bent : Stmt := topS 24
theorem sc_law_bent : FnScope ["_law_pool_here", "_law_thing", "_law_deep", "_law_at", "_law_way", "_law_turn"] ["_law_pool_here", "_law_thing", "_law_deep"] (defScope s_law_bent) := ⟨rfl, rfl, rfl, by decide +kernel, rfl, by decide +kernel, by decide +kernel⟩
section
variable {P : Program} {w : World} {K : PySem.W.Frag} {mg : Str → Option Value} {base : Heap}
def spOdd (K : PySem.W.Frag) : Sp := fun vs H Q _ => ∃ (A : PA) (c : Nat), vs = [.ref A.p] ∧ Pool H A c ∧ c < 900000 ∧ ∀ (H' : Hp) (v : V) (t : Th), Pool H' A (c + 1) → Kp A H H' → TAt 2 K H' v t → Q v H'
theorem ok_odd {f : Addr} {fd : FuncData} (F : Fun K "_law_odd" "_law_odd" s_law_odd f fd) (c_law_draw : Cal P w K mg base 1 "_law_draw" ["_law_pool_here", "_law_many_here"] spDraw) : FnOk P w K mg base CX0 2 f fd ["_law_pool_here"] (spOdd K) := by
  refine F.ok sc_law_odd (fun vs H Q E h => ?_) (fun cdv A outer s H vs Q E hr h => ?_)
  · obtain ⟨A, c, rfl, _⟩ := h
    rfl
  · obtain ⟨PL, c, rfl, P0, hc, q⟩ := h
    refine ⟨_, (pss_cons (ps_set (i := 1) sc_law_odd.nd rfl (.inl rfl) (pe_lst (pa_cons pe_non (pa_cons pe_bl (pa_cons pe_bl (pa_cons pe_str (pa_cons pe_str (pa_cons (pe_un un_neg pe_int) (pa_cons pe_int (pa_cons (pe_op op_add (pe_op op_pow pe_int pe_int) pe_int) (pa_cons (pe_tup pa_nil) (pa_cons (pe_lst pa_nil) (pa_cons (pe_tup (pa_cons pe_int pa_nil)) (pa_cons (pe_lst (pa_cons pe_int pa_nil)) (pa_cons pe_dnewK (pa_cons pe_str (pa_cons pe_str (pa_cons pe_str pa_nil))))))))))))))))))
      (pss_cons (ps_set (i := 1) sc_law_odd.nd rfl (.inl rfl) (pe_op op_cat (pv 1) (pe_lst (pa_cons (pe_tup (pa_cons pe_str pa_nil)) (pa_cons pe_int (pa_cons pe_int (pa_cons pe_str (pa_cons (pe_tup (pa_cons pe_int (pa_cons pe_int pa_nil))) (pa_cons (pe_disp (pps_cons pe_str pe_int pps_nil) (by rfl) (by rfl) (fun z => by cases z) (by decide)) (pa_cons pe_str pa_nil))))))))))
      (pss_one (ps_ret (pe_ix ix_list (pv 1) (pe_call c_law_draw.G hr (by rfl) c_law_draw.g c_law_draw.kp c_law_draw.b .nil pass0 (pa_cons (pv 0) (pa_cons pe_int pa_nil))) (fun _ _ => rfl)))))), ?_⟩
    refine ⟨_, rfl, _, _, rfl, rfl, ⟨by decide, by decide, by decide⟩, _, _, rfl, rfl, by show 0 ≤ sizeLine; decide, fun e1 g1 => ⟨by show 0 ≤ sizeLine; decide, fun e2 g2 => ⟨by show 1 ≤ sizeLine; decide, fun e3 g3 => ⟨by show 1 ≤ sizeLine; decide, fun e4 g4 => fun e5 g5 => ⟨by show 16 ≤ sizeLine; decide, fun L hL => ?_⟩⟩⟩⟩⟩
    refine ⟨_, rfl, by show 1 ≤ sizeLine; decide, fun e6 g6 => ⟨by show 2 ≤ sizeLine; decide, fun e7 g7 => fun e8 g8 => ⟨upd_same, [(Sum.inr "a", .int 1)], rfl, by show 1 ≤ 15; decide, by show 7 ≤ sizeLine; decide, fun M hM => ?_⟩⟩⟩
    have m1 := same_upd (o := .tup []) g1
    have m2 := same_upd (o := .lst []) g2
    have m3 := same_upd (o := .tup [.int 0]) g3
    have m4 := same_upd (o := .lst [.int 0]) g4
    have m5 := same_upd (o := .dK []) g5
    have mL := same_upd (o := .lst [.non, .bl true, .bl false, .str "a", .str "", .int (-1), .int 40, .int (10 ^ 21 + 3), .ref e1, .ref e2, .ref e3, .ref e4, .ref e5, .str "Aa", .str "no", .str "abcdefghi"]) hL
    have m6 := same_upd (o := .tup [.str "a"]) g6
    have m7 := same_upd (o := .tup [.int 0, .int 0]) g7
    have m8 := smut (o := .dK [(Sum.inr "a", .int 1)]) (same_upd (o := .dK []) g8) g8
    have mM := same_upd (o := .lst [.ref e6, .int 0, .int 1, .str "b c", .ref e7, .ref e8, .str "z"]) hM
    have hL1 := (((m6.trans m7).trans m8).trans mM) _ _ upd_same
    refine ⟨L, M, _, _, rfl, rfl, hL1, upd_same, by show 23 ≤ sizeLine; decide, fun so hso => ?_⟩
    have ms := same_upd (o := .lst ([.non, .bl true, .bl false, .str "a", .str "", .int (-1), .int 40, .int (10 ^ 21 + 3), .ref e1, .ref e2, .ref e3, .ref e4, .ref e5, .str "Aa", .str "no", .str "abcdefghi"] ++ [.ref e6, .int 0, .int 1, .str "b c", .ref e7, .ref e8, .str "z"])) hso
    have t8 := mM.trans ms
    have t7 := m8.trans t8
    have t6 := m7.trans t7
    have tL := m6.trans t6
    have t5 := mL.trans tL
    have t4 := m5.trans t5
    have t3 := m4.trans t4
    have t2 := m3.trans t3
    have t1 := m2.trans t2
    have t0 := m1.trans t1
    have f1 := t1 _ _ upd_same
    have f2 := t2 _ _ upd_same
    have f3 := t3 _ _ upd_same
    have f4 := t4 _ _ upd_same
    have f5 := t5 _ _ upd_same
    have f6 := t6 _ _ upd_same
    have f7 := t7 _ _ upd_same
    have f8 := t8 _ _ upd_same
    have fs : ∀ Hm : Hp, upd Hm so (.lst ([.non, .bl true, .bl false, .str "a", .str "", .int (-1), .int 40, .int (10 ^ 21 + 3), .ref e1, .ref e2, .ref e3, .ref e4, .ref e5, .str "Aa", .str "no", .str "abcdefghi"] ++ [.ref e6, .int 0, .int 1, .str "b c", .ref e7, .ref e8, .str "z"])) so = some (.lst ([.non, .bl true, .bl false, .str "a", .str "", .int (-1), .int 40, .int (10 ^ 21 + 3), .ref e1, .ref e2, .ref e3, .ref e4, .ref e5, .str "Aa", .str "no", .str "abcdefghi"] ++ [.ref e6, .int 0, .int 1, .str "b c", .ref e7, .ref e8, .str "z"])) := fun _ => upd_same
    have ofs := (P0.same ((((((((((m1.trans m2).trans m3).trans m4).trans m5).trans mL).trans m6).trans m7).trans m8).trans mM))).off hso
    have one : ∀ (a : Addr) (Hx : Hp), SqT K Hx a [.int 0] → ∃ t, TAt 2 K Hx (.ref a) t := fun a Hx h => TAt.mk h (by decide) fun v hv => by
      rw [List.mem_singleton.mp hv]
      exact ⟨_, .int 0⟩
    refine ⟨_, rfl, _, rfl, PL, c, 23, rfl, P0.same t0, by omega, by decide, by decide, fun H1 r r0 r1 P1 K1 => ?_⟩
    have all : ∀ v ∈ ([.non, .bl true, .bl false, .str "a", .str "", .int (-1), .int 40, .int (10 ^ 21 + 3), .ref e1, .ref e2, .ref e3, .ref e4, .ref e5, .str "Aa", .str "no", .str "abcdefghi"] ++ [.ref e6, .int 0, .int 1, .str "b c", .ref e7, .ref e8, .str "z"] : List V), ∃ t, TAt 2 K H1 v t := by
      have up : ∀ {v : V} {t : Th}, TAt 2 K _ v t → ∃ t, TAt 2 K H1 v t := fun {v t} x => ⟨t, x.kp (P0.same t0) P1 K1⟩
      have up2 : ∀ {v : V}, (∃ t, TAt 2 K _ v t) → ∃ t, TAt 2 K H1 v t := fun {v} ⟨t, x⟩ => ⟨t, x.kp (P0.same t0) P1 K1⟩
      refine List.forall_mem_append.mpr ⟨?_, ?_⟩
      · refine List.forall_mem_cons.mpr ⟨⟨_, .non⟩, List.forall_mem_cons.mpr ⟨⟨_, .bl _⟩, List.forall_mem_cons.mpr ⟨⟨_, .bl _⟩, List.forall_mem_cons.mpr ⟨⟨_, .str _ (by decide +kernel) (by decide +kernel)⟩, List.forall_mem_cons.mpr ⟨⟨_, .str _ (by decide +kernel) (by decide +kernel)⟩, List.forall_mem_cons.mpr ⟨⟨_, .int _⟩, List.forall_mem_cons.mpr ⟨⟨_, .int _⟩, List.forall_mem_cons.mpr ⟨⟨_, .int _⟩, ?_⟩⟩⟩⟩⟩⟩⟩⟩
        refine List.forall_mem_cons.mpr ⟨up2 (TAt.mk (SqT.of f1) (by decide) fun v hv => absurd hv List.not_mem_nil), List.forall_mem_cons.mpr ⟨up (.lst f2), List.forall_mem_cons.mpr ⟨up2 (one _ _ (SqT.of f3)), List.forall_mem_cons.mpr ⟨up (.lst f4), List.forall_mem_cons.mpr ⟨up (.dic f5), ?_⟩⟩⟩⟩⟩
        exact List.forall_mem_cons.mpr ⟨⟨_, .str _ (by decide +kernel) (by decide +kernel)⟩, List.forall_mem_cons.mpr ⟨⟨_, .str _ (by decide +kernel) (by decide +kernel)⟩, List.forall_mem_cons.mpr ⟨⟨_, .str _ (by decide +kernel) (by decide +kernel)⟩, List.forall_mem_nil _⟩⟩⟩
      · refine List.forall_mem_cons.mpr ⟨up2 (TAt.mk (SqT.of f6) (by decide) fun v hv => ?_), List.forall_mem_cons.mpr ⟨⟨_, .int _⟩, List.forall_mem_cons.mpr ⟨⟨_, .int _⟩, List.forall_mem_cons.mpr ⟨⟨_, .str _ (by decide +kernel) (by decide +kernel)⟩, List.forall_mem_cons.mpr ⟨up2 (TAt.mk (SqT.of f7) (by decide) fun v hv => ?_), List.forall_mem_cons.mpr ⟨up (.dic f8), List.forall_mem_cons.mpr ⟨⟨_, .str _ (by decide +kernel) (by decide +kernel)⟩, List.forall_mem_nil _⟩⟩⟩⟩⟩⟩⟩
        · rw [List.mem_singleton.mp hv]
          exact ⟨_, .str _ (by decide +kernel) (by decide +kernel)⟩
        · have : v = .int 0 := by
            rcases List.mem_cons.mp hv with e | hv
            · exact e
            · exact List.mem_singleton.mp hv
          rw [this]
          exact ⟨_, .int 0⟩
    obtain ⟨j, rfl⟩ : ∃ j : Nat, r = (j : Int) := ⟨r.toNat, by omega⟩
    have hj : j < ([.non, .bl true, .bl false, .str "a", .str "", .int (-1), .int 40, .int (10 ^ 21 + 3), .ref e1, .ref e2, .ref e3, .ref e4, .ref e5, .str "Aa", .str "no", .str "abcdefghi"] ++ [.ref e6, .int 0, .int 1, .str "b c", .ref e7, .ref e8, .str "z"] : List V).length := by
      show j < 23
      omega
    obtain ⟨t, ht⟩ := all _ (List.getElem_mem hj)
    exact ⟨so, _, _, _, rfl, rfl, SqL.of (K1 _ _ (fs _) ofs), atI_nat (List.getElem?_eq_getElem hj), q _ _ t P1 ((skp t0).trans K1) ht⟩
theorem tup_or {N : Nat} {H : Hp} {v : V} {t : Th} (x : TAt N K H v t) : (∃ a xs ts, v = .ref a ∧ t = .tup ts ∧ SqT K H a xs ∧ xs.length ≤ N ∧ TAll N K H xs ts) ∨ isTh "tuple" t = false := by
  cases x with
  | tup h l r => exact .inl ⟨_, _, _, rfl, rfl, h, l, r⟩
  | _ => exact .inr (by first | rfl | decide | simp [isTh, tyn])
theorem int_or {N : Nat} {H : Hp} {v : V} {t : Th} (x : TAt N K H v t) : (∃ i, v = .int i ∧ t = .int i) ∨ (isTh "int" t = false ∨ isTh "bool" t = true) := by
  cases x with
  | int i => exact .inl ⟨_, rfl, rfl⟩
  | bl b => exact .inr (.inr (by simp [isTh, tyn]))
  | _ => exact .inr (.inl (by simp [isTh, tyn]))
/-- bending goes no deeper than d (0: it is never asked) -/
def spB (K : PySem.W.Frag) : Nat → Sp
  | 0 => fun _ _ _ _ => False
  | d + 1 => fun vs H Q _ => ∃ (A : PA) (c N : Nat) (v : V) (t : Th) (e : Int), vs = [.ref A.p, v, .int e] ∧ Pool H A c ∧ c + 4 * (d + 1) < 800000 ∧ 2 ≤ N ∧ N ≤ 1000 ∧ TAt N K H v t ∧ 0 ≤ e ∧ e ≤ d ∧ d ≤ 10 ∧
    ∀ (H' : Hp) (v' : V) (t' : Th), Pool H' A (c + 4 * (d + 1)) → Kp A H H' → TAt (N + 1) K H' v' t' → Q v' H'
theorem cutV_to (xs : List V) (m : Nat) : cutV xs none (some (m : Int)) = xs.take m := by
  unfold cutV
  rw [HT.sIx_nat, HT.sIx_none, Nat.sub_zero, List.drop_zero, Nat.min_def]
  split
  · rfl
  · rw [List.take_of_length_le (Nat.le_refl _), List.take_of_length_le (by omega)]
theorem cutV_on (xs : List V) (m : Nat) (h : m ≤ xs.length) : cutV xs (some (m : Int)) none = xs.drop m := by
  unfold cutV
  rw [HT.sIx_nat, HT.sIx_none, Nat.min_eq_left h, List.take_of_length_le (by rw [List.length_drop]; exact Nat.le_refl _)]
theorem cut_mem {xs : List V} {lo hi : Option Int} {x : V} (h : x ∈ cutV xs lo hi) : x ∈ xs := List.mem_of_mem_drop (List.mem_of_mem_take h)
theorem ok_bent1 {f : Addr} {fd : FuncData} (F : Fun K "_law_bent" "_law_bent" s_law_bent f fd) (T : Bi mg) (c_law_draw : Cal P w K mg base 1 "_law_draw" ["_law_pool_here", "_law_many_here"] spDraw) (c_law_odd : Cal P w K mg base 2 "_law_odd" ["_law_pool_here"] (spOdd K))
    {k d : Nat} (c_law_bent : Cal P w K mg base k "_law_bent" ["_law_pool_here", "_law_thing", "_law_deep"] (spB K d)) (hk : 2 ≤ k) : FnOk P w K mg base CX0 (k + 1) f fd ["_law_pool_here", "_law_thing", "_law_deep"] (spB K (d + 1)) := by
  refine F.ok sc_law_bent (fun vs H Q E h => ?_) (fun cdv A outer s H vs Q E hr h => ?_)
  · obtain ⟨A, c, N, v, t, e, rfl, _⟩ := h
    rfl
  · obtain ⟨PL, c, N, v, t, e, rfl, P0, hc, n1, n2, x0, d0, d1, d2, q⟩ := h
    refine ⟨_, (Evl.pss_cut (ps_if (PW.pt (pw_and (pt_val (pe_callB call_isT (by rfl) T.isinstance (by decide +kernel) (pa_cons (pv 1) (pa_cons (pe_bltn (v := .ty "tuple") (u := .type "tuple") (by rfl) T.tuple (by decide +kernel) rfl) pa_nil)))) (pw_and (pt_cmpR op_gt (pe_callB call_lenX (by rfl) T.len PySem.boot_len (pa_cons (pv 1) pa_nil)) pe_int (nomark _)) (pw_and (pt_cmpR op_gt (pv 2) pe_int (nomark _)) (pw_and1 (pt_cmpR op_gt (pe_call c_law_draw.G (hr.mono (by omega)) (by rfl) c_law_draw.g c_law_draw.kp c_law_draw.b .nil pass0 (pa_cons (pv 0) (pa_cons pe_int pa_nil))) pe_int (nomark _)))))))
        (pss_cons (ps_set (i := 3) sc_law_bent.nd rfl (.inl rfl) (pe_call c_law_draw.G (hr.mono (by omega)) (by rfl) c_law_draw.g c_law_draw.kp c_law_draw.b .nil pass0 (pa_cons (pv 0) (pa_cons (pe_callB call_lenX (by rfl) T.len PySem.boot_len (pa_cons (pv 1) pa_nil)) pa_nil))))
        (pss_one (ps_ret (pe_op op_catQ (pe_op op_catQ (pe_slice sl_tupQ (pv 1) po_none (po_some (pv 3))) (pe_tup (pa_cons (pe_call c_law_bent.G hr (by rfl) c_law_bent.g c_law_bent.kp c_law_bent.b .nil pass0 (pa_cons (pv 0) (pa_cons (pe_ix ix_tup (pv 1) (pv 3) (fun _ _ => rfl)) (pa_cons (pe_op op_sub (pv 2) pe_int) pa_nil)))) pa_nil))) (pe_slice sl_tupQ (pv 1) (po_some (pe_op op_add (pv 3) pe_int)) po_none)))))
        pss_nil)
      (pss_cons (ps_set (i := 4) sc_law_bent.nd rfl (.inl rfl) (pe_call c_law_draw.G (hr.mono (by omega)) (by rfl) c_law_draw.g c_law_draw.kp c_law_draw.b .nil pass0 (pa_cons (pv 0) (pa_cons pe_int pa_nil))))
      (Evl.pss_cut (ps_if (PW.pt (pw_and (pt_val (pe_callB call_isT (by rfl) T.isinstance (by decide +kernel) (pa_cons (pv 1) (pa_cons (pe_bltn (v := .ty "tuple") (u := .type "tuple") (by rfl) T.tuple (by decide +kernel) rfl) pa_nil)))) (pw_and1 (pt_cmpR op_gt (pv 4) pe_int (nomark _)))))
        (pss_cons (ps_set (i := 5) sc_law_bent.nd rfl (.inl rfl) (pe_call c_law_draw.G (hr.mono (by omega)) (by rfl) c_law_draw.g c_law_draw.kp c_law_draw.b .nil pass0 (pa_cons (pv 0) (pa_cons pe_int pa_nil))))
        (pss_cons (ps_if (pt_cmpR op_eq (pv 5) pe_int (nomark _))
          (pss_one (ps_ret (pe_callTy call_list_of (by rfl) T.list (by decide +kernel) (pa_cons (pv 1) pa_nil))))
          pss_nil)
        (pss_cons (ps_if (pt_cmpR op_eq (pv 5) pe_int (nomark _))
          (pss_one (ps_ret (pe_op op_catQ (pv 1) (pe_tup (pa_cons (pe_call c_law_odd.G (hr.mono (by omega)) (by rfl) c_law_odd.g c_law_odd.kp c_law_odd.b .nil pass0 (pa_cons (pv 0) pa_nil)) pa_nil)))))
          pss_nil)
        (pss_one (ps_ret (pe_ix ix_list (pe_lst (pa_cons (pe_slice sl_tupQ (pv 1) po_none (po_some (pe_un un_neg pe_int))) (pa_cons (BkT.pe_back (pv 1) (po_some (pe_un un_neg pe_int))) (pa_cons (pe_op op_catQ (pv 1) (pe_slice sl_tupQ (pv 1) (po_some (pe_un un_neg pe_int)) po_none)) (pa_cons (pe_slice sl_tupQ (pv 1) (po_some pe_int) po_none) pa_nil))))) (pe_op op_sub (pv 5) pe_int) (fun _ _ => rfl)))))))
        pss_nil)
      (Evl.pss_cut (ps_if (PW.pt (pw_and (pt_val (pe_callB call_isT (by rfl) T.isinstance (by decide +kernel) (pa_cons (pv 1) (pa_cons (pe_bltn (v := .ty "int") (u := .type "int") (by rfl) T.int (by decide +kernel) rfl) pa_nil)))) (pw_and (pt_not (pt_val (pe_callB call_isT (by rfl) T.isinstance (by decide +kernel) (pa_cons (pv 1) (pa_cons (pe_bltn (v := .ty "bool") (u := .type "bool") (by rfl) T.bool (by decide +kernel) rfl) pa_nil))))) (pw_and1 (pt_cmpR op_gt (pv 4) pe_int (nomark _))))))
        (pss_one (ps_ret (pe_op op_add (pv 1) (pe_ix ix_list (pe_lst (pa_cons pe_int (pa_cons (pe_un un_neg pe_int) (pa_cons pe_int (pa_cons (pe_op op_sub pe_int (pv 1)) pa_nil))))) (pe_call c_law_draw.G (hr.mono (by omega)) (by rfl) c_law_draw.g c_law_draw.kp c_law_draw.b .nil pass0 (pa_cons (pv 0) (pa_cons pe_int pa_nil))) (fun _ _ => rfl)))))
        pss_nil)
      (pss_one (ps_ret (pe_call c_law_odd.G (hr.mono (by omega)) (by rfl) c_law_odd.g c_law_odd.kp c_law_odd.b .nil pass0 (pa_cons (pv 0) pa_nil)))))))), ?_⟩
    refine ⟨fun σ H' => σ = [some (.ref PL.p), some v, some (.int e), none, none, none] ∧ Pool H' PL (c + 1) ∧ Kp PL H H' ∧ TAt N K H' v t, ?_, ?_⟩
    · refine ⟨_, rfl, v, t, N, "tuple", rfl, x0, by simp [tyL], _, rfl, ?_⟩
      rcases tup_or x0 with ⟨a, xs, ts, rfl, rfl, hx, hl, hall⟩ | ht
      · rw [show isTh "tuple" (.tup ts) = true by simp [isTh, tyn]]
        refine iteT ⟨_, rfl, .inr ⟨a, xs, rfl, .inr hx, _, _, rfl, rfl, _, rfl, ite2 (fun e1 => ?_) (fun e1 => iteF ?_)⟩⟩
        · refine ⟨_, rfl, _, _, rfl, rfl, _, rfl, ite2 (fun e2 => ?_) (fun e2 => iteF ?_)⟩
          · refine ⟨_, rfl, PL, c, 6, rfl, P0, by omega, by decide, by decide, fun H1 r r0 r1 P1 K1 => ⟨_, _, rfl, rfl, _, rfl, ite2 (fun e3 => ?_) (fun e3 => ?_)⟩⟩
            · have x1 := x0.kp P0 P1 K1
              have hx1 := (P0.imm K1).sq hx
              have len0 : 0 < xs.length := by
                have := of_decide_eq_true e1
                omega
              refine ⟨_, rfl, _, rfl, .inr ⟨a, xs, rfl, .inr hx1, PL, _, xs.length, rfl, P1, by omega, by omega, by omega, fun H2 j j0 j1 P2 K2 => ?_⟩⟩
              have hx2 := (P1.imm K2).sq hx1
              have x2 := x1.kp P1 P2 K2
              obtain ⟨j, rfl⟩ : ∃ i : Nat, j = (i : Int) := ⟨j.toNat, by omega⟩
              have hj : j < xs.length := by omega
              have de : 0 < e := of_decide_eq_true e2
              obtain ⟨d', rfl⟩ : ∃ d', d = d' + 1 := ⟨d - 1, by omega⟩
              have all2 : ∀ y ∈ xs, ∃ t, TAt N K H2 y t := fun y hy => by
                obtain ⟨t, xt⟩ := hall.mem hy
                exact ⟨t, (xt.kp P0 P1 K1).kp P1 P2 K2⟩
              refine ⟨_, rfl, _, rfl, _, rfl, a, _, rfl, hx2, fun b1 H3 s3 hb1 => ?_⟩
              rw [cutV_to] at hb1
              have P3 := P2.same s3
              obtain ⟨tj, xj⟩ := all2 xs[j] (List.getElem_mem hj)
              refine ⟨_, rfl, _, rfl, _, rfl, a, _, _, xs[j], rfl, rfl, ssqt s3 hx2, at_of rfl (List.getElem?_eq_getElem hj), _, rfl, _, _, rfl, rfl, PL, _, N, xs[j], tj, e - 1, rfl, P3, by omega, n1, n2, xj.same s3, by omega, by omega, by omega, fun H4 v' t' P4 K4 x4 => ?_⟩
              refine ⟨by show 1 ≤ sizeLine; decide, fun p hp => ?_⟩
              have sp := same_upd (o := .tup [v']) hp
              have hx4 := ssqt sp ((P3.imm K4).sq (ssqt s3 hx2))
              refine ⟨b1, p, _, _, rfl, rfl, ssqt sp ((P3.imm K4).sq hb1), SqT.of upd_same, szOk (by rw [List.length_take]; show min j xs.length + 1 ≤ _; omega), fun g H5 s5 hg => ?_⟩
              refine ⟨_, rfl, _, rfl, _, _, rfl, rfl, _, rfl, a, _, rfl, ssqt s5 hx4, fun b2 H6 s6 hb2 => ?_⟩
              rw [show ((j : Int) + 1) = ((j + 1 : Nat) : Int) by omega, cutV_on _ _ (by omega)] at hb2
              refine ⟨g, b2, _, _, rfl, rfl, ssqt s6 hg, hb2, szOk (by rw [List.length_append, List.length_take, List.length_drop]; show min j xs.length + 1 + (xs.length - (j + 1)) ≤ _; omega), fun z H7 s7 hz => ?_⟩
              have s47 := ((sp.trans s5).trans s6).trans s7
              obtain ⟨tz, xz⟩ : ∃ t, TAt (N + 1) K H7 (.ref z) t := TAt.mk hz (by rw [List.length_append, List.length_append, List.length_take, List.length_drop]; show min j xs.length + 1 + (xs.length - (j + 1)) ≤ _; omega) fun y hy => by
                have old : y ∈ xs → ∃ t, TAt (N + 1) K H7 y t := fun hy => by
                  obtain ⟨t, xt⟩ := all2 y hy
                  exact ⟨t, (((xt.same s3).kp P3 P4 K4).same s47).more (by omega)⟩
                rcases List.mem_append.mp hy with hy | hy
                · rcases List.mem_append.mp hy with hy | hy
                  · exact old (List.mem_of_mem_take hy)
                  · rw [List.mem_singleton.mp hy]
                    exact ⟨t', x4.same s47⟩
                · exact old (List.mem_of_mem_drop hy)
              exact q _ _ tz ((P4.same s47).mono (by omega)) ((((K1.trans K2).trans (skp s3)).trans K4).trans (skp s47)) xz
            · exact ⟨rfl, P1, K1, x0.kp P0 P1 K1⟩
          · exact ⟨rfl, P0.mono (by omega), Kp.refl _, x0⟩
        · exact ⟨rfl, P0.mono (by omega), Kp.refl _, x0⟩
      · rw [ht]
        exact iteF (iteF ⟨rfl, P0.mono (by omega), Kp.refl _, x0⟩)
    rintro σ H1 ⟨rfl, P1, K1, x1⟩
    refine ⟨_, rfl, PL, _, 3, rfl, P1, by omega, by decide, by decide, fun H2 wy _ _ P2 K2 => ?_⟩
    have x2 := x1.kp P1 P2 K2
    have K02 := K1.trans K2
    refine ⟨fun σ H' => σ = [some (.ref PL.p), some v, some (.int e), none, some (.int wy), none] ∧ H' = H2, ?_, ?_⟩
    · refine ⟨_, rfl, v, t, N, "tuple", rfl, x2, by simp [tyL], _, rfl, ?_⟩
      rcases tup_or x2 with ⟨a, xs, ts, rfl, rfl, hx, hl, hall⟩ | ht
      · rw [show isTh "tuple" (.tup ts) = true by simp [isTh, tyn]]
        refine iteT ⟨_, rfl, _, _, rfl, rfl, _, rfl, ite2 (fun e1 => ?_) (fun e1 => ⟨rfl, rfl⟩)⟩
        refine ⟨_, rfl, PL, _, 6, rfl, P2, by omega, by decide, by decide, fun H3 tn t0 t1 P3 K3 => ?_⟩
        have hx3 := (P2.imm K3).sq hx
        have K03 := K02.trans K3
        have all3 : ∀ y ∈ xs, ∃ t, TAt N K H3 y t := fun y hy => by
          obtain ⟨t, xt⟩ := hall.mem hy
          exact ⟨t, xt.kp P2 P3 K3⟩
        have old : ∀ {H' : Hp}, Same H3 H' → ∀ y ∈ xs, ∃ t, TAt (N + 1) K H' y t := fun sm y hy => by
          obtain ⟨t, xt⟩ := all3 y hy
          exact ⟨t, (xt.same sm).more (by omega)⟩
        refine ⟨_, rfl, rfl, _, rfl, ?_⟩
        rw [dec_int]
        refine ite2 (fun e2 => ⟨_, rfl, a, xs, rfl, .inr hx3, fun l hl' => ?_⟩) (fun e2 => ⟨_, rfl, rfl, _, rfl, ?_⟩)
        · exact q _ _ .lst ((P3.same (same_upd hl')).mono (by omega)) (K03.trans (skp (same_upd hl'))) (.lst upd_same)
        rw [dec_int]
        refine ite2 (fun e3 => ⟨_, rfl, _, rfl, PL, _, rfl, P3, by omega, fun H4 v' t' P4 K4 x4 => ⟨by show 1 ≤ sizeLine; decide, fun p hp => ?_⟩⟩) (fun e3 => ?_)
        · have sp := same_upd (o := .tup [v']) hp
          refine ⟨a, p, _, _, rfl, rfl, ssqt sp ((P3.imm K4).sq hx3), SqT.of upd_same, szOk (by show xs.length + 1 ≤ _; omega), fun z H5 s5 hz => ?_⟩
          have s45 := sp.trans s5
          obtain ⟨tz, xz⟩ : ∃ t, TAt (N + 1) K H5 (.ref z) t := TAt.mk hz (by rw [List.length_append]; show xs.length + 1 ≤ _; omega) fun y hy => by
            rcases List.mem_append.mp hy with hy | hy
            · obtain ⟨t, xt⟩ := all3 y hy
              exact ⟨t, ((xt.kp P3 P4 K4).same s45).more (by omega)⟩
            · rw [List.mem_singleton.mp hy]
              exact ⟨t', (x4.same s45).more (by omega)⟩
          exact q _ _ tz ((P4.same s45).mono (by omega)) ((K03.trans K4).trans (skp s45)) xz
        have n0 : tn ≠ 0 := fun z => e2 (decide_eq_true z)
        have n1' : tn ≠ 1 := fun z => e3 (decide_eq_true z)
        refine ⟨_, rfl, _, rfl, _, rfl, a, _, rfl, hx3, fun b1 H4 s4 hb1 => ?_⟩
        refine ⟨_, rfl, _, rfl, _, rfl, rfl, a, xs, rfl, ssqt s4 hx3, fun b2 hb2 => ?_⟩
        have s5 := same_upd (o := .tup xs.reverse) hb2
        refine ⟨_, rfl, _, rfl, _, rfl, _, rfl, a, _, rfl, ssqt (s4.trans s5) hx3, fun b3 H6 s6 hb3 => ?_⟩
        have l3 : (cutV xs (some (-1)) none).length ≤ 1 := by
          unfold cutV
          rw [List.length_take, List.length_drop]
          show min (xs.length - (if (-1 : Int) < 0 then (-1 + (xs.length : Int)).toNat else min (Int.toNat (-1)) xs.length)) (xs.length - (if (-1 : Int) < 0 then (-1 + (xs.length : Int)).toNat else min (Int.toNat (-1)) xs.length)) ≤ 1
          rw [if_pos (by decide)]
          omega
        refine ⟨a, b3, _, _, rfl, rfl, ssqt ((s4.trans s5).trans s6) hx3, hb3, szOk (by have := cutV_length xs (some (-1)) none; omega), fun b4 H7 s7 hb4 => ?_⟩
        refine ⟨_, rfl, 1, rfl, a, _, rfl, ssqt (((s4.trans s5).trans s6).trans s7) hx3, fun b5 H8 s8 hb5 => ⟨by show 4 ≤ sizeLine; decide, fun L hL => ?_⟩⟩
        have sL := same_upd (o := .lst [.ref b1, .ref b2, .ref b4, .ref b5]) hL
        have s88 := s8.trans sL
        have s78 := s7.trans s88
        have s68 := s6.trans s78
        have s58 := s5.trans s68
        have s48 := s4.trans s58
        have P8 := P3.same s48
        have y1 : ∃ t, TAt (N + 1) K _ (.ref b1) t := TAt.mk (ssqt s58 hb1) (by have := cutV_length xs none (some (-1)); omega) fun y hy => old s48 y (cut_mem hy)
        have y2 : ∃ t, TAt (N + 1) K _ (.ref b2) t := TAt.mk (ssqt s68 (SqT.of upd_same)) (by rw [List.length_reverse]; omega) fun y hy => old s48 y (List.mem_reverse.mp hy)
        have y4 : ∃ t, TAt (N + 1) K _ (.ref b4) t := TAt.mk (ssqt s88 hb4) (by rw [List.length_append]; omega) fun y hy => old s48 y (by
          rcases List.mem_append.mp hy with hy | hy
          · exact hy
          · exact cut_mem hy)
        have y5 : ∃ t, TAt (N + 1) K _ (.ref b5) t := TAt.mk (ssqt sL hb5) (by have := cutV_length xs (some 1) none; omega) fun y hy => old s48 y (cut_mem hy)
        obtain ⟨j, b, tb, hb, ej, xb⟩ : ∃ (j : Nat) (b : Addr) (tb : Th), [V.ref b1, .ref b2, .ref b4, .ref b5][j]? = some (.ref b) ∧ tn - 2 = (j : Int) ∧ TAt (N + 1) K (L2.upd H8 L (.lst [.ref b1, .ref b2, .ref b4, .ref b5])) (.ref b) tb := by
          have : tn = 2 ∨ tn = 3 ∨ tn = 4 ∨ tn = 5 := by omega
          rcases this with rfl | rfl | rfl | rfl
          · exact ⟨0, b1, y1.choose, rfl, rfl, y1.choose_spec⟩
          · exact ⟨1, b2, y2.choose, rfl, rfl, y2.choose_spec⟩
          · exact ⟨2, b4, y4.choose, rfl, rfl, y4.choose_spec⟩
          · exact ⟨3, b5, y5.choose, rfl, rfl, y5.choose_spec⟩
        exact ⟨_, rfl, _, _, rfl, rfl, L, _, _, .ref b, rfl, rfl, SqL.of upd_same, at_of ej hb, q _ _ tb (P8.mono (by omega)) (K03.trans (skp s48)) xb⟩
      · rw [ht]
        exact iteF (iteF ⟨rfl, rfl⟩)
    rintro σ H' ⟨rfl, rfl⟩
    refine ⟨fun σ H'' => σ = [some (.ref PL.p), some v, some (.int e), none, some (.int wy), none] ∧ H'' = H', ?_, ?_⟩
    · refine ⟨_, rfl, v, t, N, "int", rfl, x2, by simp [tyL], _, rfl, ?_⟩
      rcases int_or x2 with ⟨i, rfl, rfl⟩ | hn
      · rw [show isTh "int" (.int i) = true by simp [isTh, tyn]]
        refine iteT ⟨_, rfl, _, .int i, N, "bool", rfl, x2, by simp [tyL], _, rfl, ?_⟩
        rw [show isTh "bool" (.int i) = false by simp [isTh, tyn]]
        refine iteT ⟨_, rfl, _, _, rfl, rfl, _, rfl, ite2 (fun e1 => ?_) (fun e1 => ⟨rfl, rfl⟩)⟩
        refine ⟨_, rfl, _, rfl, _, rfl, _, _, rfl, rfl, by show 4 ≤ sizeLine; decide, fun L hL => ⟨_, rfl, PL, _, 4, rfl, P2.same (same_upd hL), by omega, by decide, by decide, fun H4 r r0 r1 P4 K4 => ?_⟩⟩
        obtain ⟨y, hy⟩ : ∃ y, atI [V.int 1, .int (-1), .int 2, .int (0 - i)] r = some (.int y) := by
          have : r = 0 ∨ r = 1 ∨ r = 2 ∨ r = 3 := by omega
          rcases this with rfl | rfl | rfl | rfl
          · exact ⟨1, rfl⟩
          · exact ⟨-1, rfl⟩
          · exact ⟨2, rfl⟩
          · exact ⟨0 - i, rfl⟩
        exact ⟨L, _, _, .int y, rfl, rfl, SqL.of (K4 _ _ upd_same (P2.off hL)), hy, _, _, rfl, rfl, q _ _ (.int _) (P4.mono (by omega)) ((K02.trans (skp (same_upd hL))).trans K4) (.int _)⟩
      · cases hi : isTh "int" t with
        | false => exact iteF (iteF ⟨rfl, rfl⟩)
        | true =>
          have hb : isTh "bool" t = true := by
            rcases hn with h | h
            · rw [h] at hi
              cases hi
            · exact h
          refine iteT ⟨_, rfl, v, t, N, "bool", rfl, x2, by simp [tyL], _, rfl, ?_⟩
          rw [hb]
          exact iteF (iteF ⟨rfl, rfl⟩)
    rintro σ H'' ⟨rfl, rfl⟩
    exact ⟨_, rfl, PL, _, rfl, P2, by omega, fun H3 v' t' P3 K3 x3 => q _ _ t' (P3.mono (by omega)) (K02.trans K3) (x3.more (by omega))⟩
theorem ok_bent {f : Addr} {fd : FuncData} (F : Fun K "_law_bent" "_law_bent" s_law_bent f fd) (T : Bi mg) (c_law_draw : Cal P w K mg base 1 "_law_draw" ["_law_pool_here", "_law_many_here"] spDraw) (c_law_odd : Cal P w K mg base 2 "_law_odd" ["_law_pool_here"] (spOdd K))
    (g : mg "_law_bent" = some (.ref f)) (kp : PySem.W.keepIn K (.ref f) = true) (b : Binds K fd ["_law_pool_here", "_law_thing", "_law_deep"] []) : ∀ d : Nat, FnOk P w K mg base CX0 (2 + d) f fd ["_law_pool_here", "_law_thing", "_law_deep"] (spB K d)
  | 0 => ⟨fun _ _ _ _ h => h.elim, fun _ _ _ _ _ _ _ _ _ _ _ _ _ h => h.elim⟩
  | d + 1 => ok_bent1 F T c_law_draw c_law_odd ⟨f, fd, ok_bent F T c_law_draw c_law_odd g kp b d, g, kp, b⟩ (Nat.le_add_right 2 d)
end

/-! ### rows and names among things of any kind -/
abbrev sis_row : Stmt := topS 10
theorem scis_row : FnScope ["thing", "least", "most"] ["thing", "least", "most"] (defScope sis_row) := ⟨rfl, rfl, rfl, by decide +kernel, rfl, by decide +kernel, by decide +kernel⟩
abbrev sis_name : Stmt := topS 11
theorem scis_name : FnScope ["thing", "sign"] ["thing"] (defScope sis_name) := ⟨rfl, rfl, rfl, by decide +kernel, rfl, by decide +kernel, by decide +kernel⟩
abbrev s_law_tuple : Stmt := topS 26
theorem sc_law_tuple : FnScope ["_law_thing", "_law_least", "_law_most"] ["_law_thing", "_law_least", "_law_most"] (defScope s_law_tuple) := ⟨rfl, rfl, rfl, by decide +kernel, rfl, by decide +kernel, by decide +kernel⟩
abbrev s_law_good_name : Stmt := topS 28
theorem sc_law_good_name : FnScope ["_law_thing", "_law_words", "_law_sign"] ["_law_thing"] (defScope s_law_good_name) := ⟨rfl, rfl, rfl, by decide +kernel, rfl, by decide +kernel, by decide +kernel⟩
section
variable {P : Program} {w : World} {K : PySem.W.Frag} {mg : Str → Option Value} {base : Heap}
theorem str_or {N : Nat} {H : Hp} {v : V} {t : Th} (x : TAt N K H v t) : (∃ z, v = .str z ∧ t = .str z ∧ z.length ≤ 100 ∧ ∀ c ∈ z.cps.toList, c < 1114112) ∨ (isTh "str" t = false ∧ nameB t = false) := by
  cases x with
  | str z h c => exact .inl ⟨z, rfl, rfl, h, c⟩
  | _ => exact .inr ⟨by simp [isTh, tyn], rfl⟩
theorem row_no {t : Th} {lo hi : Int} (h : isTh "tuple" t = false) : rowB t lo hi = false := by
  cases t <;> first | rfl | (simp [isTh, tyn] at h)
def spRowT (K : PySem.W.Frag) : Sp := fun vs H Q _ => ∃ (v : V) (t : Th) (N : Nat) (lo hi : Int), vs = [v, .int lo, .int hi] ∧ TAt N K H v t ∧ Q (.bl (rowB t lo hi)) H
theorem ok_rowT {f : Addr} {fd : FuncData} (F : Fun K "is_row" "is_row" sis_row f fd) (T : Bi mg) : FnOk P w K mg base CX0 1 f fd ["thing", "least", "most"] (spRowT K) := by
  refine F.ok scis_row (fun vs H Q E h => ?_) (fun cdv A outer s H vs Q E hr h => ?_)
  · obtain ⟨v, t, N, lo, hi, rfl, _⟩ := h
    rfl
  · obtain ⟨v, t, N, lo, hi, rfl, x, q⟩ := h
    refine ⟨_, (pss_one (ps_ret (pe_and (pe_callB call_isT (by rfl) T.isinstance (by decide +kernel) (pa_cons (pv 0) (pa_cons (pe_bltn (v := .ty "tuple") (u := .type "tuple") (by rfl) T.tuple (by decide +kernel) rfl) pa_nil))) (pe_one (pe_chain op_le op_le (pv 1) (pe_callB call_lenX (by rfl) T.len PySem.boot_len (pa_cons (pv 0) pa_nil)) (pv 2)))))), ?_⟩
    refine ⟨_, rfl, v, t, N, "tuple", rfl, x, by simp [tyL], _, rfl, ?_⟩
    rcases tup_or x with ⟨a, xs, ts, rfl, rfl, hx, hl, hall⟩ | ht
    · rw [show isTh "tuple" (.tup ts) = true by simp [isTh, tyn]]
      have q : Q (.bl (decide (lo ≤ ts.length) && decide ((ts.length : Int) ≤ hi))) H := q
      rw [← hall.len] at q
      refine iteT ⟨_, rfl, _, rfl, .inr ⟨a, xs, rfl, .inr hx, lo, _, rfl, rfl, _, rfl, ite2 (fun e => ?_) (fun e => ?_)⟩⟩
      · refine ⟨_, rfl, _, hi, rfl, rfl, ?_⟩
        rw [e, Bool.true_and] at q
        exact q
      · have e' : decide (lo ≤ (xs.length : Int)) = false := by simpa using e
        rw [e', Bool.false_and] at q
        exact q
    · rw [ht]
      rw [row_no ht] at q
      exact iteF q
theorem ok_ltupT {f : Addr} {fd : FuncData} (F : Fun K "_law_tuple" "_law_tuple" s_law_tuple f fd) (T : Bi mg) : FnOk P w K mg base CX0 1 f fd ["_law_thing", "_law_least", "_law_most"] (spRowT K) := by
  refine F.ok sc_law_tuple (fun vs H Q E h => ?_) (fun cdv A outer s H vs Q E hr h => ?_)
  · obtain ⟨v, t, N, lo, hi, rfl, _⟩ := h
    rfl
  · obtain ⟨v, t, N, lo, hi, rfl, x, q⟩ := h
    refine ⟨_, (pss_one (ps_ret (pe_and (pe_callB call_isT (by rfl) T.isinstance (by decide +kernel) (pa_cons (pv 0) (pa_cons (pe_bltn (v := .ty "tuple") (u := .type "tuple") (by rfl) T.tuple (by decide +kernel) rfl) pa_nil))) (pe_one (pe_chain op_le op_le (pv 1) (pe_callB call_lenX (by rfl) T.len PySem.boot_len (pa_cons (pv 0) pa_nil)) (pv 2)))))), ?_⟩
    refine ⟨_, rfl, v, t, N, "tuple", rfl, x, by simp [tyL], _, rfl, ?_⟩
    rcases tup_or x with ⟨a, xs, ts, rfl, rfl, hx, hl, hall⟩ | ht
    · rw [show isTh "tuple" (.tup ts) = true by simp [isTh, tyn]]
      have q : Q (.bl (decide (lo ≤ ts.length) && decide ((ts.length : Int) ≤ hi))) H := q
      rw [← hall.len] at q
      refine iteT ⟨_, rfl, _, rfl, .inr ⟨a, xs, rfl, .inr hx, lo, _, rfl, rfl, _, rfl, ite2 (fun e => ?_) (fun e => ?_)⟩⟩
      · refine ⟨_, rfl, _, hi, rfl, rfl, ?_⟩
        rw [e, Bool.true_and] at q
        exact q
      · have e' : decide (lo ≤ (xs.length : Int)) = false := by simpa using e
        rw [e', Bool.false_and] at q
        exact q
    · rw [ht]
      rw [row_no ht] at q
      exact iteF q
theorem name_eq (z : Str) : nameB (.str z) = (decide (1 ≤ z.length) && decide (z.length ≤ 8) && decide (z ∉ wordsL) && z.cps.toList.all fun c => decide (c ∈ lettersS.cps.toList)) := rfl
theorem name_len {z : Str} (h : ¬ (1 ≤ z.length ∧ z.length ≤ 8)) : nameB (.str z) = false := by
  rw [name_eq]
  by_cases h1 : 1 ≤ z.length
  · rw [decide_eq_true h1, decide_eq_false fun h2 => h ⟨h1, h2⟩]
    rfl
  · rw [decide_eq_false h1]
    rfl
theorem name_word {z : Str} (h : z ∈ wordsL) : nameB (.str z) = false := by
  rw [name_eq]
  rw [decide_eq_false (p := z ∉ wordsL) (fun k => k h), Bool.and_false]
  rfl
theorem name_rest {z : Str} (h1 : 1 ≤ z.length) (h2 : z.length ≤ 8) (h3 : z ∉ wordsL) : nameB (.str z) = z.cps.toList.all fun c => decide (c ∈ lettersS.cps.toList) := by
  rw [name_eq]
  rw [decide_eq_true h1, decide_eq_true h2, decide_eq_true h3]
  rfl
theorem all_drop {z : Str} {i c : Nat} (h : z.cps[i]? = some c) : (z.cps.toList.drop i).all (fun c => decide (c ∈ lettersS.cps.toList)) = (decide (c ∈ lettersS.cps.toList) && (z.cps.toList.drop (i + 1)).all fun c => decide (c ∈ lettersS.cps.toList)) := by
  rw [← Array.getElem?_toList] at h
  obtain ⟨hi, rfl⟩ := List.getElem?_eq_some_iff.mp h
  rw [List.drop_eq_getElem_cons hi]
  rfl
def spNameT (K : PySem.W.Frag) : Sp := fun vs H Q _ => ∃ (v : V) (t : Th) (N : Nat), vs = [v] ∧ TAt N K H v t ∧ ∀ H', Same H H' → Q (.bl (nameB t)) H'
theorem ok_nameT {f : Addr} {fd : FuncData} (F : Fun K "is_name" "is_name" sis_name f fd) (T : Bi mg) (W : Wd K mg) : FnOk P w K mg base CX0 1 f fd ["thing"] (spNameT K) := by
  refine F.ok scis_name (fun vs H Q E h => ?_) (fun cdv A outer s H vs Q E hr h => ?_)
  · obtain ⟨v, t, N, rfl, _⟩ := h
    rfl
  · obtain ⟨v, t, N, rfl, x, q⟩ := h
    have q := q H (Same.refl _)
    refine ⟨_, (pss_cons (ps_if (PW.pt (pw_or (pt_not (pt_val (pe_callB call_isT (by rfl) T.isinstance (by decide +kernel) (pa_cons (pv 0) (pa_cons (pe_bltn (v := .ty "str") (u := .type "str") (by rfl) T.str (by decide +kernel) rfl) pa_nil))))) (pw_or (pt_not (pt_chain op_le op_le pe_int (pe_callB call_lenX (by rfl) T.len PySem.boot_len (pa_cons (pv 0) pa_nil)) pe_int)) (pw_or1 (pt_cmpR op_in_seq (pv 0) (pe_glob rfl W.gWORDS W.rWORDS) (by rfl))))))
        (pss_one (ps_ret pe_bl))
        pss_nil)
      (pss_cons (ps_for PassesOwn.never rfl (pi_str (pv 0)) (pg_name (i := 1) scis_name.nd rfl (.inl rfl))
        (pss_one (ps_if (pt_cmpR op_notIn_sign (pv 1) (pe_glob rfl W.gLETTERS W.rLETTERS) (by rfl))
          (pss_one (ps_ret pe_bl))
          pss_nil)))
      (pss_one (ps_ret pe_bl)))), ?_⟩
    refine ⟨_, rfl, v, t, N, "str", rfl, x, by simp [tyL], _, rfl, ?_⟩
    rcases str_or x with ⟨z, rfl, rfl, hz, _⟩ | ⟨ht, hn⟩
    · rw [show isTh "str" (.str z) = true by simp [isTh, tyn]]
      refine iteF ⟨_, rfl, .inl ⟨z, rfl, szOk (by omega), 1, _, rfl, rfl, _, rfl, ite2 (fun e => ?_) (fun e => ?_)⟩⟩
      · have h1 : 1 ≤ z.length := by
          have := of_decide_eq_true e
          omega
        refine ⟨_, _, rfl, rfl, _, rfl, ite2 (fun e2 => ?_) (fun e2 => ?_)⟩
        · rw [name_len fun h => notdec e2 (by omega)] at q
          exact iteT q
        · have h2 : z.length ≤ 8 := by
            have := dec_of e2
            omega
          refine ⟨_, rfl, _, _, rfl, .inr (W.sW _), rfl, flat_str _, _, rfl, ?_⟩
          rw [inV_str]
          refine ite2 (fun e3 => ?_) (fun e3 => ?_)
          · rw [name_word (of_decide_eq_true e3)] at q
            exact q
          have h3 : z ∉ wordsL := fun k => e3 (decide_eq_true k)
          rw [name_rest h1 h2 h3] at q
          refine ⟨_, rfl, z, rfl, for_it walk_str (fun i σ H' => ∃ y, σ = [some (.str z), y] ∧ H' = H ∧ z.cps.toList.all (fun c => decide (c ∈ lettersS.cps.toList)) = (z.cps.toList.drop i).all fun c => decide (c ∈ lettersS.cps.toList)) ⟨_, rfl, rfl, rfl⟩ (fun _ _ _ _ _ => trivial) ?_ ?_⟩
          · rintro i x σ H1 H2 hi ⟨y, rfl, rfl, e4⟩ ⟨rfl, c, hc, rfl⟩
            rw [all_drop hc] at e4
            refine ⟨_, rfl, c, lettersS, rfl, rfl, _, rfl, ite2 (fun e5 => ?_) (fun e5 => ⟨_, rfl, rfl, ?_⟩)⟩
            · rw [decide_eq_false (notdec e5), Bool.false_and] at e4
              rw [e4] at q
              exact q
            · rw [e4, decide_eq_true (dec_of e5), Bool.true_and]
          · rintro σ H1 ⟨y, rfl, rfl, e4⟩
            rw [List.drop_of_length_le (by rw [Array.length_toList]; exact Nat.le_refl _)] at e4
            rw [e4] at q
            exact q
      · rw [name_len fun h => e (decide_eq_true (by omega))] at q
        exact ⟨_, rfl, iteT q⟩
    · rw [ht]
      rw [hn] at q
      exact iteT (iteT q)
theorem dpx_strs {H : Hp} : ∀ l : List Str, DpAll K H (l.map V.str) (l.map PyData.str)
  | [] => .nil
  | x :: r => .cons (.str x) (dpx_strs r)
theorem lay_strs : ∀ l : List Str, (∀ x ∈ l, PyData.canLay0 (.str x) = true) → PyData.canLayAll0 (l.map PyData.str) = true
  | [], _ => rfl
  | x :: r, h => by
    show (PyData.canLay0 (.str x) && PyData.canLayAll0 (r.map PyData.str)) = true
    rw [lay_strs r fun y hy => h y (List.mem_cons_of_mem _ hy), h x List.mem_cons_self]
    rfl
theorem dep_strs : ∀ l : List Str, PyData.depthAll (l.map PyData.str) = 0
  | [] => rfl
  | x :: r => by
    show max (PyData.depth (.str x)) (PyData.depthAll (r.map PyData.str)) = 0
    rw [dep_strs r]
    rfl
theorem shaped_strs {l : List Str} (h : ∀ x ∈ l, PyData.canLay0 (.str x) = true) : SeqAt.shaped (.list (l.map PyData.str)) = true := by
  unfold SeqAt.shaped
  rw [show PyData.canLay0 (.list (l.map PyData.str)) = true from lay_strs l h, show PyData.depth (.list (l.map PyData.str)) = 0 + 1 by rw [← dep_strs l] <;> rfl]
  rfl
theorem eqv_nilS (l : List Str) : PyData.eqv (.list (l.map PyData.str)) (.list (([] : List Str).map PyData.str)) = decide (l = []) := by
  cases l with
  | nil => rfl
  | cons x r => rfl
theorem sign_ok {c : Nat} (h : c < 1114112) : PyData.canLay0 (.str ⟨#[c]⟩) = true := by
  have e : (#[c] : Array Nat).all (· < 0x110000) = true := by simp [h]
  exact e
theorem ok_goodT {f : Addr} {fd : FuncData} (F : Fun K "_law_good_name" "_law_good_name" s_law_good_name f fd) (T : Bi mg) : FnOk P w K mg base CX0 1 f fd ["_law_thing"] (spNameT K) := by
  refine F.ok sc_law_good_name (fun vs H Q E h => ?_) (fun cdv A outer s H vs Q E hr h => ?_)
  · obtain ⟨v, t, N, rfl, _⟩ := h
    rfl
  · obtain ⟨v, t, N, rfl, x, q⟩ := h
    refine ⟨_, (pss_cons (ps_set (i := 1) sc_law_good_name.nd rfl (.inl rfl) (pe_lst (pa_cons pe_str (pa_cons pe_str (pa_cons pe_str (pa_cons pe_str (pa_cons pe_str (pa_cons pe_str (pa_cons pe_str (pa_cons pe_str (pa_cons pe_str (pa_cons pe_str (pa_cons pe_str (pa_cons pe_str (pa_cons pe_str pa_nil)))))))))))))))
      (pss_cons (ps_if (PW.pt (pw_or (pt_not (pt_val (pe_callB call_isT (by rfl) T.isinstance (by decide +kernel) (pa_cons (pv 0) (pa_cons (pe_bltn (v := .ty "str") (u := .type "str") (by rfl) T.str (by decide +kernel) rfl) pa_nil))))) (pw_or (pt_cmpR op_lt (pe_callB call_lenX (by rfl) T.len PySem.boot_len (pa_cons (pv 0) pa_nil)) pe_int (nomark _)) (pw_or (pt_cmpR op_gt (pe_callB call_lenX (by rfl) T.len PySem.boot_len (pa_cons (pv 0) pa_nil)) pe_int (nomark _)) (pw_or1 (pt_cmpR op_in_seq (pv 0) (pv 1) (by rfl)))))))
        (pss_one (ps_ret pe_bl))
        pss_nil)
      (pss_one (ps_ret (pe_cmpR (op_eqD hr.units) (pe_lc (own := [("_law_sign", 2)]) (g := gName 2) rfl sc_law_good_name.nd (pi_str (pv 0)) (blkOk_by (own := [("_law_sign", 2)]) (N := ["_law_thing", "_law_words", "_law_sign"]) (sc := defScope s_law_good_name) (by decide +kernel)) (fun _ _ _ _ _ => (pg_name (i := 2) sc_law_good_name.nd rfl (.inl rfl))) (fun _ _ _ _ _ => (pts_one (pt_cmpR op_notIn_sign (pv 2) pe_str (by rfl)))) (fun _ _ _ _ _ => (pv 2))) (pe_lst pa_nil) (nomark _)))))), ?_⟩
    refine ⟨by show 13 ≤ sizeLine; decide, fun l hl => ?_⟩
    have s0 : Same H (L2.upd H l (.lst (wordsL.map V.str))) := same_upd hl
    have hl0 : (L2.upd H l (.lst (wordsL.map V.str))) l = some (.lst (wordsL.map V.str)) := upd_same
    refine ⟨_, rfl, v, t, N, "str", rfl, x.same s0, by simp [tyL], _, rfl, ?_⟩
    rcases str_or x with ⟨z, rfl, rfl, hz, hcs⟩ | ⟨ht, hn⟩
    · rw [show isTh "str" (.str z) = true by simp [isTh, tyn]]
      refine iteF ⟨_, rfl, .inl ⟨z, rfl, szOk (by omega), _, _, rfl, rfl, _, rfl, ite2 (fun e => ?_) (fun e => ?_)⟩⟩
      · have := q _ s0
        rw [name_len fun h => by have := of_decide_eq_true e; omega] at this
        exact iteT this
      · refine ⟨_, rfl, .inl ⟨z, rfl, szOk (by omega), _, _, rfl, rfl, _, rfl, ite2 (fun e2 => ?_) (fun e2 => ?_)⟩⟩
        · have := q _ s0
          rw [name_len fun h => by have := of_decide_eq_true e2; omega] at this
          exact iteT this
        · have h1 : 1 ≤ z.length := by
            have : ¬ ((z.length : Int) < 1) := fun k => e (decide_eq_true k)
            omega
          have h2 : z.length ≤ 8 := by
            have : ¬ ((8 : Int) < (z.length : Int)) := fun k => e2 (decide_eq_true k)
            omega
          refine ⟨_, rfl, _, rfl, l, _, rfl, .inl (SqL.of hl0), rfl, flat_str _, _, rfl, ?_⟩
          rw [inV_str]
          refine ite2 (fun e3 => ?_) (fun e3 => ?_)
          · have := q _ s0
            rw [name_word (of_decide_eq_true e3)] at this
            exact this
          have h3 : z ∉ wordsL := fun k => e3 (decide_eq_true k)
          refine ⟨_, rfl, z, rfl, fun D hD => lc_it walk_str (fun i H' => ∃ gs : List Str, Same H H' ∧ H' D = some (.lst (gs.map V.str)) ∧ gs.length ≤ i ∧ (∀ x ∈ gs, PyData.canLay0 (.str x) = true) ∧ (decide (gs = []) && (z.cps.toList.drop i).all (fun c => decide (c ∈ lettersS.cps.toList))) = z.cps.toList.all fun c => decide (c ∈ lettersS.cps.toList))
            ⟨[], s0.trans (same_upd hD), upd_same, Nat.le_refl _, fun _ h => absurd h List.not_mem_nil, rfl⟩ (fun _ _ _ _ => trivial) ?_ ?_⟩
          · have hDH : H D = none := by
              cases e : H D with
              | none => rfl
              | some o =>
                exact nomatch hD.symm.trans (s0 _ _ e)
            rintro i x H1 H2 hi ⟨gs, s1, hD1, lg, ok, eg⟩ ⟨rfl, c, hc, rfl⟩
            have hc' : c ∈ z.cps.toList := by
              rw [← Array.getElem?_toList] at hc
              exact List.mem_of_getElem? hc
            rw [all_drop hc] at eg
            refine ⟨rfl, _, rfl, c, lettersS, rfl, rfl, _, rfl, ite2 (fun e5 => ⟨_, rfl, _, hD1, szLt (by rw [List.length_map]; have : z.cps.size = z.length := rfl; omega), gs ++ [⟨#[c]⟩], smut s1 hDH, ?_, ?_, ?_, ?_⟩) (fun e5 => ⟨gs, s1, hD1, by omega, ok, ?_⟩)⟩
            · rw [upd_same, List.map_append]
              rfl
            · rw [List.length_append]
              show gs.length + 1 ≤ i + 1
              omega
            · intro y hy
              rcases List.mem_append.mp hy with hy | hy
              · exact ok y hy
              · rw [List.mem_singleton.mp hy]
                exact sign_ok (hcs c hc')
            · rw [decide_eq_false (notdec e5), Bool.false_and, Bool.and_false] at eg
              rw [← eg, decide_eq_false (by simp), Bool.false_and]
            · rw [decide_eq_true (dec_of e5), Bool.true_and] at eg
              exact eg
          · rintro H1 ⟨gs, s1, hD1, lg, ok, eg⟩
            rw [List.drop_of_length_le (by rw [Array.length_toList]; exact Nat.le_refl _)] at eg
            refine ⟨by show 0 ≤ sizeLine; decide, fun u hu => ⟨_, _, .lst (SqL.of (same_upd hu _ _ hD1)) (dpx_strs gs), .lst (SqL.of upd_same) (dpx_strs []), shaped_strs ok, shaped_strs (fun _ h => absurd h List.not_mem_nil), ?_⟩⟩
            rw [eqv_nilS]
            have := q _ (s1.trans (same_upd (o := .lst []) hu))
            rw [name_rest h1 h2 h3, ← eg] at this
            simpa using this
    · rw [ht]
      have := q _ s0
      rw [hn] at this
      exact iteT (iteT this)
end

/-! ### machines among things of any kind -/
abbrev sis_whole : Stmt := topS 8
theorem scis_whole : FnScope ["thing"] ["thing"] (defScope sis_whole) := ⟨rfl, rfl, rfl, by decide +kernel, rfl, by decide +kernel, by decide +kernel⟩
abbrev sis_number : Stmt := topS 9
theorem scis_number : FnScope ["thing", "low", "high"] ["thing", "low", "high"] (defScope sis_number) := ⟨rfl, rfl, rfl, by decide +kernel, rfl, by decide +kernel, by decide +kernel⟩
abbrev sis_set : Stmt := topS 12
theorem scis_set : FnScope ["thing", "many", "last", "one"] ["thing", "many"] (defScope sis_set) := ⟨rfl, rfl, rfl, by decide +kernel, rfl, by decide +kernel, by decide +kernel⟩
abbrev sare_names : Stmt := topS 13
theorem scare_names : FnScope ["thing", "most", "last", "name"] ["thing", "most"] (defScope sare_names) := ⟨rfl, rfl, rfl, by decide +kernel, rfl, by decide +kernel, by decide +kernel⟩
abbrev sis_machine : Stmt := topS 15
theorem scis_machine : FnScope ["thing", "steps", "marks", "many", "ahead", "names"] ["thing"] (defScope sis_machine) := ⟨rfl, rfl, rfl, by decide +kernel, rfl, by decide +kernel, by decide +kernel⟩
abbrev scheck : Stmt := topS 16
theorem sccheck : FnScope ["thing"] ["thing"] (defScope scheck) := ⟨rfl, rfl, rfl, by decide +kernel, rfl, by decide +kernel, by decide +kernel⟩
abbrev s_law_number : Stmt := topS 25
theorem sc_law_number : FnScope ["_law_thing", "_law_low", "_law_high"] ["_law_thing", "_law_low", "_law_high"] (defScope s_law_number) := ⟨rfl, rfl, rfl, by decide +kernel, rfl, by decide +kernel, by decide +kernel⟩
abbrev s_law_good_set : Stmt := topS 27
theorem sc_law_good_set : FnScope ["_law_thing", "_law_many_here", "_law_k"] ["_law_thing", "_law_many_here"] (defScope s_law_good_set) := ⟨rfl, rfl, rfl, by decide +kernel, rfl, by decide +kernel, by decide +kernel⟩
abbrev s_law_is_machine : Stmt := topS 29
theorem sc_law_is_machine : FnScope ["_law_thing", "_law_many_here", "_law_k", "_law_names_here", "_law_j"] ["_law_thing"] (defScope s_law_is_machine) := ⟨rfl, rfl, rfl, by decide +kernel, rfl, by decide +kernel, by decide +kernel⟩
abbrev s_law_refused_by_base : Stmt := topS 30
theorem sc_law_refused_by_base : FnScope ["_law_thing", "e"] ["_law_thing"] (defScope s_law_refused_by_base) := ⟨rfl, rfl, rfl, by decide +kernel, rfl, by decide +kernel, by decide +kernel⟩
def el (t : Th) (i : Nat) : Th := match t with
  | .tup ts => ts.getD i .non
  | _ => .non
def allB (p : Th → Bool) : Th → Bool
  | .tup ts => ts.all p
  | _ => false
def lenT : Th → Nat
  | .tup ts => ts.length
  | _ => 0
def items : Th → List Th
  | .tup ts => ts
  | _ => []
def wholeB : Th → Bool
  | .int _ => true
  | _ => false
def numB : Th → Int → Int → Bool
  | .int i, lo, hi => decide (lo ≤ i) && decide (i < hi)
  | _, _, _ => false
def riseN (many : Int) : Int → List Th → Bool
  | _, [] => true
  | last, .int i :: r => (decide (last + 1 ≤ i) && decide (i < many)) && riseN many i r
  | _, _ :: _ => false
def riseZ : Str → List Th → Bool
  | _, [] => true
  | last, .str z :: r => (nameB (.str z) && decide (last.cps.toList < z.cps.toList)) && riseZ z r
  | _, _ :: _ => false
def setB (t : Th) (many : Int) : Bool := rowB t 0 many && riseN many (-1) (items t)
def namesB (t : Th) (most : Int) : Bool := rowB t 0 most && riseZ (Str.ofString "") (items t)
def machB (t : Th) : Bool := rowB t 2 2 && (rowB (el t 0) 1 40 && (rowB (el t 1) (lenT (el t 0)) (lenT (el t 0)) && ((items (el t 0)).all (fun a => setB a (lenT (el t 0))) && (items (el t 1)).all (fun a => namesB a 8))))
section
variable {P : Program} {w : World} {K : PySem.W.Frag} {mg : Str → Option Value} {base : Heap}
theorem row_tup {N : Nat} {H : Hp} {v : V} {t : Th} {lo hi : Int} (x : TAt N K H v t) (h : rowB t lo hi = true) : ∃ a xs ts, v = .ref a ∧ t = .tup ts ∧ SqT K H a xs ∧ TAll N K H xs ts ∧ lo ≤ xs.length ∧ (xs.length : Int) ≤ hi := by
  rcases tup_or x with ⟨a, xs, ts, rfl, rfl, hx, hl, hall⟩ | ht
  · have h' : (decide (lo ≤ ts.length) && decide ((ts.length : Int) ≤ hi)) = true := h
    rw [Bool.and_eq_true, ← hall.len] at h'
    exact ⟨a, xs, ts, rfl, rfl, hx, hall, of_decide_eq_true h'.1, of_decide_eq_true h'.2⟩
  · rw [row_no ht] at h
    cases h
theorem el_get {N : Nat} {H : Hp} {xs : List V} {ts : List Th} {i : Nat} (a : TAll N K H xs ts) (h : i < xs.length) : ∃ v, xs[i]? = some v ∧ TAt N K H v (el (.tup ts) i) := by
  obtain ⟨t, h1, h2⟩ := a.get (i := i) (List.getElem?_eq_getElem h)
  refine ⟨_, List.getElem?_eq_getElem h, ?_⟩
  have : el (.tup ts) i = t := by
    show ts.getD i .non = t
    rw [List.getD_eq_getElem?_getD, h1]
    rfl
  rw [this]
  exact h2
theorem all_at {p : Th → Bool} {ts : List Th} {i : Nat} {t : Th} (h : ts[i]? = some t) : (ts.drop i).all p = (p t && (ts.drop (i + 1)).all p) := by
  obtain ⟨hi, rfl⟩ := List.getElem?_eq_some_iff.mp h
  rw [List.drop_eq_getElem_cons hi]
  rfl
theorem drop_at {ts : List Th} {i : Nat} {t : Th} (h : ts[i]? = some t) : ts.drop i = t :: ts.drop (i + 1) := by
  obtain ⟨hi, rfl⟩ := List.getElem?_eq_some_iff.mp h
  rw [List.drop_eq_getElem_cons hi]
def spWholeT (K : PySem.W.Frag) : Sp := fun vs H Q _ => ∃ (v : V) (t : Th) (N : Nat), vs = [v] ∧ TAt N K H v t ∧ Q (.bl (wholeB t)) H
theorem ok_wholeT {f : Addr} {fd : FuncData} (F : Fun K "is_whole" "is_whole" sis_whole f fd) (T : Bi mg) : FnOk P w K mg base CX0 1 f fd ["thing"] (spWholeT K) := by
  refine F.ok scis_whole (fun vs H Q E h => ?_) (fun cdv A outer s H vs Q E hr h => ?_)
  · obtain ⟨v, t, N, rfl, _⟩ := h
    rfl
  · obtain ⟨v, t, N, rfl, x, q⟩ := h
    refine ⟨_, (pss_one (ps_ret (pe_and (pe_callB call_isT (by rfl) T.isinstance (by decide +kernel) (pa_cons (pv 0) (pa_cons (pe_bltn (v := .ty "int") (u := .type "int") (by rfl) T.int (by decide +kernel) rfl) pa_nil))) (pe_one (pe_not (pe_callB call_isT (by rfl) T.isinstance (by decide +kernel) (pa_cons (pv 0) (pa_cons (pe_bltn (v := .ty "bool") (u := .type "bool") (by rfl) T.bool (by decide +kernel) rfl) pa_nil)))))))), ?_⟩
    refine ⟨_, rfl, v, t, N, "int", rfl, x, by simp [tyL], _, rfl, ?_⟩
    cases t with
    | int i => exact iteT ⟨_, rfl, v, .int i, N, "bool", rfl, x, by simp [tyL], _, rfl, q⟩
    | bl b => exact iteT ⟨_, rfl, v, .bl b, N, "bool", rfl, x, by simp [tyL], _, rfl, q⟩
    | _ => exact iteF q
def spNumT (K : PySem.W.Frag) : Sp := fun vs H Q _ => ∃ (v : V) (t : Th) (N : Nat) (lo hi : Int), vs = [v, .int lo, .int hi] ∧ TAt N K H v t ∧ Q (.bl (numB t lo hi)) H
theorem int_v {N : Nat} {H : Hp} {v : V} {i : Int} (x : TAt N K H v (.int i)) : v = .int i := by
  cases x
  rfl
theorem ok_numT {f : Addr} {fd : FuncData} (F : Fun K "is_number" "is_number" sis_number f fd) (T : Bi mg) (cis_whole : Cal P w K mg base 1 "is_whole" ["thing"] (spWholeT K)) : FnOk P w K mg base CX0 2 f fd ["thing", "low", "high"] (spNumT K) := by
  refine F.ok scis_number (fun vs H Q E h => ?_) (fun cdv A outer s H vs Q E hr h => ?_)
  · obtain ⟨v, t, N, lo, hi, rfl, _⟩ := h
    rfl
  · obtain ⟨v, t, N, lo, hi, rfl, x, q⟩ := h
    refine ⟨_, (pss_one (ps_ret (pe_and (pe_call cis_whole.G hr (by rfl) cis_whole.g cis_whole.kp cis_whole.b .nil pass0 (pa_cons (pv 0) pa_nil)) (pe_one (pe_chain op_le op_lt (pv 1) (pv 0) (pv 2)))))), ?_⟩
    refine ⟨_, rfl, v, t, N, rfl, x, _, rfl, ?_⟩
    cases t with
    | int i =>
      obtain rfl := int_v x
      refine iteT ⟨_, rfl, _, rfl, lo, i, rfl, rfl, _, rfl, ite2 (fun e => ?_) (fun e => ?_)⟩
      · refine ⟨_, rfl, i, hi, rfl, rfl, ?_⟩
        have q : Q (.bl (decide (lo ≤ i) && decide (i < hi))) H := q
        rw [e, Bool.true_and] at q
        exact q
      · have q : Q (.bl (decide (lo ≤ i) && decide (i < hi))) H := q
        have e' : decide (lo ≤ i) = false := by simpa using e
        rw [e', Bool.false_and] at q
        exact q
    | _ => exact iteF q
theorem ok_lnumT {f : Addr} {fd : FuncData} (F : Fun K "_law_number" "_law_number" s_law_number f fd) (T : Bi mg) : FnOk P w K mg base CX0 1 f fd ["_law_thing", "_law_low", "_law_high"] (spNumT K) := by
  refine F.ok sc_law_number (fun vs H Q E h => ?_) (fun cdv A outer s H vs Q E hr h => ?_)
  · obtain ⟨v, t, N, lo, hi, rfl, _⟩ := h
    rfl
  · obtain ⟨v, t, N, lo, hi, rfl, x, q⟩ := h
    refine ⟨_, (pss_one (ps_ret (pe_and (pe_callB call_isT (by rfl) T.isinstance (by decide +kernel) (pa_cons (pv 0) (pa_cons (pe_bltn (v := .ty "int") (u := .type "int") (by rfl) T.int (by decide +kernel) rfl) pa_nil))) (pe_and (pe_not (pe_callB call_isT (by rfl) T.isinstance (by decide +kernel) (pa_cons (pv 0) (pa_cons (pe_bltn (v := .ty "bool") (u := .type "bool") (by rfl) T.bool (by decide +kernel) rfl) pa_nil)))) (pe_one (pe_chain op_le op_lt (pv 1) (pv 0) (pv 2))))))), ?_⟩
    refine ⟨_, rfl, v, t, N, "int", rfl, x, by simp [tyL], _, rfl, ?_⟩
    cases t with
    | int i =>
      obtain rfl := int_v x
      refine iteT ⟨_, rfl, _, .int i, N, "bool", rfl, x, by simp [tyL], _, rfl, true, rfl, iteT ⟨_, rfl, _, rfl, lo, i, rfl, rfl, _, rfl, ite2 (fun e => ?_) (fun e => ?_)⟩⟩
      · refine ⟨_, rfl, i, hi, rfl, rfl, ?_⟩
        have q : Q (.bl (decide (lo ≤ i) && decide (i < hi))) H := q
        rw [e, Bool.true_and] at q
        exact q
      · have q : Q (.bl (decide (lo ≤ i) && decide (i < hi))) H := q
        have e' : decide (lo ≤ i) = false := by simpa using e
        rw [e', Bool.false_and] at q
        exact q
    | bl b => exact iteT ⟨_, rfl, v, .bl b, N, "bool", rfl, x, by simp [tyL], _, rfl, false, rfl, iteF q⟩
    | _ => exact iteF q
theorem rise_not {many last : Int} {t : Th} {r : List Th} (h : numB t (last + 1) many = false) : riseN many last (t :: r) = false := by
  cases t with
  | int i =>
    have h : (decide (last + 1 ≤ i) && decide (i < many)) = false := h
    show ((decide (last + 1 ≤ i) && decide (i < many)) && riseN many i r) = false
    rw [h]
    rfl
  | _ => rfl
theorem rise_yes {many last : Int} {t : Th} {r : List Th} (h : numB t (last + 1) many = true) : ∃ i, t = .int i ∧ last + 1 ≤ i ∧ i < many ∧ riseN many last (t :: r) = riseN many i r := by
  cases t with
  | int i =>
    have h : (decide (last + 1 ≤ i) && decide (i < many)) = true := h
    refine ⟨i, rfl, ?_, ?_, ?_⟩
    · rw [Bool.and_eq_true] at h
      exact of_decide_eq_true h.1
    · rw [Bool.and_eq_true] at h
      exact of_decide_eq_true h.2
    · show ((decide (last + 1 ≤ i) && decide (i < many)) && riseN many i r) = _
      rw [h]
      rfl
  | _ => cases h
def spSetT (K : PySem.W.Frag) : Sp := fun vs H Q _ => ∃ (v : V) (t : Th) (N : Nat) (many : Int), vs = [v, .int many] ∧ TAt N K H v t ∧ many ≤ 1000 ∧ Q (.bl (setB t many)) H
theorem ok_setT {f : Addr} {fd : FuncData} (F : Fun K "is_set" "is_set" sis_set f fd) (T : Bi mg) (cis_row : Cal P w K mg base 1 "is_row" ["thing", "least", "most"] (spRowT K)) (cis_number : Cal P w K mg base 2 "is_number" ["thing", "low", "high"] (spNumT K)) : FnOk P w K mg base CX0 3 f fd ["thing", "many"] (spSetT K) := by
  refine F.ok scis_set (fun vs H Q E h => ?_) (fun cdv A outer s H vs Q E hr h => ?_)
  · obtain ⟨v, t, N, many, rfl, _⟩ := h
    rfl
  · obtain ⟨v, t, N, many, rfl, x, hm, q⟩ := h
    refine ⟨_, (pss_cons (ps_if (pt_not (pt_val (pe_call cis_row.G (hr.mono (by decide)) (by rfl) cis_row.g cis_row.kp cis_row.b .nil pass0 (pa_cons (pv 0) (pa_cons pe_int (pa_cons (pv 1) pa_nil))))))
        (pss_one (ps_ret pe_bl))
        pss_nil)
      (pss_cons (ps_set (i := 2) scis_set.nd rfl (.inl rfl) (pe_un un_neg pe_int))
      (pss_cons (ps_for PassesOwn.never rfl (pi_tup (pv 0)) (pg_name (i := 3) scis_set.nd rfl (.inl rfl))
        (pss_cons (ps_if (pt_not (pt_val (pe_call cis_number.G hr (by rfl) cis_number.g cis_number.kp cis_number.b .nil pass0 (pa_cons (pv 3) (pa_cons (pe_op op_add (pv 2) pe_int) (pa_cons (pv 1) pa_nil))))))
          (pss_one (ps_ret pe_bl))
          pss_nil)
        (pss_one (ps_set (i := 2) scis_set.nd rfl (.inl rfl) (pv 3)))))
      (pss_one (ps_ret pe_bl))))), ?_⟩
    refine ⟨_, rfl, _, rfl, v, t, N, 0, many, rfl, x, _, rfl, ?_⟩
    unfold setB at q
    cases hrow : rowB t 0 many with
    | false =>
      rw [hrow, Bool.false_and] at q
      exact iteT q
    | true =>
      rw [hrow, Bool.true_and] at q
      obtain ⟨a, xs, ts, rfl, rfl, hx, hall, l0, l1⟩ := row_tup x hrow
      refine iteF ⟨_, rfl, _, rfl, a, rfl, ⟨_, hx⟩, for_tup (K := K) (a := a) (xs := xs) (fun i σ H' => ∃ (last : Int) (y : Option V), σ = [some (.ref a), some (.int many), some (.int last), y] ∧ H' = H ∧ riseN many (-1) ts = riseN many last (ts.drop i)) ⟨-1, none, rfl, rfl, rfl⟩ (fun i σ H' _ ⟨_, _, _, e, _⟩ => by rw [e]; exact hx) ?_ ?_⟩
      · rintro i y σ H1 hi ⟨last, z, rfl, rfl, e⟩
        obtain ⟨t1, ht1, x1⟩ := hall.get hi
        rw [drop_at ht1] at e
        refine ⟨_, rfl, _, rfl, _, _, rfl, rfl, _, rfl, y, t1, N, last + 1, many, rfl, x1, _, rfl, ?_⟩
        cases hn : numB t1 (last + 1) many with
        | false =>
          have q : Q (.bl (riseN many (-1) ts)) H1 := q
          rw [e, rise_not hn] at q
          exact iteT q
        | true =>
          obtain ⟨j, rfl, _, _, e2⟩ := rise_yes (r := ts.drop (i + 1)) hn
          obtain rfl := int_v x1
          exact iteF ⟨_, rfl, j, _, rfl, rfl, e.trans e2⟩
      · rintro σ H1 ⟨last, z, rfl, rfl, e⟩
        rw [hall.len, List.drop_of_length_le (Nat.le_refl _)] at e
        have q : Q (.bl (riseN many (-1) ts)) H1 := q
        rw [e] at q
        exact q
theorem ok_lsetT {f : Addr} {fd : FuncData} (F : Fun K "_law_good_set" "_law_good_set" s_law_good_set f fd) (T : Bi mg) (c_law_tuple : Cal P w K mg base 1 "_law_tuple" ["_law_thing", "_law_least", "_law_most"] (spRowT K)) (c_law_number : Cal P w K mg base 1 "_law_number" ["_law_thing", "_law_low", "_law_high"] (spNumT K)) : FnOk P w K mg base CX0 2 f fd ["_law_thing", "_law_many_here"] (spSetT K) := by
  refine F.ok sc_law_good_set (fun vs H Q E h => ?_) (fun cdv A outer s H vs Q E hr h => ?_)
  · obtain ⟨v, t, N, many, rfl, _⟩ := h
    rfl
  · obtain ⟨v, t, N, many, rfl, x, hm, q⟩ := h
    refine ⟨_, (pss_cons (ps_if (pt_not (pt_val (pe_call c_law_tuple.G hr (by rfl) c_law_tuple.g c_law_tuple.kp c_law_tuple.b .nil pass0 (pa_cons (pv 0) (pa_cons pe_int (pa_cons (pv 1) pa_nil))))))
        (pss_one (ps_ret pe_bl))
        pss_nil)
      (pss_cons (ps_for PassesOwn.never rfl (pi_range1 (by rfl) T.range (pa_cons (pe_callB call_lenX (by rfl) T.len PySem.boot_len (pa_cons (pv 0) pa_nil)) pa_nil)) (pg_name (i := 2) sc_law_good_set.nd rfl (.inl rfl))
        (pss_one (ps_if (PW.pt (pw_or (pt_not (pt_val (pe_call c_law_number.G hr (by rfl) c_law_number.g c_law_number.kp c_law_number.b .nil pass0 (pa_cons (pe_ix ix_tup (pv 0) (pv 2) (fun _ _ => rfl)) (pa_cons pe_int (pa_cons (pv 1) pa_nil)))))) (pw_or1 (PW.pt (pw_and (pt_cmpR op_gt (pv 2) pe_int (nomark _)) (pw_and1 (pt_cmpR op_ge (pe_ix ix_tup (pv 0) (pe_op op_sub (pv 2) pe_int) (fun _ _ => rfl)) (pe_ix ix_tup (pv 0) (pv 2) (fun _ _ => rfl)) (nomark _))))))))
          (pss_one (ps_ret pe_bl))
          pss_nil)))
      (pss_one (ps_ret pe_bl)))), ?_⟩
    refine ⟨_, rfl, _, rfl, v, t, N, 0, many, rfl, x, _, rfl, ?_⟩
    unfold setB at q
    cases hrow : rowB t 0 many with
    | false =>
      rw [hrow, Bool.false_and] at q
      exact iteT q
    | true =>
      rw [hrow, Bool.true_and] at q
      obtain ⟨a, xs, ts, rfl, rfl, hx, hall, l0, l1⟩ := row_tup x hrow
      have q : Q (.bl (riseN many (-1) ts)) H := q
      refine iteF ⟨_, rfl, .inr ⟨a, xs, rfl, .inr hx, _, rfl, by omega, by omega, for_range (lo := 0) (n := ((xs.length : Nat) : Int).toNat) (fun i σ H' => ∃ (last : Int) (y : Option V), σ = [some (.ref a), some (.int many), y] ∧ H' = H ∧ riseN many (-1) ts = riseN many last (ts.drop i) ∧ (i = 0 ∧ last = -1 ∨ ∃ j, i = j + 1 ∧ ts[j]? = some (.int last) ∧ 0 ≤ last)) ⟨-1, none, rfl, rfl, rfl, .inl ⟨rfl, rfl⟩⟩ ?_ ?_⟩⟩
      · rintro i σ H1 hi ⟨last, z, rfl, rfl, e, hlast⟩
        have hi' : i < xs.length := by omega
        obtain ⟨t1, ht1, x1⟩ := hall.get (List.getElem?_eq_getElem hi')
        have gi := List.getElem?_eq_getElem hi'
        rw [drop_at ht1] at e
        rw [Int.zero_add]
        refine ⟨_, rfl, _, rfl, a, _, _, xs[i], rfl, rfl, hx, at_of rfl gi, _, rfl, xs[i], t1, N, 0, many, rfl, x1, _, rfl, ?_⟩
        cases hn : numB t1 0 many with
        | false =>
          rw [e, rise_not (by
            cases t1 with
            | int j =>
              have hn : (decide (0 ≤ j) && decide (j < many)) = false := hn
              show (decide (last + 1 ≤ j) && decide (j < many)) = false
              rw [Bool.and_eq_false_iff] at hn ⊢
              rcases hn with h | h
              · have h : ¬ 0 ≤ j := of_decide_eq_false h
                left
                refine decide_eq_false fun k => h ?_
                rcases hlast with ⟨_, h1⟩ | ⟨_, _, _, h1⟩ <;> omega
              · exact .inr h
            | _ => rfl)] at q
          exact iteT (iteT q)
        | true =>
          obtain ⟨j, rfl, j0, j1, _⟩ := rise_yes (last := -1) (r := []) hn
          have ej := int_v x1
          rw [ej] at gi
          have stay : last + 1 ≤ j → ∃ (last' : Int), riseN many (-1) ts = riseN many last' (ts.drop (i + 1)) ∧ (i + 1 = 0 ∧ last' = -1 ∨ ∃ k, i + 1 = k + 1 ∧ ts[k]? = some (.int last') ∧ 0 ≤ last') := fun h => by
            obtain ⟨j', ej', _, _, e2⟩ := rise_yes (many := many) (last := last) (t := .int j) (r := ts.drop (i + 1)) (by
              show (decide (last + 1 ≤ j) && decide (j < many)) = true
              rw [decide_eq_true h, decide_eq_true j1]
              rfl)
            cases ej'
            exact ⟨j, e.trans e2, .inr ⟨i, rfl, ht1, by omega⟩⟩
          have fall : ¬ (last + 1 ≤ j) → riseN many (-1) ts = false := fun h => by
            rw [e, rise_not (by
              show (decide (last + 1 ≤ j) && decide (j < many)) = false
              rw [decide_eq_false h]
              rfl)]
          refine iteF ⟨_, rfl, _, _, rfl, rfl, _, rfl, ite2 (fun e1 => ?_) (fun e1 => iteF ?_)⟩
          · have i0 : 0 < i := by
              have := of_decide_eq_true e1
              omega
            rcases hlast with ⟨h0, _⟩ | ⟨j2, h0, hl2, hl0⟩
            · omega
            · have gp : xs[j2]? = some (.int last) := by
                have hj2 : j2 < xs.length := by omega
                obtain ⟨tp, h1, xp⟩ := hall.get (List.getElem?_eq_getElem hj2)
                rw [hl2] at h1
                cases h1
                rw [List.getElem?_eq_getElem hj2, int_v xp]
              refine ⟨_, rfl, _, rfl, _, _, rfl, rfl, a, _, _, .int last, rfl, rfl, hx, at_of (j := j2) (by omega) gp, _, rfl, _, rfl, a, _, _, .int j, rfl, rfl, hx, at_of rfl gi, _, _, rfl, rfl, _, rfl, ite2 (fun e2 => ?_) (fun e2 => ?_)⟩
              · rw [fall (by have := of_decide_eq_true e2; omega)] at q
                exact q
              · obtain ⟨l', a1, a2⟩ := stay (by
                  have : ¬ (j ≤ last) := fun k => e2 (decide_eq_true k)
                  omega)
                exact ⟨l', _, rfl, rfl, a1, a2⟩
          · rcases hlast with ⟨h0, hl⟩ | ⟨j2, h0, _⟩
            · obtain ⟨l', a1, a2⟩ := stay (by omega)
              exact ⟨l', _, rfl, rfl, a1, a2⟩
            · exact absurd (decide_eq_true (show (0 : Int) < (i : Int) by omega)) e1
      · rintro σ H1 ⟨last, z, rfl, rfl, e, _⟩
        rw [Int.toNat_natCast, hall.len, List.drop_of_length_le (Nat.le_refl _)] at e
        rw [e] at q
        exact q
end

section
variable {P : Program} {w : World} {K : PySem.W.Frag} {mg : Str → Option Value} {base : Heap}
theorem nameB_str {t : Th} (h : nameB t = true) : ∃ z, t = .str z := by
  cases t with
  | str z => exact ⟨z, rfl⟩
  | _ => cases h
theorem str_v {N : Nat} {H : Hp} {v : V} {z : Str} (x : TAt N K H v (.str z)) : v = .str z := by
  cases x
  rfl
theorem riseZ_no {last : Str} {t : Th} {r : List Th} (h : nameB t = false) : riseZ last (t :: r) = false := by
  cases t with
  | str z =>
    show ((nameB (.str z) && decide (last.cps.toList < z.cps.toList)) && riseZ z r) = false
    rw [h]
    rfl
  | _ => rfl
theorem riseZ_str {last z : Str} {r : List Th} (h : nameB (.str z) = true) : riseZ last (.str z :: r) = (decide (last.cps.toList < z.cps.toList) && riseZ z r) := by
  show ((nameB (.str z) && decide (last.cps.toList < z.cps.toList)) && riseZ z r) = _
  rw [h, Bool.true_and]
theorem empty_lt {z : Str} (h : nameB (.str z) = true) : (Str.ofString "").cps.toList < z.cps.toList := by
  have e0 : (Str.ofString "").cps.toList = [] := by decide +kernel
  rw [e0]
  have l1 : 1 ≤ z.length := by
    rw [name_eq, Bool.and_eq_true, Bool.and_eq_true, Bool.and_eq_true] at h
    exact of_decide_eq_true h.1.1.1
  have l2 : z.cps.toList.length = z.length := by simp [Str.length]
  cases e : z.cps.toList with
  | nil =>
    rw [e] at l2
    simp at l2
    omega
  | cons c r => exact List.Lex.nil
def spNamesT (K : PySem.W.Frag) : Sp := fun vs H Q _ => ∃ (v : V) (t : Th) (N : Nat) (most : Int), vs = [v, .int most] ∧ TAt N K H v t ∧ ∀ H', Same H H' → Q (.bl (namesB t most)) H'
theorem ok_namesT {f : Addr} {fd : FuncData} (F : Fun K "are_names" "are_names" sare_names f fd) (cis_row : Cal P w K mg base 1 "is_row" ["thing", "least", "most"] (spRowT K)) (cis_name : Cal P w K mg base 1 "is_name" ["thing"] (spNameT K)) :
    FnOk P w K mg base CX0 2 f fd ["thing", "most"] (spNamesT K) := by
  refine F.ok scare_names (fun vs H Q E h => ?_) (fun cdv A outer s H vs Q E hr h => ?_)
  · obtain ⟨v, t, N, most, rfl, _⟩ := h
    rfl
  · obtain ⟨v, t, N, most, rfl, x, q⟩ := h
    refine ⟨_, (pss_cons (ps_if (pt_not (pt_val (pe_call cis_row.G hr (by rfl) cis_row.g cis_row.kp cis_row.b .nil pass0 (pa_cons (pv 0) (pa_cons pe_int (pa_cons (pv 1) pa_nil))))))
        (pss_one (ps_ret pe_bl))
        pss_nil)
      (pss_cons (ps_set (i := 2) scare_names.nd rfl (.inl rfl) pe_str)
      (pss_cons (ps_for PassesOwn.never rfl (pi_tup (pv 0)) (pg_name (i := 3) scare_names.nd rfl (.inl rfl))
        (pss_cons (ps_if (PW.pt (pw_or (pt_not (pt_val (pe_call cis_name.G hr (by rfl) cis_name.g cis_name.kp cis_name.b .nil pass0 (pa_cons (pv 3) pa_nil)))) (pw_or1 (pt_cmpR op_le_str (pv 3) (pv 2) (nomark _)))))
          (pss_one (ps_ret pe_bl))
          pss_nil)
        (pss_one (ps_set (i := 2) scare_names.nd rfl (.inl rfl) (pv 3)))))
      (pss_one (ps_ret pe_bl))))), ?_⟩
    refine ⟨_, rfl, _, rfl, v, t, N, 0, most, rfl, x, _, rfl, ?_⟩
    cases hrow : rowB t 0 most with
    | false =>
      have := q H (Same.refl _)
      unfold namesB at this
      rw [hrow, Bool.false_and] at this
      exact iteT this
    | true =>
      obtain ⟨a, xs, ts, rfl, rfl, hx, hall, l0, l1⟩ := row_tup x hrow
      have eq0 : namesB (.tup ts) most = riseZ (Str.ofString "") ts := by
        unfold namesB
        rw [hrow, Bool.true_and]
        rfl
      rw [eq0] at q
      refine iteF ⟨_, rfl, a, rfl, ⟨_, hx⟩, for_tup (K := K) (a := a) (xs := xs) (fun i σ H' => ∃ (last : Str) (y : Option V), σ = [some (.ref a), some (.int most), some (.str last), y] ∧ Same H H' ∧ riseZ (Str.ofString "") ts = riseZ last (ts.drop i)) ⟨_, none, rfl, Same.refl _, rfl⟩ (fun i σ H' _ ⟨_, _, _, s1, _⟩ => ssqt s1 hx) ?_ ?_⟩
      · rintro i y σ H1 hi ⟨last, z, rfl, s1, e⟩
        obtain ⟨t1, ht1, x1⟩ := hall.get hi
        rw [drop_at ht1] at e
        refine ⟨_, rfl, y, t1, N, rfl, x1.same s1, fun H2 s2 => ⟨_, rfl, ?_⟩⟩
        cases hn : nameB t1 with
        | false =>
          have := q H2 (s1.trans s2)
          rw [e, riseZ_no hn] at this
          exact iteT (iteT this)
        | true =>
          obtain ⟨n, rfl⟩ := nameB_str hn
          obtain rfl := str_v x1
          rw [riseZ_str hn] at e
          refine iteF ⟨_, rfl, _, rfl, n, last, rfl, rfl, _, rfl, ite2 (fun e1 => ?_) (fun e1 => ?_)⟩
          · have := q H2 (s1.trans s2)
            rw [e, decide_eq_false (notdec e1), Bool.false_and] at this
            exact this
          · rw [decide_eq_true (dec_of e1), Bool.true_and] at e
            exact ⟨_, rfl, n, _, rfl, s1.trans s2, e⟩
      · rintro σ H1 ⟨last, z, rfl, s1, e⟩
        rw [hall.len, List.drop_of_length_le (Nat.le_refl _)] at e
        have := q H1 s1
        rw [e] at this
        exact this
def spMachT (K : PySem.W.Frag) : Sp := fun vs H Q _ => ∃ (v : V) (t : Th) (N : Nat), vs = [v] ∧ TAt N K H v t ∧ ∀ H', Same H H' → Q (.bl (machB t)) H'
theorem ok_machT {f : Addr} {fd : FuncData} (F : Fun K "is_machine" "is_machine" sis_machine f fd) (T : Bi mg) (cis_row : Cal P w K mg base 1 "is_row" ["thing", "least", "most"] (spRowT K)) (cis_set : Cal P w K mg base 3 "is_set" ["thing", "many"] (spSetT K)) (care_names : Cal P w K mg base 2 "are_names" ["thing", "most"] (spNamesT K)) :
    FnOk P w K mg base CX0 4 f fd ["thing"] (spMachT K) := by
  refine F.ok scis_machine (fun vs H Q E h => ?_) (fun cdv A outer s H vs Q E hr h => ?_)
  · obtain ⟨v, t, N, rfl, _⟩ := h
    rfl
  · obtain ⟨v, t, N, rfl, x, q⟩ := h
    refine ⟨_, (pss_cons (ps_if (PW.pt (pw_or (pt_not (pt_val (pe_call cis_row.G (hr.mono (by decide)) (by rfl) cis_row.g cis_row.kp cis_row.b .nil pass0 (pa_cons (pv 0) (pa_cons pe_int (pa_cons pe_int pa_nil)))))) (pw_or1 (pt_not (pt_val (pe_call cis_row.G (hr.mono (by decide)) (by rfl) cis_row.g cis_row.kp cis_row.b .nil pass0 (pa_cons (pe_ix ix_tup (pv 0) pe_int (fun _ _ => rfl)) (pa_cons pe_int (pa_cons pe_int pa_nil)))))))))
        (pss_one (ps_ret pe_bl))
        pss_nil)
      (pss_cons (ps_asg (pv 0) (pg_tup rfl (pgs_cons (pg_name (i := 1) scis_machine.nd rfl (.inl rfl)) (pgs_cons (pg_name (i := 2) scis_machine.nd rfl (.inl rfl)) pgs_nil))))
      (pss_cons (ps_set (i := 3) scis_machine.nd rfl (.inl rfl) (pe_callB call_len_seq (by rfl) T.len PySem.boot_len (pa_cons (pv 1) pa_nil)))
      (pss_cons (ps_if (pt_not (pt_val (pe_call cis_row.G (hr.mono (by decide)) (by rfl) cis_row.g cis_row.kp cis_row.b .nil pass0 (pa_cons (pv 2) (pa_cons (pv 3) (pa_cons (pv 3) pa_nil))))))
        (pss_one (ps_ret pe_bl))
        pss_nil)
      (pss_cons (ps_for PassesOwn.never rfl (pi_tup (pv 1)) (pg_name (i := 4) scis_machine.nd rfl (.inl rfl))
        (pss_one (ps_if (pt_not (pt_val (pe_call cis_set.G hr (by rfl) cis_set.g cis_set.kp cis_set.b .nil pass0 (pa_cons (pv 4) (pa_cons (pv 3) pa_nil)))))
          (pss_one (ps_ret pe_bl))
          pss_nil)))
      (pss_cons (ps_for PassesOwn.never rfl (pi_tup (pv 2)) (pg_name (i := 5) scis_machine.nd rfl (.inl rfl))
        (pss_one (ps_if (pt_not (pt_val (pe_call care_names.G (hr.mono (by decide)) (by rfl) care_names.g care_names.kp care_names.b .nil pass0 (pa_cons (pv 5) (pa_cons pe_int pa_nil)))))
          (pss_one (ps_ret pe_bl))
          pss_nil)))
      (pss_one (ps_ret pe_bl)))))))), ?_⟩
    refine ⟨_, rfl, v, t, N, 2, 2, rfl, x, _, rfl, ?_⟩
    have q0 := q H (Same.refl _)
    cases hr1 : rowB t 2 2 with
    | false =>
      unfold machB at q0
      rw [hr1, Bool.false_and] at q0
      exact iteT (iteT q0)
    | true =>
      obtain ⟨m, ys, us, rfl, rfl, hy, hall, m0, m1⟩ := row_tup x hr1
      obtain ⟨v0, gv0, xv0⟩ := el_get (i := 0) hall (by omega)
      obtain ⟨v1, gv1, xv1⟩ := el_get (i := 1) hall (by omega)
      have e0 : machB (.tup us) = (rowB (el (.tup us) 0) 1 40 && (rowB (el (.tup us) 1) (lenT (el (.tup us) 0)) (lenT (el (.tup us) 0)) && ((items (el (.tup us) 0)).all (fun a => setB a (lenT (el (.tup us) 0))) && (items (el (.tup us) 1)).all (fun a => namesB a 8)))) := by
        unfold machB
        rw [hr1, Bool.true_and]
      rw [e0] at q q0
      obtain rfl : ys = [v0, v1] := by
        match ys, m0, m1, gv0, gv1 with
        | [p, r], _, _, h0, h1 => rw [Option.some.inj h0, Option.some.inj h1]
        | [], h, _, _, _ => exact absurd h (by decide)
        | [_], h, _, _, _ => exact absurd h (by show ¬ (2 : Int) ≤ 1; decide)
        | _ :: _ :: _ :: r, _, h, _, _ =>
          rw [List.length_cons, List.length_cons, List.length_cons] at h
          omega
      refine iteF ⟨_, rfl, m, _, 0, v0, rfl, rfl, hy, at_of (j := 0) rfl gv0, v0, _, N, 1, 40, rfl, xv0, _, rfl, ?_⟩
      generalize el (.tup us) 0 = ta at *
      generalize el (.tup us) 1 = tb at *
      cases hr2 : rowB ta 1 40 with
      | false =>
        rw [hr2, Bool.false_and] at q0
        exact iteT q0
      | true =>
        obtain ⟨a, as, ats, rfl, rfl, ha, halla, a0, a1⟩ := row_tup xv0 hr2
        rw [hr2] at q q0
        simp only [Bool.true_and] at q q0
        have el0 : lenT (.tup ats) = as.length := halla.len.symm
        rw [el0] at q q0
        refine iteF ⟨_, rfl, m, _, rfl, hy, rfl, _, _, rfl, _, _, rfl, rfl, _, rfl, a, as, rfl, .inr ha, _, rfl, _, rfl, _, rfl, v1, tb, N, _, _, rfl, xv1, _, rfl, ?_⟩
        cases hr3 : rowB tb as.length as.length with
        | false =>
          rw [hr3, Bool.false_and] at q0
          exact iteT q0
        | true =>
          obtain ⟨b, bs, bts, rfl, rfl, hb, hallb, b0, b1⟩ := row_tup xv1 hr3
          rw [hr3] at q q0
          simp only [Bool.true_and] at q q0
          have q : ∀ H', Same H H' → Q (.bl (ats.all (fun a => setB a as.length) && bts.all (fun a => namesB a 8))) H' := q
          refine iteF ⟨_, rfl, a, rfl, ⟨_, ha⟩, for_tup (K := K) (a := a) (xs := as) (fun i σ H' => ∃ y : Option V, σ = [some (.ref m), some (.ref a), some (.ref b), some (.int as.length), y, none] ∧ H' = H ∧ ats.all (fun a => setB a as.length) = (ats.drop i).all (fun a => setB a as.length)) ⟨none, rfl, rfl, rfl⟩ (fun i σ H' _ ⟨_, _, e, _⟩ => by rw [e]; exact ha) ?_ ?_⟩
          · rintro i y σ H1 hi ⟨z, rfl, rfl, e⟩
            obtain ⟨t1, ht1, x1⟩ := halla.get hi
            rw [all_at ht1] at e
            refine ⟨_, rfl, _, rfl, y, t1, N, _, rfl, x1, by omega, _, rfl, ?_⟩
            cases hs : setB t1 as.length with
            | false =>
              have := q H1 (Same.refl _)
              rw [e, hs] at this
              exact iteT this
            | true =>
              rw [hs, Bool.true_and] at e
              exact iteF ⟨_, rfl, rfl, e⟩
          rintro σ H1 ⟨z, rfl, rfl, e⟩
          rw [show ats.drop as.length = [] from List.drop_of_length_le (by rw [halla.len]; exact Nat.le_refl _)] at e
          have q : ∀ H', Same H1 H' → Q (.bl (bts.all fun a => namesB a 8)) H' := fun H' s => by
            have := q H' s
            rw [e] at this
            exact this
          refine ⟨_, rfl, b, rfl, ⟨_, hb⟩, for_tup (K := K) (a := b) (xs := bs) (fun i σ H' => ∃ y : Option V, σ = [some (.ref m), some (.ref a), some (.ref b), some (.int as.length), z, y] ∧ Same H1 H' ∧ bts.all (fun a => namesB a 8) = (bts.drop i).all (fun a => namesB a 8)) ⟨none, rfl, Same.refl _, rfl⟩ (fun i σ H' _ ⟨_, _, s1, _⟩ => ssqt s1 hb) ?_ ?_⟩
          · rintro i y σ H2 hi ⟨z2, rfl, s1, e2⟩
            obtain ⟨t1, ht1, x1⟩ := hallb.get hi
            rw [all_at ht1] at e2
            refine ⟨_, rfl, y, t1, N, 8, rfl, x1.same s1, fun H3 s3 => ⟨_, rfl, ?_⟩⟩
            cases hs : namesB t1 8 with
            | false =>
              have := q H3 (s1.trans s3)
              rw [e2, hs] at this
              exact iteT this
            | true =>
              rw [hs, Bool.true_and] at e2
              exact iteF ⟨_, rfl, s1.trans s3, e2⟩
          · rintro σ H2 ⟨z2, rfl, s1, e2⟩
            rw [hallb.len, List.drop_of_length_le (Nat.le_refl _)] at e2
            have := q H2 s1
            rw [e2] at this
            exact this
def spCk (K : PySem.W.Frag) (cE : Addr) : Sp := fun vs H Q E => ∃ (v : V) (t : Th) (N : Nat), vs = [v] ∧ TAt N K H v t ∧ (machB t = true → ∀ H', Same H H' → Q (.bl true) H') ∧ (machB t = false → ∀ H', Same H H' → E (.ref cE) none H')
theorem ok_ck {f : Addr} {fd : FuncData} (F : Fun K "check" "check" scheck f fd) (T : Bi mg) (S : XSet K mg "NoMachine" "NoWishes" "NoPaper") (cis_machine : Cal P w K mg base 4 "is_machine" ["thing"] (spMachT K)) :
    FnOk P w K mg base (L2.CX P w) 5 f fd ["thing"] (spCk K S.R) := by
  have xNoMachine := S.xR
  have rE := S.r
  refine F.okX sccheck (fun vs H Q E h => ?_) (fun cdv A outer s H vs Q E hr h => ?_)
  · obtain ⟨v, t, N, rfl, _⟩ := h
    rfl
  · obtain ⟨v, t, N, rfl, x, q1, q2⟩ := h
    refine ⟨_, (pss_cons (ps_if (pt_not (pt_val (pe_call cis_machine.G hr (by rfl) cis_machine.g cis_machine.kp cis_machine.b .nil pass0 (pa_cons (pv 0) pa_nil))))
        (pss_one (ps_raise rfl (takes_of rfl rfl rfl rfl) (pmk_own PySem.F.excBase_ValueError rE.x xNoMachine.g xNoMachine.k (raises_own xNoMachine.b xNoMachine.t) rfl)))
        pss_nil)
      (pss_one (ps_ret pe_bl))), ?_⟩
    refine ⟨_, rfl, v, t, N, rfl, x, fun H1 s1 => ⟨_, rfl, ?_⟩⟩
    cases hm : machB t with
    | false => exact iteT (q2 hm H1 s1)
    | true => exact iteF (q1 hm H1 s1)
def spRef (K : PySem.W.Frag) (good : Th → Bool) : Sp := fun vs H Q _ => ∃ (v : V) (t : Th) (N : Nat), vs = [v] ∧ TAt N K H v t ∧ good t = false ∧ ∀ H', Q (.bl true) H'
theorem ok_ref {f : Addr} {fd : FuncData} (F : Fun K "_law_refused_by_base" "_law_refused_by_base" s_law_refused_by_base f fd) (T : Bi mg) (S : XSet K mg "NoMachine" "NoWishes" "NoPaper") (ccheck : CalX P w K mg base 5 "check" ["thing"] (spCk K S.R)) :
    FnOk P w K mg base CX0 6 f fd ["_law_thing"] (spRef K machB) := by
  have xTreeError := S.xT
  have xNoWishes := S.xA
  have xNoPaper := S.xB
  have rE := S.r
  refine F.ok sc_law_refused_by_base (fun vs H Q E h => ?_) (fun cdv A outer s H vs Q E hr h => ?_)
  · obtain ⟨v, t, N, rfl, _⟩ := h
    rfl
  · obtain ⟨v, t, N, rfl, x, bad, q⟩ := h
    refine ⟨_, (pss_cons (ps_try_as (i := 1) rfl rfl sc_law_refused_by_base.nd rfl rfl ⟨rfl, by decide, .inl xTreeError.g⟩ takes0 (fun W pn xe tk _ => (pss_one (ps_expr (pe_callS ccheck.G hr (by rfl) ccheck.g ccheck.kp ccheck.b (fun σ => passAt tk σ) (pa_cons (pv 0) pa_nil))))) (fun a oe cls d pn hz hf => pss_when (p := cls = .ref S.R ∧ d = none) (fun hp => (pss_one (ps_ret (pe_and (pe_callB (call_isE rE.E (zc_of hz hp) hf) (by rfl) T.isinstance (by decide +kernel) (pa_cons (pv 1) (pa_cons (pe_bltn (v := .ty "ValueError") (u := .type "ValueError") (by rfl) T.ValueError (by decide +kernel) rfl) pa_nil))) (pe_and (pe_not (pe_callB (call_isE rE.E (zc_of hz hp) hf) (by rfl) T.isinstance (by decide +kernel) (pa_cons (pv 1) (pa_cons (pe_glob rfl xNoWishes.g xNoWishes.r) pa_nil)))) (pe_one (pe_not (pe_callB (call_isE rE.E (zc_of hz hp) hf) (by rfl) T.isinstance (by decide +kernel) (pa_cons (pv 1) (pa_cons (pe_glob rfl xNoPaper.g xNoPaper.r) pa_nil))))))))))))
      (pss_one (ps_ret pe_bl))), ?_⟩
    refine ⟨_, rfl, v, t, N, rfl, x, fun h => absurd h (by rw [bad]; decide), fun _ H1 s1 => ⟨true, xTreeError.exm S.sT, fun _ a ha => ⟨⟨rfl, rfl⟩, ?_⟩, fun q => Bool.noConfusion q⟩⟩
    refine ⟨_, rfl, .ty "ValueError", .type "ValueError", true, rfl, fun u h => h, rE.kit, true, rfl, iteT ?_⟩
    refine ⟨_, rfl, _, _, false, rfl, fun u h => h, xNoWishes.kit rE S.sA, _, rfl, true, rfl, iteT ?_⟩
    exact ⟨_, rfl, _, _, false, rfl, fun u h => h, xNoPaper.kit rE S.sB, _, rfl, q _⟩
theorem ok_lmachT {f : Addr} {fd : FuncData} (F : Fun K "_law_is_machine" "_law_is_machine" s_law_is_machine f fd) (T : Bi mg) (c_law_tuple : Cal P w K mg base 1 "_law_tuple" ["_law_thing", "_law_least", "_law_most"] (spRowT K)) (c_law_good_set : Cal P w K mg base 2 "_law_good_set" ["_law_thing", "_law_many_here"] (spSetT K))
    (c_law_good_name : Cal P w K mg base 1 "_law_good_name" ["_law_thing"] (spNameT K)) : FnOk P w K mg base CX0 3 f fd ["_law_thing"] (spMachT K) := by
  refine F.ok sc_law_is_machine (fun vs H Q E h => ?_) (fun cdv A outer s H vs Q E hr h => ?_)
  · obtain ⟨v, t, N, rfl, _⟩ := h
    rfl
  · obtain ⟨v, t, N, rfl, x, q⟩ := h
    refine ⟨_, (pss_cons (ps_if (PW.pt (pw_or (pt_not (pt_val (pe_call c_law_tuple.G (hr.mono (by decide)) (by rfl) c_law_tuple.g c_law_tuple.kp c_law_tuple.b .nil pass0 (pa_cons (pv 0) (pa_cons pe_int (pa_cons pe_int pa_nil)))))) (pw_or1 (pt_not (pt_val (pe_call c_law_tuple.G (hr.mono (by decide)) (by rfl) c_law_tuple.g c_law_tuple.kp c_law_tuple.b .nil pass0 (pa_cons (pe_ix ix_tup (pv 0) pe_int (fun _ _ => rfl)) (pa_cons pe_int (pa_cons pe_int pa_nil)))))))))
        (pss_one (ps_ret pe_bl))
        pss_nil)
      (pss_cons (ps_set (i := 1) sc_law_is_machine.nd rfl (.inl rfl) (pe_callB call_lenX (by rfl) T.len PySem.boot_len (pa_cons (pe_ix ix_tup (pv 0) pe_int (fun _ _ => rfl)) pa_nil)))
      (pss_cons (ps_if (pt_not (pt_val (pe_call c_law_tuple.G (hr.mono (by decide)) (by rfl) c_law_tuple.g c_law_tuple.kp c_law_tuple.b .nil pass0 (pa_cons (pe_ix ix_tup (pv 0) pe_int (fun _ _ => rfl)) (pa_cons (pv 1) (pa_cons (pv 1) pa_nil))))))
        (pss_one (ps_ret pe_bl))
        pss_nil)
      (pss_cons (ps_for PassesOwn.never rfl (pi_range1 (by rfl) T.range (pa_cons (pv 1) pa_nil)) (pg_name (i := 2) sc_law_is_machine.nd rfl (.inl rfl))
        (pss_cons (ps_if (PW.pt (pw_or (pt_not (pt_val (pe_call c_law_good_set.G hr (by rfl) c_law_good_set.g c_law_good_set.kp c_law_good_set.b .nil pass0 (pa_cons (pe_ix ix_tup (pe_ix ix_tup (pv 0) pe_int (fun _ _ => rfl)) (pv 2) (fun _ _ => rfl)) (pa_cons (pv 1) pa_nil))))) (pw_or1 (pt_not (pt_val (pe_call c_law_tuple.G (hr.mono (by decide)) (by rfl) c_law_tuple.g c_law_tuple.kp c_law_tuple.b .nil pass0 (pa_cons (pe_ix ix_tup (pe_ix ix_tup (pv 0) pe_int (fun _ _ => rfl)) (pv 2) (fun _ _ => rfl)) (pa_cons pe_int (pa_cons pe_int pa_nil)))))))))
          (pss_one (ps_ret pe_bl))
          pss_nil)
        (pss_cons (ps_set (i := 3) sc_law_is_machine.nd rfl (.inl rfl) (pe_ix ix_tup (pe_ix ix_tup (pv 0) pe_int (fun _ _ => rfl)) (pv 2) (fun _ _ => rfl)))
        (pss_one (ps_for PassesOwn.never rfl (pi_range1 (by rfl) T.range (pa_cons (pe_callB call_lenX (by rfl) T.len PySem.boot_len (pa_cons (pv 3) pa_nil)) pa_nil)) (pg_name (i := 4) sc_law_is_machine.nd rfl (.inl rfl))
          (pss_one (ps_if (PW.pt (pw_or (pt_not (pt_val (pe_call c_law_good_name.G (hr.mono (by decide)) (by rfl) c_law_good_name.g c_law_good_name.kp c_law_good_name.b .nil pass0 (pa_cons (pe_ix ix_tup (pv 3) (pv 4) (fun _ _ => rfl)) pa_nil)))) (pw_or1 (PW.pt (pw_and (pt_cmpR op_gt (pv 4) pe_int (nomark _)) (pw_and1 (pt_cmpR op_ge_str (pe_ix ix_tup (pv 3) (pe_op op_sub (pv 4) pe_int) (fun _ _ => rfl)) (pe_ix ix_tup (pv 3) (pv 4) (fun _ _ => rfl)) (nomark _))))))))
            (pss_one (ps_ret pe_bl))
            pss_nil)))))))
      (pss_one (ps_ret pe_bl)))))), ?_⟩
    refine ⟨_, rfl, v, t, N, 2, 2, rfl, x, _, rfl, ?_⟩
    have q0 := q H (Same.refl _)
    cases hr1 : rowB t 2 2 with
    | false =>
      unfold machB at q0
      rw [hr1, Bool.false_and] at q0
      exact iteT (iteT q0)
    | true =>
      obtain ⟨m, ys, us, rfl, rfl, hy, hall, m0, m1⟩ := row_tup x hr1
      obtain ⟨v0, gv0, xv0⟩ := el_get (i := 0) hall (by omega)
      obtain ⟨v1, gv1, xv1⟩ := el_get (i := 1) hall (by omega)
      have e0 : machB (.tup us) = (rowB (el (.tup us) 0) 1 40 && (rowB (el (.tup us) 1) (lenT (el (.tup us) 0)) (lenT (el (.tup us) 0)) && ((items (el (.tup us) 0)).all (fun a => setB a (lenT (el (.tup us) 0))) && (items (el (.tup us) 1)).all (fun a => namesB a 8)))) := by
        unfold machB
        rw [hr1, Bool.true_and]
      rw [e0] at q q0
      refine iteF ⟨_, rfl, m, _, 0, v0, rfl, rfl, hy, at_of (j := 0) rfl gv0, v0, _, N, 1, 40, rfl, xv0, _, rfl, ?_⟩
      generalize el (.tup us) 0 = ta at *
      generalize el (.tup us) 1 = tb at *
      cases hr2 : rowB ta 1 40 with
      | false =>
        rw [hr2, Bool.false_and] at q0
        exact iteT q0
      | true =>
        obtain ⟨a, as, ats, rfl, rfl, ha, halla, a0, a1⟩ := row_tup xv0 hr2
        rw [hr2] at q q0
        simp only [Bool.true_and] at q q0
        have el0 : lenT (.tup ats) = as.length := halla.len.symm
        rw [el0] at q q0
        refine iteF ⟨_, rfl, m, _, 0, .ref a, rfl, rfl, hy, at_of (j := 0) rfl gv0, .inr ⟨a, as, rfl, .inr ha, _, rfl, m, _, 1, v1, rfl, rfl, hy, at_of (j := 1) rfl gv1, _, rfl, _, rfl, v1, tb, N, _, _, rfl, xv1, _, rfl, ?_⟩⟩
        cases hr3 : rowB tb as.length as.length with
        | false =>
          rw [hr3, Bool.false_and] at q0
          exact iteT q0
        | true =>
          obtain ⟨b, bs, bts, rfl, rfl, hb, hallb, b0, b1⟩ := row_tup xv1 hr3
          rw [hr3] at q q0
          simp only [Bool.true_and] at q q0
          have q : ∀ H', Same H H' → Q (.bl (ats.all (fun a => setB a as.length) && bts.all (fun a => namesB a 8))) H' := q
          have lbs : bs.length = as.length := by omega
          refine iteF ⟨_, rfl, _, rfl, by omega, by omega, for_range (lo := 0) (n := ((as.length : Nat) : Int).toNat) (fun i σ H' => ∃ y2 y3 y4 : Option V, σ = [some (.ref m), some (.int as.length), y2, y3, y4] ∧ Same H H' ∧ (ats.all (fun a => setB a as.length) && bts.all (fun a => namesB a 8)) = ((ats.drop i).all (fun a => setB a as.length) && (bts.drop i).all (fun a => namesB a 8))) ⟨none, none, none, rfl, Same.refl _, rfl⟩ ?_ ?_⟩
          · rintro i σ H1 hi ⟨y2, y3, y4, rfl, s1, e⟩
            have hi' : i < as.length := by omega
            have ga := List.getElem?_eq_getElem hi'
            have gb := List.getElem?_eq_getElem (show i < bs.length by omega)
            obtain ⟨t1, ht1, x1⟩ := halla.get ga
            obtain ⟨t2, ht2, x2⟩ := hallb.get gb
            have x1 := x1.same s1
            have x2 := x2.same s1
            rw [all_at ht1, all_at ht2] at e
            rw [Int.zero_add]
            have hy1 := ssqt s1 hy
            refine ⟨_, rfl, m, _, 0, .ref a, rfl, rfl, hy1, at_of (j := 0) rfl gv0, _, rfl, a, _, _, as[i], rfl, rfl, ssqt s1 ha, at_of rfl ga, _, rfl, as[i], t1, N, _, rfl, x1, by omega, _, rfl, ?_⟩
            cases hs : setB t1 as.length with
            | false =>
              have := q H1 s1
              rw [e, hs] at this
              simp only [Bool.false_and] at this
              exact iteT (iteT this)
            | true =>
              refine iteF ⟨_, rfl, m, _, 1, .ref b, rfl, rfl, hy1, at_of (j := 1) rfl gv1, _, rfl, b, _, _, _, rfl, rfl, ssqt s1 hb, at_of rfl gb, _, t2, N, 0, 8, rfl, x2, _, rfl, ?_⟩
              cases hr8 : rowB t2 0 8 with
              | false =>
                have := q H1 s1
                have nb : namesB t2 8 = false := by
                  unfold namesB
                  rw [hr8]
                  rfl
                rw [e, nb] at this
                simp only [Bool.false_and, Bool.and_false] at this
                exact iteT this
              | true =>
                obtain ⟨c, cs, cts, ec, rfl, hc, hallc, c0, c1⟩ := row_tup x2 hr8
                rw [ec] at gb
                have nb : namesB (.tup cts) 8 = riseZ (Str.ofString "") cts := by
                  unfold namesB
                  rw [hr8, Bool.true_and]
                  rfl
                rw [hs, nb, Bool.true_and] at e
                refine iteF ⟨_, rfl, m, _, 1, .ref b, rfl, rfl, hy1, at_of (j := 1) rfl gv1, _, rfl, b, _, _, .ref c, rfl, rfl, ssqt s1 hb, at_of rfl gb, _, rfl, .inr ⟨c, cs, rfl, .inr hc, _, rfl, by omega, by omega, for_range (lo := 0) (n := ((cs.length : Nat) : Int).toNat) (fun j σ H' => ∃ (last : Str) (y4 : Option V), σ = [some (.ref m), some (.int as.length), some (.int i), some (.ref c), y4] ∧ Same H1 H' ∧ riseZ (Str.ofString "") cts = riseZ last (cts.drop j) ∧ (j = 0 ∧ last = Str.ofString "" ∨ ∃ k, j = k + 1 ∧ cts[k]? = some (.str last))) ⟨_, y4, rfl, Same.refl _, rfl, .inl ⟨rfl, rfl⟩⟩ ?_ ?_⟩⟩
                · rintro j σ H2 hj ⟨last, y5, rfl, s2, e2, hlast⟩
                  have hj' : j < cs.length := by omega
                  have gj := List.getElem?_eq_getElem hj'
                  obtain ⟨t3, ht3, x3⟩ := hallc.get gj
                  rw [drop_at ht3] at e2
                  rw [Int.zero_add]
                  refine ⟨_, rfl, _, rfl, c, _, _, cs[j], rfl, rfl, ssqt s2 hc, at_of rfl gj, cs[j], t3, N, rfl, x3.same s2, fun H3 s3 => ⟨_, rfl, ?_⟩⟩
                  have s23 := s2.trans s3
                  have s13 := s1.trans s23
                  have hc3 := ssqt s23 hc
                  cases hn : nameB t3 with
                  | false =>
                    have := q H3 s13
                    rw [e, e2, riseZ_no hn] at this
                    simp only [Bool.false_and, Bool.and_false] at this
                    exact iteT (iteT this)
                  | true =>
                    obtain ⟨n, rfl⟩ := nameB_str hn
                    rw [str_v x3] at gj
                    rw [riseZ_str hn] at e2
                    refine iteF ⟨_, rfl, _, _, rfl, rfl, _, rfl, ite2 (fun e3 => ?_) (fun e3 => iteF ?_)⟩
                    · have j0 : 0 < j := by
                        have := of_decide_eq_true e3
                        omega
                      rcases hlast with ⟨h0, _⟩ | ⟨k, h0, hk⟩
                      · omega
                      · have gk : cs[k]? = some (.str last) := by
                          have hk2 : k < cs.length := by omega
                          obtain ⟨tp, h1, xp⟩ := hallc.get (List.getElem?_eq_getElem hk2)
                          rw [hk] at h1
                          cases h1
                          rw [List.getElem?_eq_getElem hk2, str_v xp]
                        refine ⟨_, rfl, _, rfl, _, _, rfl, rfl, c, _, _, .str last, rfl, rfl, hc3, at_of (j := k) (by omega) gk, _, rfl, _, rfl, c, _, _, .str n, rfl, rfl, hc3, at_of rfl gj, last, n, rfl, rfl, _, rfl, ite2 (fun e4 => ?_) (fun e4 => ?_)⟩
                        · have := q H3 s13
                          rw [e, e2, decide_eq_false (notdec e4)] at this
                          simp only [Bool.false_and, Bool.and_false] at this
                          exact this
                        · rw [decide_eq_true (dec_of e4), Bool.true_and] at e2
                          exact ⟨n, _, rfl, s23, e2, .inr ⟨j, rfl, ht3⟩⟩
                    · rcases hlast with ⟨h0, hl⟩ | ⟨k, h0, _⟩
                      · rw [hl, decide_eq_true (empty_lt hn), Bool.true_and] at e2
                        exact ⟨n, _, rfl, s23, by rw [← hl] at e2 ⊢; exact e2, .inr ⟨j, rfl, ht3⟩⟩
                      · exact absurd (decide_eq_true (show (0 : Int) < (j : Int) by omega)) e3
                · rintro σ H2 ⟨last, y5, rfl, s2, e2, _⟩
                  rw [Int.toNat_natCast, hallc.len, List.drop_of_length_le (Nat.le_refl _)] at e2
                  have e2 : riseZ (Str.ofString "") cts = true := e2
                  rw [e2, Bool.true_and] at e
                  exact ⟨_, _, _, rfl, s1.trans s2, e⟩
          · rintro σ H1 ⟨y2, y3, y4, rfl, s1, e⟩
            rw [Int.toNat_natCast] at e
            rw [show ats.drop as.length = [] from List.drop_of_length_le (by rw [halla.len]; exact Nat.le_refl _), show bts.drop as.length = [] from List.drop_of_length_le (by rw [← hallb.len]; omega)] at e
            have := q H1 s1
            rw [e] at this
            exact this
end

/-! ### comprehensions that draw over a list, or lay objects -/
section
variable {K : PySem.W.Frag}
theorem lc_listP {a : Addr} {xs : List V} {j : Nat} {tt : TT} {te : TE} {vs : List Nat} {σ : L2.St} {H1 : Hp} {D : Addr} {Qd : Hp → Prop} {A : PA} {c0 : Nat} (k : Nat) (ok : Nat → List V → Prop)
    (P0 : Pool H1 A c0) (hx : H1 a = some (.lst xs)) (ox : Off A a) (hD : H1 D = none) (hn : xs.length ≤ 100000) (h0 : ok 0 []) (hw : ∀ x, wipe ((wipe σ vs).set j (some x)) vs = wipe σ vs)
    (turn : ∀ (i : Nat) (x : V) (H : Hp) (acc : List V), xs[i]? = some x → Pool H A (c0 + i * k) → Kp A H1 H → ok i acc → acc.length ≤ i → ∀ (N1 : V → Hp → Prop) (N2 : Hp → Prop),
      (∀ y H', Pool H' A (c0 + i * k + k) → Kp A H H' → ok (i + 1) (acc ++ [y]) → N1 y H') → (∀ H', Pool H' A (c0 + i * k + k) → Kp A H H' → ok (i + 1) acc → N2 H') →
      tt ((wipe σ vs).set j (some x)) H fun b H3 => if b = true then te ((wipe σ vs).set j (some x)) H3 N1 else N2 H3)
    (done : ∀ (H : Hp) (acc : List V), Pool H A (c0 + xs.length * k) → Kp A H1 H → H D = some (.lst acc) → acc.length ≤ xs.length → ok xs.length acc → Off A D → Qd H) :
    ∃ W : Nat → Nat → Hp → Prop, (∃ m, W 0 m (upd H1 D (.lst []))) ∧ ∀ i m H, W i m H →
      ((Itl K a).stop i H ∧ Qd H) ∨ ((Itl K a).go i H ∧ ∃ Nx : Hp → Prop, (∀ H', Nx H' → ∃ m', m' < m ∧ W (i + 1) m' H') ∧ ∀ x H', (Itl K a).yld i H x H' → (gName j) x (wipe σ vs) H' fun σ2 H2 => wipe σ2 vs = wipe σ vs ∧ tt σ2 H2 fun b H3 =>
        if b = true then te σ2 H3 fun y H4 => ∃ acc, H4 D = some (.lst acc) ∧ acc.length < sizeLine ∧ Nx (upd H4 D (.lst (acc ++ [y]))) else Nx H3) := by
  have oD : Off A D := P0.off hD
  refine lc_list (xs := xs) (fun i H => ∃ acc, Pool H A (c0 + i * k) ∧ Kp A H1 H ∧ H D = some (.lst acc) ∧ acc.length ≤ i ∧ ok i acc) ⟨[], ?_, skp (same_upd hD), upd_same, Nat.le_refl _, h0⟩ (fun i H _ p => ?_) (fun i x H hi p => ?_) (fun H p => ?_)
  · rw [Nat.zero_mul]
    exact P0.upd oD
  · obtain ⟨acc, p1, p2, _⟩ := p
    exact SqL.of (p2 _ _ hx ox)
  · obtain ⟨acc, p1, p2, p3, p4, p5⟩ := p
    have hil : i < xs.length := (List.getElem?_eq_some_iff.mp hi).1
    refine ⟨hw _, turn i x H acc hi p1 p2 p5 p4 _ _ (fun y H' q1 q2 q3 => ⟨acc, q2 _ _ p3 oD, szLt (by omega), acc ++ [y], ?_, ?_, upd_same, ?_, q3⟩) (fun H' q1 q2 q3 => ⟨acc, ?_, p2.trans q2, q2 _ _ p3 oD, by omega, q3⟩)⟩
    · rw [Nat.succ_mul, ← Nat.add_assoc]
      exact q1.upd oD
    · exact Kp.mut (p2.trans q2) hD
    · rw [List.length_append]
      show acc.length + 1 ≤ i + 1
      omega
    · rw [Nat.succ_mul, ← Nat.add_assoc]
      exact q1
  · obtain ⟨acc, p1, p2, p3, p4, p5⟩ := p
    exact done H acc p1 p2 p3 p4 p5 oD
theorem lc_rangeH {lo : Int} {n j : Nat} {tt : TT} {te : TE} {vs : List Nat} {σ : L2.St} {H1 : Hp} {D : Addr} {Qd : Hp → Prop} (ok : Nat → Hp → List V → Prop) (st : ∀ i H H' acc, Imm H H' → ok i H acc → ok i H' acc)
    (hD : H1 D = none) (hn : n ≤ 100000) (h0 : ∀ H, ok 0 H []) (hw : ∀ x, wipe ((wipe σ vs).set j (some x)) vs = wipe σ vs)
    (turn : ∀ (i : Nat) (H : Hp) (acc : List V), i < n → Same H1 H → ok i H acc → acc.length ≤ i → ∀ (N1 : V → Hp → Prop) (N2 : Hp → Prop),
      (∀ y H', Same H H' → ok (i + 1) H' (acc ++ [y]) → N1 y H') → (∀ H', Same H H' → ok (i + 1) H' acc → N2 H') →
      tt ((wipe σ vs).set j (some (.int (lo + i)))) H fun b H3 => if b = true then te ((wipe σ vs).set j (some (.int (lo + i)))) H3 N1 else N2 H3)
    (done : ∀ (H : Hp) (acc : List V), Same H1 H → H D = some (.lst acc) → acc.length ≤ n → ok n H acc → Qd H) :
    ∃ W : Nat → Nat → Hp → Prop, (∃ m, W 0 m (upd H1 D (.lst []))) ∧ ∀ i m H, W i m H →
      ((Itr lo n).stop i H ∧ Qd H) ∨ ((Itr lo n).go i H ∧ ∃ Nx : Hp → Prop, (∀ H', Nx H' → ∃ m', m' < m ∧ W (i + 1) m' H') ∧ ∀ x H', (Itr lo n).yld i H x H' → (gName j) x (wipe σ vs) H' fun σ2 H2 => wipe σ2 vs = wipe σ vs ∧ tt σ2 H2 fun b H3 =>
        if b = true then te σ2 H3 fun y H4 => ∃ acc, H4 D = some (.lst acc) ∧ acc.length < sizeLine ∧ Nx (upd H4 D (.lst (acc ++ [y]))) else Nx H3) := by
  refine lc_range (lo := lo) (n := n) (fun i H => ∃ acc, Same H1 H ∧ H D = some (.lst acc) ∧ acc.length ≤ i ∧ ok i H acc) ⟨[], same_upd hD, upd_same, Nat.le_refl _, h0 _⟩ (fun i H hi p => ?_) (fun H p => ?_)
  · obtain ⟨acc, p2, p3, p4, p5⟩ := p
    refine ⟨hw _, turn i H acc hi p2 p5 p4 _ _ (fun y H' q2 q3 => ⟨acc, q2 _ _ p3, szLt (by omega), acc ++ [y], smut (p2.trans q2) hD, upd_same, ?_, st _ _ _ _ (Imm.list (q2 _ _ p3)) q3⟩) (fun H' q2 q3 => ⟨acc, p2.trans q2, q2 _ _ p3, by omega, q3⟩)⟩
    rw [List.length_append]
    show acc.length + 1 ≤ i + 1
    omega
  · obtain ⟨acc, p2, p3, p4, p5⟩ := p
    exact done H acc p2 p3 p4 p5
end
section
variable {X : Cx}
theorem un65 {k : Nat} {A : Around} (r : Room k A) : A.units + 65 < cLine := by
  have := r.un
  omega
theorem inD (K : PySem.W.Frag) (hu : X.A.units + 65 < cLine) (h : X.K = K := by rfl) : OpR X (compareOp .In) (rInD K) := by
  subst h
  exact op_inD hu
end

/-! ### sorted names rise -/
theorem nlt_trans {a b c : List Nat} (h1 : ¬ b < a) (h2 : ¬ c < b) : ¬ c < a := by
  rw [List.not_lt] at *
  exact List.le_trans h1 h2
theorem lt_of {a b : List Nat} (h : ¬ b < a) (n : a ≠ b) : a < b := by
  rw [List.not_lt] at h
  rcases List.le_iff_lt_or_eq.mp h with h | h
  · exact h
  · exact absurd h n
theorem rising_pw : ∀ (l : List Str) (p : Str), risingS p l = true → (p :: l).Pairwise (fun x y => ¬ y.cps.toList < x.cps.toList)
  | [], p, _ => List.pairwise_singleton _ _
  | x :: r, p, h => by
    have h' : (!Spec.ltCps x.cps.toList p.cps.toList && risingS x r) = true := h
    rw [Bool.and_eq_true, ltCps_eq] at h'
    have ih := rising_pw r x h'.2
    refine List.pairwise_cons.mpr ⟨fun y hy => ?_, ih⟩
    rcases List.mem_cons.mp hy with rfl | hy
    · exact notdec h'.1
    · exact nlt_trans (notdec h'.1) ((List.pairwise_cons.mp ih).1 y hy)
theorem sorted_rise {ys : List Str} (h : sortedS ys = true) (nd : ys.Nodup) (g : ∀ z ∈ ys, GoodName z) : RiseS ys := by
  refine ⟨?_, g⟩
  have pw : ys.Pairwise (fun x y => ¬ y.cps.toList < x.cps.toList) := by
    cases ys with
    | nil => exact List.Pairwise.nil
    | cons x r => exact rising_pw r x h
  exact (pw.and nd).imp fun {x y} h => lt_of h.1 fun e => h.2 (Str.ext' (Array.toList_inj.mp e))

/-! ### _law_machine -/
abbrev s_law_machine : Stmt := topS 22
theorem sc_law_machine : FnScope ["_law_pool_here", "_law_names_here", "_law_most", "_law_many_here", "_law_dense", "_law_steps", "_law_marks", "_law_k", "_law_to", "_law_name_here"] ["_law_pool_here", "_law_names_here", "_law_most"] (defScope s_law_machine) := ⟨rfl, rfl, rfl, by decide +kernel, rfl, by decide +kernel, by decide +kernel⟩
section
variable {P : Program} {w : World} {K : PySem.W.Frag} {mg : Str → Option Value} {base : Heap}
def spLMach (K : PySem.W.Frag) : Sp := fun vs H Q _ => ∃ (A : PA) (c : Nat) (l : Addr) (zs : List Str) (most : Nat), vs = [.ref A.p, .ref l, .int most] ∧ Pool H A c ∧ c < 700000 ∧ H l = some (.lst (zs.map V.str)) ∧ Off A l ∧ zs.Nodup ∧ (∀ z ∈ zs, GoodName z) ∧ zs.length ≤ 8 ∧ 1 ≤ most ∧ most ≤ 8 ∧
  ∀ (H' : Hp) (m : Addr) (steps : List (List Int)) (marks : List (List Str)), Pool H' A (c + 2 + most * 20) → Kp A H H' → MachAt K H' m steps marks → GoodMach steps marks → steps.length ≤ most → Q (.ref m) H'
theorem ok_lmach {f : Addr} {fd : FuncData} (F : Fun K "_law_machine" "_law_machine" s_law_machine f fd) (T : Bi mg) (c_law_draw : Cal P w K mg base 1 "_law_draw" ["_law_pool_here", "_law_many_here"] spDraw) : FnOk P w K mg base CX0 2 f fd ["_law_pool_here", "_law_names_here", "_law_most"] (spLMach K) := by
  refine F.ok sc_law_machine (fun vs H Q E h => ?_) (fun cdv A outer s H vs Q E hr h => ?_)
  · obtain ⟨A, c, l, zs, most, rfl, _⟩ := h
    rfl
  · obtain ⟨PL, c, l, zs, most, rfl, P0, hc, hl, ol, nz, gz, lz, m0, m1, q⟩ := h
    refine ⟨_, (pss_cons (ps_set (i := 3) sc_law_machine.nd rfl (.inl rfl) (pe_op op_add pe_int (pe_call c_law_draw.G hr (by rfl) c_law_draw.g c_law_draw.kp c_law_draw.b .nil pass0 (pa_cons (pv 0) (pa_cons (pv 2) pa_nil)))))
      (pss_cons (ps_set (i := 4) sc_law_machine.nd rfl (.inr rfl) (pe_op op_add pe_int (pe_call c_law_draw.G hr (by rfl) c_law_draw.g c_law_draw.kp c_law_draw.b .nil pass0 (pa_cons (pv 0) (pa_cons pe_int pa_nil)))))
      (pss_cons (ps_set (i := 5) sc_law_machine.nd rfl (.inl rfl) (pe_lst pa_nil))
      (pss_cons (ps_set (i := 6) sc_law_machine.nd rfl (.inl rfl) (pe_lst pa_nil))
      (pss_cons (ps_for PassesOwn.never rfl (pi_range1 (by rfl) T.range (pa_cons (pv 3) pa_nil)) (pg_name (i := 7) sc_law_machine.nd rfl (.inl rfl))
        (pss_cons (ps_expr (pe_bm PySem.F.plainAttrs_list PySem.F.slot_list_append PySem.F.type_list_append mt_append (pv 5) (pa_cons (pe_callTy call_tuple_of (by rfl) T.tuple (by decide +kernel) (pa_cons (pe_lc (own := [("_law_to", 8)]) (g := gName 8) rfl sc_law_machine.nd (pi_range1 (by rfl) T.range (pa_cons (pv 3) pa_nil)) (blkOk_by (own := [("_law_to", 8)]) (N := ["_law_pool_here", "_law_names_here", "_law_most", "_law_many_here", "_law_dense", "_law_steps", "_law_marks", "_law_k", "_law_to", "_law_name_here"]) (sc := defScope s_law_machine) (by decide +kernel)) (fun _ _ _ _ _ => (pg_name (i := 8) sc_law_machine.nd rfl (.inl rfl))) (fun _ _ _ _ _ => (pts_one (pt_cmpR op_lt (pe_call c_law_draw.G hr (by rfl) c_law_draw.g c_law_draw.kp c_law_draw.b .nil pass0 (pa_cons (pv 0) (pa_cons pe_int pa_nil))) (pv 4) (nomark _)))) (fun _ _ _ _ _ => (pv 8))) pa_nil)) pa_nil)))
        (pss_one (ps_expr (pe_bm PySem.F.plainAttrs_list PySem.F.slot_list_append PySem.F.type_list_append mt_append (pv 6) (pa_cons (pe_callTy call_tuple_of (by rfl) T.tuple (by decide +kernel) (pa_cons (pe_callB cr_sortedS (by rfl) T.sorted (by decide +kernel) (pa_cons (pe_lc (own := [("_law_name_here", 9)]) (g := gName 9) rfl sc_law_machine.nd (pi_list (pv 1)) (blkOk_by (own := [("_law_name_here", 9)]) (N := ["_law_pool_here", "_law_names_here", "_law_most", "_law_many_here", "_law_dense", "_law_steps", "_law_marks", "_law_k", "_law_to", "_law_name_here"]) (sc := defScope s_law_machine) (by decide +kernel)) (fun _ _ _ _ _ => (pg_name (i := 9) sc_law_machine.nd rfl (.inl rfl))) (fun _ _ _ _ _ => (pts_one (pt_cmpR op_eq (pe_call c_law_draw.G hr (by rfl) c_law_draw.g c_law_draw.kp c_law_draw.b .nil pass0 (pa_cons (pv 0) (pa_cons pe_int pa_nil))) pe_int (nomark _)))) (fun _ _ _ _ _ => (pv 9))) pa_nil)) pa_nil)) pa_nil))))))
      (pss_one (ps_ret (pe_tup (pa_cons (pe_callTy call_tuple_of (by rfl) T.tuple (by decide +kernel) (pa_cons (pv 5) pa_nil)) (pa_cons (pe_callTy call_tuple_of (by rfl) T.tuple (by decide +kernel) (pa_cons (pv 6) pa_nil)) pa_nil)))))))))), ?_⟩
    refine ⟨_, rfl, _, rfl, PL, c, _, rfl, P0, by omega, by omega, by omega, fun H1 x x0 x1 P1 K1 => ?_⟩
    obtain ⟨x, rfl⟩ : ∃ j : Nat, x = (j : Int) := ⟨x.toNat, by omega⟩
    refine ⟨_, _, rfl, rfl, _, rfl, PL, _, 4, rfl, P1, by omega, by decide, by decide, fun H2 y _ _ P2 K2 => ⟨_, _, rfl, rfl, Nat.zero_le _, fun ls hls => ⟨Nat.zero_le _, fun lm hlm => ?_⟩⟩⟩
    have K02 := K1.trans K2
    have os := P2.off hls
    have hls0 := K02.free hls os
    have P3 := P2.upd (o := .lst []) os
    have om := P3.off hlm
    have nsm : ls ≠ lm := fun e => by
      rw [← e, upd_same] at hlm
      cases hlm
    have hlm' : H2 lm = none := by
      rw [← hlm, upd_ne nsm.symm]
    have hlm0 := K02.free hlm' om
    refine ⟨_, rfl, 1 + (x : Int), rfl, by omega, by omega, for_range (lo := 0) (n := (1 + (x : Int)).toNat) (fun i σ H' => ∃ (sa ka : List Addr) (steps : List (List Int)) (marks : List (List Str)) (y7 : Option V),
      σ = [some (.ref PL.p), some (.ref l), some (.int most), some (.int (1 + (x : Int))), some (.int (1 + y)), some (.ref ls), some (.ref lm), y7, none, none] ∧ Pool H' PL (c + 2 + i * 20) ∧ Kp PL H H' ∧ H' ls = some (.lst (sa.map V.ref)) ∧ H' lm = some (.lst (ka.map V.ref)) ∧
      Each (fun a ns => SqT K H' a (List.map V.int ns)) sa steps ∧ Each (fun a zs => SqT K H' a (List.map V.str zs)) ka marks ∧ steps.length = i ∧ marks.length = i ∧ (∀ r ∈ steps, RiseI (1 + (x : Int)) r) ∧ (∀ r ∈ marks, RiseS r ∧ r.length ≤ 8))
      ⟨[], [], [], [], none, rfl, ?_, (K02.mut hls0).mut hlm0, ?_, upd_same, .nil, .nil, rfl, rfl, fun _ h => absurd h List.not_mem_nil, fun _ h => absurd h List.not_mem_nil⟩ ?_ ?_⟩
    · exact P3.upd om
    · rw [upd_ne nsm, upd_same]
      rfl
    · rintro i σ H6 hi ⟨sa, ka, steps, marks, y7, rfl, P6, K6, g1, g2, g4, g5, g6, g7, g8, g9⟩
      have hi' : i < 8 := by omega
      have lsa : sa.length = i := by rw [g4.len, g6]
      have lka : ka.length = i := by rw [g5.len, g7]
      -- steps.append(..)
      refine ⟨_, rfl, .inl ⟨rfl, _, SqL.of g1⟩, _, rfl, _, rfl, by omega, by omega, fun D hD => lc_rangeP (a := PL) 1 (fun i acc => ∃ gs : List Int, acc = gs.map V.int ∧ gs.Pairwise (· < ·) ∧ ∀ n ∈ gs, 0 ≤ n ∧ n < i) P6 hD (by omega) ⟨[], rfl, List.Pairwise.nil, fun _ h => absurd h List.not_mem_nil⟩ (fun _ => rfl) ?_ ?_⟩
      · rintro j H7 acc hj P7 K7 ⟨gs, rfl, pw, bd⟩ _ N1 N2 k1 k2
        refine ⟨_, rfl, PL, _, 6, rfl, P7, by omega, by decide, by decide, fun H8 d _ _ P8 K8 => ⟨_, rfl, _, _, rfl, rfl, _, rfl, ite2 (fun _ => ?_) (fun _ => ?_)⟩⟩
        · refine ⟨_, rfl, k1 _ _ P8 K8 ⟨gs ++ [(j : Int)], by rw [List.map_append, Int.zero_add]; rfl, ?_, ?_⟩⟩
          · refine List.pairwise_append.mpr ⟨pw, List.pairwise_singleton _ _, fun x hx y hy => ?_⟩
            rw [List.mem_singleton.mp hy]
            exact (bd x hx).2
          · intro n hn
            rcases List.mem_append.mp hn with hn | hn
            · have := bd n hn
              omega
            · rw [List.mem_singleton.mp hn]
              omega
        · exact k2 _ P8 K8 ⟨gs, rfl, pw, fun n hn => by have := bd n hn; omega⟩
      rintro H7 acc P7 K7 hD7 _ ⟨gs, rfl, pw, bd⟩ oD
      refine ⟨D, _, rfl, .inl ⟨SqL.of hD7, fun t ht => ?_⟩⟩
      have st := same_upd (o := .tup (gs.map V.int)) ht
      have g1' := st _ _ (K7 _ _ g1 os)
      have g2' := st _ _ (K7 _ _ g2 om)
      refine ⟨ls, _, _, rfl, rfl, g1', szLt (by rw [List.length_map]; omega), ?_⟩
      have tls : t ≠ ls := (ne_of_none (K7 _ _ g1 os) ht).symm
      have P8 : Pool (upd (upd H7 t (.tup (gs.map V.int))) ls (.lst (sa.map V.ref ++ [.ref t]))) PL (c + 2 + i * 20 + 8) := ((P7.same st).upd os).mono (by omega)
      have K8 : Kp PL H (upd (upd H7 t (.tup (gs.map V.int))) ls (.lst (sa.map V.ref ++ [.ref t]))) := ((K6.trans K7).trans (skp st)).mut hls0
      have e78 : Imm H6 (upd (upd H7 t (.tup (gs.map V.int))) ls (.lst (sa.map V.ref ++ [.ref t]))) := ((P6.imm K7).trans (simm st)).trans (Imm.list g1')
      have h1 : upd (upd H7 t (.tup (gs.map V.int))) ls (.lst (sa.map V.ref ++ [.ref t])) ls = some (.lst ((sa ++ [t]).map V.ref)) := by
        rw [upd_same, List.map_append]
        rfl
      have h2 : upd (upd H7 t (.tup (gs.map V.int))) ls (.lst (sa.map V.ref ++ [.ref t])) lm = some (.lst (ka.map V.ref)) := by
        rw [upd_ne nsm.symm]
        exact g2'
      have h4 := Each.snoc (R := fun a ns => SqT K _ a (List.map V.int ns)) (a := t) (x := gs) (SqT.of (by rw [upd_ne tls, upd_same])) (g4.imp fun _ _ h => e78.sq h)
      have h5 := g5.imp fun _ _ h => e78.sq h
      generalize upd (upd H7 t (.tup (gs.map V.int))) ls (.lst (sa.map V.ref ++ [.ref t])) = H8 at P8 K8 h1 h2 h4 h5 ⊢
      have hl8 := K8 _ _ hl ol
      have bd' : ∀ n ∈ gs, 0 ≤ n ∧ n < 1 + (x : Int) := fun n hn => by
        have := bd n hn
        omega
      -- marks.append(..)
      refine ⟨_, rfl, .inl ⟨rfl, _, SqL.of h2⟩, _, rfl, l, rfl, ⟨_, SqL.of hl8⟩, fun D2 hD2 => lc_listP (a := l) (A := PL) 1 (fun i acc => ∃ ss : List Str, acc = ss.map V.str ∧ ss.Sublist (zs.take i)) P8 hl8 ol hD2 (by rw [List.length_map]; omega) ⟨[], rfl, List.nil_sublist _⟩ (fun _ => rfl) ?_ ?_⟩
      · rintro j x H9 acc hx P9 K9 ⟨ss, rfl, sub⟩ _ N1 N2 k1 k2
        obtain ⟨z, hz, rfl⟩ := map_get hx
        have hj : j < zs.length := (List.getElem?_eq_some_iff.mp hz).1
        have etk : zs.take (j + 1) = zs.take j ++ [z] := by
          rw [List.take_add_one, hz]
          rfl
        refine ⟨_, rfl, PL, _, 2, rfl, P9, by omega, by decide, by decide, fun H10 d _ _ P10 K10 => ⟨rfl, _, rfl, ite2 (fun _ => ⟨_, rfl, k1 _ _ P10 K10 ⟨ss ++ [z], by rw [List.map_append]; rfl, ?_⟩⟩) (fun _ => k2 _ P10 K10 ⟨ss, rfl, ?_⟩)⟩⟩
        · rw [etk]
          exact sub.append (List.Sublist.refl _)
        · rw [etk]
          exact sub.trans (List.sublist_append_left _ _)
      rintro H9 acc P9 K9 hD9 _ ⟨ss, rfl, sub⟩ oD2
      rw [List.length_map] at P9 sub
      have sub' : ss.Sublist zs := sub.trans (List.take_sublist _ _)
      have lss := sub'.length_le
      refine ⟨D2, ss, rfl, SqL.of hD9, by omega, fun ys p pm so hp => ?_⟩
      have lys := pm.length_eq
      have s10 : Same H9 (upd H9 p (.lst (ys.map V.str))) := same_upd hp
      refine ⟨p, _, rfl, .inl ⟨SqL.of upd_same, fun t2 ht2 => ?_⟩⟩
      have s11 := s10.trans (same_upd (o := .tup (ys.map V.str)) ht2)
      have h2' := s11 _ _ (K9 _ _ h2 om)
      refine ⟨lm, _, _, rfl, rfl, h2', szLt (by rw [List.length_map]; omega), ?_⟩
      have t2m : t2 ≠ lm := (ne_of_none (s10 _ _ (K9 _ _ h2 om)) ht2).symm
      have e12 := ((P8.imm K9).trans (simm s11)).trans (Imm.list (o := .lst (ka.map V.ref ++ [.ref t2])) h2')
      refine ⟨sa ++ [t], ka ++ [t2], steps ++ [gs], marks ++ [ys], some (.int (0 + i)), rfl, ?_, ?_, ?_, ?_, h4.imp fun _ _ h => e12.sq h, ?_, ?_, ?_, ?_, ?_⟩
      · exact ((P9.same s11).upd om).mono (by omega)
      · exact ((K8.trans K9).trans (skp s11)).mut hlm0
      · rw [upd_ne nsm]
        exact s11 _ _ (K9 _ _ h1 os)
      · rw [upd_same, List.map_append]
        rfl
      · exact Each.snoc (R := fun a zs => SqT K _ a (List.map V.str zs)) (a := t2) (x := ys) (SqT.of (by rw [upd_ne t2m, upd_same])) (h5.imp fun _ _ h => e12.sq h)
      · rw [List.length_append, g6]
        rfl
      · rw [List.length_append, g7]
        rfl
      · intro r hr
        rcases List.mem_append.mp hr with hr | hr
        · exact g8 r hr
        · rw [List.mem_singleton.mp hr]
          exact ⟨pw, bd'⟩
      · intro r hr
        rcases List.mem_append.mp hr with hr | hr
        · exact g9 r hr
        · rw [List.mem_singleton.mp hr]
          exact ⟨sorted_rise so (pm.nodup_iff.mpr (nz.sublist sub')) fun z hz => gz z (sub'.subset (pm.mem_iff.mp hz)), by omega⟩
    · rintro σ H6 ⟨sa, ka, steps, marks, y7, rfl, P6, K6, g1, g2, g4, g5, g6, g7, g8, g9⟩
      refine ⟨_, rfl, ls, _, rfl, .inl ⟨SqL.of g1, fun s hs => ?_⟩⟩
      have s1 : Same H6 (upd H6 s (.tup (sa.map V.ref))) := same_upd hs
      refine ⟨_, rfl, lm, _, rfl, .inl ⟨SqL.of (s1 _ _ g2), fun k hk => ⟨by show 2 ≤ sizeLine; decide, fun m hm => ?_⟩⟩⟩
      have sk := same_upd (o := .tup (ka.map V.ref)) hk
      have sm := same_upd (o := .tup [.ref s, .ref k]) hm
      have s3 := (s1.trans sk).trans sm
      refine q _ m steps marks ((P6.same s3).mono (by omega)) (K6.trans (skp s3)) ⟨s, k, sa, ka, SqT.of upd_same, ssqt (sk.trans sm) (SqT.of upd_same), ssqt sm (SqT.of upd_same), g4.imp fun _ _ h => (simm s3).sq h, g5.imp fun _ _ h => (simm s3).sq h⟩ ⟨by omega, by omega, by omega, ?_, g9⟩ (by omega)
      intro r hr
      have := g8 r hr
      rw [show (1 + (x : Int)) = (steps.length : Int) by omega] at this
      exact this
end

/-! ### the law -/
abbrev s_law_many : Stmt := topS 31
theorem sc_law_many : FnScope ["_law_machine_here", "_law_many_here"] ["_law_machine_here", "_law_many_here"] (defScope s_law_many) := ⟨rfl, rfl, rfl, by decide +kernel, rfl, by decide +kernel, by decide +kernel⟩
abbrev slaw : Stmt := topS 32
theorem sclaw : FnScope ["_law_script", "_law_pool_here", "_law_whole", "_law_far", "_law_names_here", "_law_thing", "_law_good", "_law_found", "_law_refused"] ["_law_script"] (defScope slaw) := ⟨rfl, rfl, rfl, by decide +kernel, rfl, by decide +kernel, by decide +kernel⟩
section
variable {P : Program} {w : World} {K : PySem.W.Frag} {mg : Str → Option Value} {base : Heap}
theorem good_cps {z : Str} (g : GoodName z) : ∀ c ∈ z.cps.toList, c < 1114112 := fun c hc => by
  have := g.al c hc
  rw [letters_eq, List.mem_range'] at this
  omega
theorem good_th {N : Nat} {H : Hp} {z : Str} (g : GoodName z) : TAt N K H (.str z) (.str z) := .str z (by have := g.hi; omega) (good_cps g)
theorem rows_th {α : Type} {N : Nat} {H : Hp} {f : α → V} (g : ∀ x : α, True → ∃ t, TAt N K H (f x) t) : ∀ {as : List Addr} {xs : List (List α)}, Each (fun a r => SqT K H a (r.map f)) as xs → (∀ r ∈ xs, r.length ≤ N) → ∀ v ∈ as.map V.ref, ∃ t, TAt N K H v t
  | _, _, .nil, _, v, hv => absurd hv List.not_mem_nil
  | _, _, .cons h t, l, v, hv => by
    rcases List.mem_cons.mp hv with rfl | hv
    · exact TAt.mk h (by rw [List.length_map]; exact l _ List.mem_cons_self) fun y hy => by
        obtain ⟨x, _, rfl⟩ := List.mem_map.mp hy
        exact g x trivial
    · exact rows_th g t (fun r hr => l r (List.mem_cons_of_mem _ hr)) v hv
theorem marks_th {N : Nat} {H : Hp} : ∀ {as : List Addr} {xs : List (List Str)}, Each (fun a (r : List Str) => SqT K H a (r.map V.str)) as xs → (∀ r ∈ xs, RiseS r ∧ r.length ≤ N) → ∀ v ∈ as.map V.ref, ∃ t, TAt N K H v t
  | _, _, .nil, _, v, hv => absurd hv List.not_mem_nil
  | _, _, .cons (x := r) h t, l, v, hv => by
    rcases List.mem_cons.mp hv with rfl | hv
    · have lr := l r List.mem_cons_self
      exact TAt.mk h (by rw [List.length_map]; exact lr.2) fun y hy => by
        obtain ⟨x, hx, rfl⟩ := List.mem_map.mp hy
        exact ⟨_, good_th (lr.1.2 x hx)⟩
    · exact marks_th t (fun r hr => l r (List.mem_cons_of_mem _ hr)) v hv
theorem mach_th {H : Hp} {m : Addr} {steps : List (List Int)} {marks : List (List Str)} (M : MachAt K H m steps marks) (G : GoodMach steps marks) : ∃ t, TAt 50 K H (.ref m) t := by
  obtain ⟨s, k, sa, ka, h1, h2, h3, h4, h5⟩ := M.ex
  have l1 := G.len
  have l2 := G.hi
  refine TAt.mk h1 (by show 2 ≤ 50; decide) fun v hv => ?_
  rcases List.mem_cons.mp hv with rfl | hv
  · refine TAt.mk h2 (by rw [List.length_map, h4.len]; omega) (rows_th (fun x _ => ⟨_, .int x⟩) h4 fun r hr => ?_)
    have := rise_len (G.st r hr) (by omega)
    omega
  · rw [List.mem_singleton.mp hv]
    exact TAt.mk h3 (by rw [List.length_map, h5.len]; omega) (marks_th h5 fun r hr => ⟨(G.mr r hr).1, by have := (G.mr r hr).2; omega⟩)
def spMany (K : PySem.W.Frag) : Sp := fun vs H Q _ => ∃ (m : Addr) (steps : List (List Int)) (marks : List (List Str)) (n : Nat), vs = [.ref m, .int n] ∧ MachAt K H m steps marks ∧ GoodMach steps marks ∧ n ≤ 45 ∧ ∀ H' v t, Same H H' → TAt 50 K H' v t → Q v H'
theorem flat_one {α : Type} (x : α) : ∀ n : Nat, (List.replicate n [x]).flatten = List.replicate n x
  | 0 => rfl
  | n + 1 => by
    rw [List.replicate_succ, List.flatten_cons, flat_one x n]
    rfl
theorem ok_many {f : Addr} {fd : FuncData} (F : Fun K "_law_many" "_law_many" s_law_many f fd) (T : Bi mg) : FnOk P w K mg base CX0 1 f fd ["_law_machine_here", "_law_many_here"] (spMany K) := by
  refine F.ok sc_law_many (fun vs H Q E h => ?_) (fun cdv A outer s H vs Q E hr h => ?_)
  · obtain ⟨m, steps, marks, n, rfl, _⟩ := h
    rfl
  · obtain ⟨m, steps, marks, n, rfl, M, G, hn, q⟩ := h
    obtain ⟨s, k, sa, ka, h1, h2, h3, h4, h5⟩ := M.ex
    have l0 := G.lo
    have l1 := G.len
    have l2 := G.hi
    have ls := h4.len
    have lk := h5.len
    have gs : (sa.map V.ref)[0]? = some (.ref (sa[0]'(by omega))) := get_map (List.getElem?_eq_getElem _)
    have gk : (ka.map V.ref)[0]? = some (.ref (ka[0]'(by omega))) := get_map (List.getElem?_eq_getElem _)
    refine ⟨_, (pss_one (ps_ret (pe_tup (pa_cons (pe_callTy call_tuple_of (by rfl) T.tuple (by decide +kernel) (pa_cons (pe_op op_cat (pe_lst (pa_cons (pe_ix ix_tup (pe_ix ix_tup (pv 0) pe_int (fun _ _ => rfl)) pe_int (fun _ _ => rfl)) pa_nil)) (pe_op op_rep (pe_lst (pa_cons (pe_tup pa_nil) pa_nil)) (pe_op op_sub (pv 1) pe_int))) pa_nil)) (pa_cons (pe_callTy call_tuple_of (by rfl) T.tuple (by decide +kernel) (pa_cons (pe_op op_cat (pe_lst (pa_cons (pe_ix ix_tup (pe_ix ix_tup (pv 0) pe_int (fun _ _ => rfl)) pe_int (fun _ _ => rfl)) pa_nil)) (pe_op op_rep (pe_lst (pa_cons (pe_tup pa_nil) pa_nil)) (pe_op op_sub (pv 1) pe_int))) pa_nil)) pa_nil))))), ?_⟩
    refine ⟨_, rfl, m, _, 0, .ref s, rfl, rfl, h1, at_of (j := 0) rfl rfl, s, _, 0, _, rfl, rfl, h2, at_of (j := 0) rfl gs, by show 1 ≤ sizeLine; decide, fun a1 g1 => ⟨by show 0 ≤ sizeLine; decide, fun a2 g2 => ⟨by show 1 ≤ sizeLine; decide, fun a3 g3 => ?_⟩⟩⟩
    have s1 := same_upd (o := .lst [.ref (sa[0]'(by omega))]) g1
    have s2 := same_upd (o := .tup []) g2
    have s3 := same_upd (o := .lst [.ref a2]) g3
    refine ⟨_, rfl, _, _, rfl, rfl, a3, _, _, rfl, rfl, upd_same, by omega, by omega, szOk (by show 1 * ((n : Int) - 1).toNat ≤ _; omega), fun a4 g4 => ?_⟩
    have s4 := same_upd (o := .lst (List.replicate ((n : Int) - 1).toNat [V.ref a2]).flatten) g4
    refine ⟨a1, a4, _, _, rfl, rfl, (((s2.trans s3).trans s4)) _ _ upd_same, upd_same, szOk (by rw [flat_one, List.length_replicate]; show 1 + _ ≤ _; omega), fun a5 g5 => ?_⟩
    have s5 := same_upd (o := .lst ([.ref (sa[0]'(by omega))] ++ (List.replicate ((n : Int) - 1).toNat [V.ref a2]).flatten)) g5
    refine ⟨a5, _, rfl, .inl ⟨SqL.of upd_same, fun a6 g6 => ?_⟩⟩
    have s6 := same_upd (o := .tup ([.ref (sa[0]'(by omega))] ++ (List.replicate ((n : Int) - 1).toNat [V.ref a2]).flatten)) g6
    have s16 := ((((s1.trans s2).trans s3).trans s4).trans s5).trans s6
    refine ⟨_, rfl, m, _, 1, .ref k, rfl, rfl, ssqt s16 h1, at_of (j := 1) rfl rfl, k, _, 0, _, rfl, rfl, ssqt s16 h3, at_of (j := 0) rfl gk, by show 1 ≤ sizeLine; decide, fun b1 k1 => ⟨by show 0 ≤ sizeLine; decide, fun b2 k2 => ⟨by show 1 ≤ sizeLine; decide, fun b3 k3 => ?_⟩⟩⟩
    have t1 := same_upd (o := .lst [.ref (ka[0]'(by omega))]) k1
    have t2 := same_upd (o := .tup []) k2
    have t3 := same_upd (o := .lst [.ref b2]) k3
    refine ⟨_, rfl, _, _, rfl, rfl, b3, _, _, rfl, rfl, upd_same, by omega, by omega, szOk (by show 1 * ((n : Int) - 1).toNat ≤ _; omega), fun b4 k4 => ?_⟩
    have t4 := same_upd (o := .lst (List.replicate ((n : Int) - 1).toNat [V.ref b2]).flatten) k4
    refine ⟨b1, b4, _, _, rfl, rfl, (((t2.trans t3).trans t4)) _ _ upd_same, upd_same, szOk (by rw [flat_one, List.length_replicate]; show 1 + _ ≤ _; omega), fun b5 k5 => ?_⟩
    have t5 := same_upd (o := .lst ([.ref (ka[0]'(by omega))] ++ (List.replicate ((n : Int) - 1).toNat [V.ref b2]).flatten)) k5
    refine ⟨b5, _, rfl, .inl ⟨SqL.of upd_same, fun b6 k6 => ⟨by show 2 ≤ sizeLine; decide, fun e he => ?_⟩⟩⟩
    have t6 := same_upd (o := .tup ([.ref (ka[0]'(by omega))] ++ (List.replicate ((n : Int) - 1).toNat [V.ref b2]).flatten)) k6
    have t7 := same_upd (o := .tup [.ref a6, .ref b6]) he
    have u6 := t6.trans t7
    have u5 := t5.trans u6
    have u4 := t4.trans u5
    have u3 := t3.trans u4
    have u2 := t2.trans u3
    have u1 := t1.trans u2
    have all := s16.trans u1
    have ya2 := ((((s3.trans s4).trans s5).trans s6).trans u1) _ _ (show upd _ a2 (.tup []) a2 = _ from upd_same)
    have ya6 := u1 _ _ (show upd _ a6 _ a6 = _ from upd_same)
    have yb2 := u3 _ _ (show upd _ b2 (.tup []) b2 = _ from upd_same)
    have yb6 := t7 _ _ (show upd _ b6 _ b6 = _ from upd_same)
    have es : ∀ v ∈ sa.map V.ref, ∃ t, TAt 50 K _ v t := rows_th (fun x _ => ⟨_, .int x⟩) (h4.imp fun _ _ h => ssqt all h) fun r hr => by
      have := rise_len (G.st r hr) (by omega)
      omega
    have ek : ∀ v ∈ ka.map V.ref, ∃ t, TAt 50 K _ v t := marks_th (h5.imp fun _ _ h => ssqt all h) fun r hr => ⟨(G.mr r hr).1, by have := (G.mr r hr).2; omega⟩
    obtain ⟨t, x⟩ : ∃ t, TAt 50 K _ (.ref e) t := TAt.mk (xs := [.ref a6, .ref b6]) (SqT.of upd_same) (by show 2 ≤ 50; decide) fun v hv => by
      rcases List.mem_cons.mp hv with rfl | hv
      · refine TAt.mk (SqT.of ya6) (by rw [flat_one, List.length_append, List.length_replicate]; show 1 + _ ≤ _; omega) fun v hv => ?_
        rcases List.mem_append.mp hv with hv | hv
        · rw [List.mem_singleton.mp hv]
          exact es _ (List.mem_of_getElem? gs)
        · rw [flat_one] at hv
          rw [(List.mem_replicate.mp hv).2]
          exact TAt.mk (SqT.of ya2) (by show 0 ≤ 50; decide) fun _ h => absurd h List.not_mem_nil
      · rw [List.mem_singleton.mp hv]
        refine TAt.mk (SqT.of yb6) (by rw [flat_one, List.length_append, List.length_replicate]; show 1 + _ ≤ _; omega) fun v hv => ?_
        rcases List.mem_append.mp hv with hv | hv
        · rw [List.mem_singleton.mp hv]
          exact ek _ (List.mem_of_getElem? gk)
        · rw [flat_one] at hv
          rw [(List.mem_replicate.mp hv).2]
          exact TAt.mk (SqT.of yb2) (by show 0 ≤ 50; decide) fun _ h => absurd h List.not_mem_nil
    exact q _ _ t all x
def spLaw (K : PySem.W.Frag) : Sp := fun vs H Q _ => ∃ (l : Addr) (ns : List Int), vs = [.ref l] ∧ SqL K H l (ns.map V.int) ∧ ns.length ≤ 63 ∧ ∀ H', Q (.bl true) H'
theorem ok_law {f : Addr} {fd : FuncData} (F : Fun K "law" "law" slaw f fd) (T : Bi mg) (S : XSet K mg "NoMachine" "NoWishes" "NoPaper") (c_law_pool : Cal P w K mg base 1 "_law_pool" ["_law_script"] (spPool K)) (c_law_draw : Cal P w K mg base 1 "_law_draw" ["_law_pool_here", "_law_many_here"] spDraw)
    (c_law_names : Cal P w K mg base 3 "_law_names" ["_law_pool_here", "_law_many_here"] spLNames) (c_law_machine : Cal P w K mg base 2 "_law_machine" ["_law_pool_here", "_law_names_here", "_law_most"] (spLMach K)) (c_law_many : Cal P w K mg base 1 "_law_many" ["_law_machine_here", "_law_many_here"] (spMany K)) (c_law_bent : Cal P w K mg base 7 "_law_bent" ["_law_pool_here", "_law_thing", "_law_deep"] (spB K 5)) (c_law_is_machine : Cal P w K mg base 3 "_law_is_machine" ["_law_thing"] (spMachT K))
    (ccheck : CalX P w K mg base 5 "check" ["thing"] (spCk K S.R)) (c_law_refused_by_base : Cal P w K mg base 6 "_law_refused_by_base" ["_law_thing"] (spRef K machB)) :
    FnOk P w K mg base CX0 8 f fd ["_law_script"] (spLaw K) := by
  have xNoMachine := S.xR
  refine F.ok sclaw (fun vs H Q E h => ?_) (fun cdv A outer s H vs Q E hr h => ?_)
  · obtain ⟨l, ns, rfl, _⟩ := h
    rfl
  · obtain ⟨l, ns, rfl, hS, hlen, q⟩ := h
    refine ⟨_, (pss_cons (ps_set (i := 1) sclaw.nd rfl (.inl rfl) (pe_call c_law_pool.G (hr.mono (by decide)) (by rfl) c_law_pool.g c_law_pool.kp c_law_pool.b .nil pass0 (pa_cons (pv 0) pa_nil)))
      (pss_cons (ps_set (i := 2) sclaw.nd rfl (.inl rfl) (pe_cmpR op_eq (pe_call c_law_draw.G (hr.mono (by decide)) (by rfl) c_law_draw.g c_law_draw.kp c_law_draw.b .nil pass0 (pa_cons (pv 1) (pa_cons pe_int pa_nil))) pe_int (nomark _)))
      (pss_cons (ps_set (i := 3) sclaw.nd rfl (.inl rfl) (pe_call c_law_draw.G (hr.mono (by decide)) (by rfl) c_law_draw.g c_law_draw.kp c_law_draw.b .nil pass0 (pa_cons (pv 1) (pa_cons pe_int pa_nil))))
      (pss_cons (ps_set (i := 4) sclaw.nd rfl (.inl rfl) (pe_call c_law_names.G (hr.mono (by decide)) (by rfl) c_law_names.g c_law_names.kp c_law_names.b .nil pass0 (pa_cons (pv 1) (pa_cons (pe_ix ix_list (pe_lst (pa_cons pe_int (pa_cons pe_int (pa_cons pe_int (pa_cons pe_int (pa_cons pe_int (pa_cons pe_int pa_nil))))))) (pe_call c_law_draw.G (hr.mono (by decide)) (by rfl) c_law_draw.g c_law_draw.kp c_law_draw.b .nil pass0 (pa_cons (pv 1) (pa_cons pe_int pa_nil))) (fun _ _ => rfl)) pa_nil))))
      (pss_cons (ps_set (i := 5) sclaw.nd rfl (.inl rfl) (pe_call c_law_machine.G (hr.mono (by decide)) (by rfl) c_law_machine.g c_law_machine.kp c_law_machine.b .nil pass0 (pa_cons (pv 1) (pa_cons (pv 4) (pa_cons pe_int pa_nil)))))
      (Evl.pss_cut (ps_if (pt_cmpR op_eq (pv 3) pe_int (nomark _))
        (pss_one (ps_set (i := 5) sclaw.nd rfl (.inl rfl) (pe_call c_law_many.G (hr.mono (by decide)) (by rfl) c_law_many.g c_law_many.kp c_law_many.b .nil pass0 (pa_cons (pv 5) (pa_cons (pe_op op_add pe_int (pe_call c_law_draw.G (hr.mono (by decide)) (by rfl) c_law_draw.g c_law_draw.kp c_law_draw.b .nil pass0 (pa_cons (pv 1) (pa_cons pe_int pa_nil)))) pa_nil)))))
        pss_nil)
      (Evl.pss_cut (ps_if (pt_not (pt_val (pv 2)))
        (pss_one (ps_set (i := 5) sclaw.nd rfl (.inl rfl) (pe_call c_law_bent.G hr (by rfl) c_law_bent.g c_law_bent.kp c_law_bent.b .nil pass0 (pa_cons (pv 1) (pa_cons (pv 5) (pa_cons pe_int pa_nil))))))
        pss_nil)
      (pss_cons (ps_set (i := 6) sclaw.nd rfl (.inl rfl) (pe_call c_law_is_machine.G (hr.mono (by decide)) (by rfl) c_law_is_machine.g c_law_is_machine.kp c_law_is_machine.b .nil pass0 (pa_cons (pv 5) pa_nil)))
      (pss_cons (ps_set (i := 7) sclaw.nd rfl (.inl rfl) pe_non)
      (pss_cons (ps_set (i := 8) sclaw.nd rfl (.inl rfl) pe_bl)
      (pss_cons (ps_try_only rfl rfl ⟨rfl, by decide, .inl xNoMachine.g⟩ takes0 (fun W pn xe tk _ => (pss_one (ps_set (i := 7) sclaw.nd rfl (.inl rfl) (pe_callS ccheck.G (hr.mono (by decide)) (by rfl) ccheck.g ccheck.kp ccheck.b (fun σ => passAt tk σ) (pa_cons (pv 5) pa_nil))))) (fun a oe cls d pn hz hf => (pss_one (ps_set (i := 8) sclaw.nd rfl (.inl rfl) pe_bl))))
      (pss_cons (ps_if (pt_val (pv 6))
        (pss_one (ps_ret (pe_and (pe_cmpR op_is_bl (pv 7) pe_bl (nomark _)) (pe_one (pe_not (pv 8))))))
        pss_nil)
      (pss_one (ps_ret (pe_and (pv 8) (pe_one (pe_call c_law_refused_by_base.G (hr.mono (by decide)) (by rfl) c_law_refused_by_base.g c_law_refused_by_base.kp c_law_refused_by_base.b .nil pass0 (pa_cons (pv 5) pa_nil)))))))))))))))))), ?_⟩
    refine ⟨_, rfl, l, ns, rfl, hS, hlen, fun H1 PL s1 P1 => ?_⟩
    refine ⟨_, rfl, PL, 0, 5, rfl, P1, by decide, by decide, by decide, fun H2 a _ _ P2 _ => ⟨rfl, ?_⟩⟩
    refine ⟨_, rfl, PL, _, 8, rfl, P2, by decide, by decide, by decide, fun H3 far _ _ P3 _ => ?_⟩
    generalize decide (V.int a = V.int 0) = whole
    refine ⟨_, rfl, by show 6 ≤ sizeLine; decide, fun d hd => ⟨_, rfl, PL, _, 6, rfl, P3.same (same_upd hd), by decide, by decide, by decide, fun H4 r r0 r1 P4 K4 => ?_⟩⟩
    obtain ⟨n, hn, n8⟩ : ∃ n : Nat, atI [V.int 1, .int 2, .int 3, .int 2, .int 3, .int 8] r = some (.int n) ∧ n ≤ 8 := by
      have : r = 0 ∨ r = 1 ∨ r = 2 ∨ r = 3 ∨ r = 4 ∨ r = 5 := by omega
      rcases this with rfl | rfl | rfl | rfl | rfl | rfl
      · exact ⟨1, rfl, by decide⟩
      · exact ⟨2, rfl, by decide⟩
      · exact ⟨3, rfl, by decide⟩
      · exact ⟨2, rfl, by decide⟩
      · exact ⟨3, rfl, by decide⟩
      · exact ⟨8, rfl, by decide⟩
    refine ⟨d, _, _, _, rfl, rfl, SqL.of (K4 _ _ upd_same (P3.off hd)), hn, PL, _, n, rfl, P4, by decide, by omega, fun H5 ln zs P5 _ hl5 ol5 nz gz lz => ?_⟩
    have lz : zs.length = n := lz
    refine ⟨_, rfl, _, rfl, PL, _, ln, zs, 5, rfl, P5, by omega, hl5, ol5, nz, gz, by omega, by decide, by decide, fun H6 m steps marks P6 K6 M G l5 => ?_⟩
    refine ⟨fun σ H' => ∃ (v : V) (t : Th), σ = [some (.ref l), some (.ref PL.p), some (.bl whole), some (.int far), some (.ref ln), some v, none, none, none] ∧ Pool H' PL 500 ∧ TAt 50 K H' v t, ?_, ?_⟩
    · refine ⟨_, rfl, rfl, _, rfl, ite2 (fun e => ?_) (fun e => ?_)⟩
      · refine ⟨_, rfl, _, rfl, PL, _, 2, rfl, P6, by omega, by decide, by decide, fun H7 y y0 y1 P7 K7 => ?_⟩
        obtain ⟨y, rfl⟩ : ∃ j : Nat, y = (j : Int) := ⟨y.toNat, by omega⟩
        exact ⟨_, _, rfl, rfl, m, steps, marks, 40 + y, rfl, M.imm (P6.imm K7), G, by omega, fun H8 v t s8 x => ⟨v, t, rfl, (P7.same s8).mono (by omega), x⟩⟩
      · obtain ⟨t, x⟩ := mach_th M G
        exact ⟨_, t, rfl, P6.mono (by omega), x⟩
    rintro σ H7 ⟨v0, t0, rfl, P7, x0⟩
    refine ⟨fun σ H' => ∃ (v : V) (t : Th) (N : Nat), σ = [some (.ref l), some (.ref PL.p), some (.bl whole), some (.int far), some (.ref ln), some v, none, none, none] ∧ TAt N K H' v t, ?_, ?_⟩
    · refine ⟨_, rfl, _, rfl, ?_⟩
      cases whole with
      | true => exact iteF ⟨_, t0, 50, rfl, x0⟩
      | false => exact iteT ⟨_, rfl, _, rfl, PL, 500, 50, _, t0, 4, rfl, P7, by decide, by decide, by decide, x0, by decide, by decide, by decide, fun H9 v' t' _ _ x' => ⟨v', t', 51, rfl, x'⟩⟩
    rintro σ H9 ⟨v, t, N, rfl, x⟩
    refine ⟨_, rfl, v, t, N, rfl, x, fun H10 s10 => ?_⟩
    have x10 := x.same s10
    refine ⟨_, rfl, v, t, N, rfl, x10, fun hg H11 s11 => ?_, fun hb H11 s11 => ⟨true, xNoMachine.exm S.r.s, fun _ a ha => ?_, fun q => Bool.noConfusion q⟩⟩
    · refine ⟨_, rfl, _, rfl, ?_⟩
      rw [hg]
      exact iteT ⟨_, rfl, _, _, rfl, rfl, true, rfl, iteT ⟨_, rfl, _, rfl, q _⟩⟩
    · refine ⟨_, rfl, _, rfl, ?_⟩
      rw [hb]
      exact iteF ⟨_, rfl, true, rfl, iteT ⟨_, rfl, v, t, N, rfl, x10.same s11, hb, fun H' => q H'⟩⟩
end

/-! ### what the top has written; the law's own head -/
theorem all_mk {l : PySem.W.OpenLaw} {w : World} {K : PySem.W.Frag} {h : Heap} {mg : Str → Option Value} {fa f1 f2 f3 f4 f5 f6 f7 f8 f9 f10 f11 f12 f13 f14 f15 f16 f17 f18 f19 f20 f21 f22 f23 : Addr} (X : K.In h) (G : h.Ns mainGlobals mg) (hfa : mg "law" = some (.ref fa))
    {od1 an1 od2 an2 od3 an3 od4 an4 od5 an5 od6 an6 od7 an7 od8 an8 od9 an9 od10 an10 od11 an11 od12 an12 od13 an13 od14 an14 od15 an15 od16 an16 od17 an17 od18 an18 od19 an19 od20 an20 od21 an21 od22 an22 od23 an23 : Option Addr} {sl1 sl2 sl3 sl4 sl5 sl6 sl7 sl8 sl9 sl10 sl11 sl12 sl13 sl14 sl15 sl16 sl17 sl18 sl19 sl20 sl21 sl22 sl23 : Array (Option Value)} {oc1 kV1 dc1 pm1 cd1 ct1 oc2 kV2 dc2 pm2 cd2 ct2 oc3 kV3 dc3 pm3 cd3 ct3 oc4 kV4 dc4 pm4 cd4 ct4 oc5 kV5 dc5 pm5 cd5 ct5 oc6 kV6 dc6 pm6 cd6 ct6 oc7 kV7 dc7 pm7 cd7 ct7 oc8 kV8 dc8 pm8 cd8 ct8 oc9 kV9 dc9 pm9 cd9 ct9 oc10 kV10 dc10 pm10 cd10 ct10 oc11 kV11 dc11 pm11 cd11 ct11 oc12 kV12 dc12 pm12 cd12 ct12 oc13 kV13 dc13 pm13 cd13 ct13 oc14 kV14 dc14 pm14 cd14 ct14 oc15 kV15 dc15 pm15 cd15 ct15 oc16 kV16 dc16 pm16 cd16 ct16 oc17 kV17 dc17 pm17 cd17 ct17 oc18 kV18 dc18 pm18 cd18 ct18 oc19 kV19 dc19 pm19 cd19 ct19 oc20 kV20 dc20 pm20 cd20 ct20 oc21 kV21 dc21 pm21 cd21 ct21 oc22 kV22 dc22 pm22 cd22 ct22 oc23 kV23 dc23 pm23 cd23 ct23 : Value}
    (a1 : PySem.W.nsIn K mainGlobals "is_whole" = some (some (.ref f1))) (l1 : K.lookup f1 = some ⟨oc1, od1, .func (PySem.W.fnOf "is_whole" "is_whole" (defArgs sis_whole) (defBody sis_whole) (defScope sis_whole) .none kV1 dc1 pm1 an1 cd1 ct1), sl1⟩) (c1 : PySem.W.codeIn K cd1 "is_whole" = true) (k1 : PySem.W.keepIn K (.ref f1) = true)
    (a2 : PySem.W.nsIn K mainGlobals "is_number" = some (some (.ref f2))) (l2 : K.lookup f2 = some ⟨oc2, od2, .func (PySem.W.fnOf "is_number" "is_number" (defArgs sis_number) (defBody sis_number) (defScope sis_number) .none kV2 dc2 pm2 an2 cd2 ct2), sl2⟩) (c2 : PySem.W.codeIn K cd2 "is_number" = true) (k2 : PySem.W.keepIn K (.ref f2) = true)
    (a3 : PySem.W.nsIn K mainGlobals "is_row" = some (some (.ref f3))) (l3 : K.lookup f3 = some ⟨oc3, od3, .func (PySem.W.fnOf "is_row" "is_row" (defArgs sis_row) (defBody sis_row) (defScope sis_row) .none kV3 dc3 pm3 an3 cd3 ct3), sl3⟩) (c3 : PySem.W.codeIn K cd3 "is_row" = true) (k3 : PySem.W.keepIn K (.ref f3) = true)
    (a4 : PySem.W.nsIn K mainGlobals "is_name" = some (some (.ref f4))) (l4 : K.lookup f4 = some ⟨oc4, od4, .func (PySem.W.fnOf "is_name" "is_name" (defArgs sis_name) (defBody sis_name) (defScope sis_name) .none kV4 dc4 pm4 an4 cd4 ct4), sl4⟩) (c4 : PySem.W.codeIn K cd4 "is_name" = true) (k4 : PySem.W.keepIn K (.ref f4) = true)
    (a5 : PySem.W.nsIn K mainGlobals "is_set" = some (some (.ref f5))) (l5 : K.lookup f5 = some ⟨oc5, od5, .func (PySem.W.fnOf "is_set" "is_set" (defArgs sis_set) (defBody sis_set) (defScope sis_set) .none kV5 dc5 pm5 an5 cd5 ct5), sl5⟩) (c5 : PySem.W.codeIn K cd5 "is_set" = true) (k5 : PySem.W.keepIn K (.ref f5) = true)
    (a6 : PySem.W.nsIn K mainGlobals "are_names" = some (some (.ref f6))) (l6 : K.lookup f6 = some ⟨oc6, od6, .func (PySem.W.fnOf "are_names" "are_names" (defArgs sare_names) (defBody sare_names) (defScope sare_names) .none kV6 dc6 pm6 an6 cd6 ct6), sl6⟩) (c6 : PySem.W.codeIn K cd6 "are_names" = true) (k6 : PySem.W.keepIn K (.ref f6) = true)
    (a7 : PySem.W.nsIn K mainGlobals "is_machine" = some (some (.ref f7))) (l7 : K.lookup f7 = some ⟨oc7, od7, .func (PySem.W.fnOf "is_machine" "is_machine" (defArgs sis_machine) (defBody sis_machine) (defScope sis_machine) .none kV7 dc7 pm7 an7 cd7 ct7), sl7⟩) (c7 : PySem.W.codeIn K cd7 "is_machine" = true) (k7 : PySem.W.keepIn K (.ref f7) = true)
    (a8 : PySem.W.nsIn K mainGlobals "check" = some (some (.ref f8))) (l8 : K.lookup f8 = some ⟨oc8, od8, .func (PySem.W.fnOf "check" "check" (defArgs scheck) (defBody scheck) (defScope scheck) .none kV8 dc8 pm8 an8 cd8 ct8), sl8⟩) (c8 : PySem.W.codeIn K cd8 "check" = true) (k8 : PySem.W.keepIn K (.ref f8) = true)
    (a9 : PySem.W.nsIn K mainGlobals "_law_pool" = some (some (.ref f9))) (l9 : K.lookup f9 = some ⟨oc9, od9, .func (PySem.W.fnOf "_law_pool" "_law_pool" (defArgs s_law_pool) (defBody s_law_pool) (defScope s_law_pool) .none kV9 dc9 pm9 an9 cd9 ct9), sl9⟩) (c9 : PySem.W.codeIn K cd9 "_law_pool" = true) (k9 : PySem.W.keepIn K (.ref f9) = true)
    (a10 : PySem.W.nsIn K mainGlobals "_law_draw" = some (some (.ref f10))) (l10 : K.lookup f10 = some ⟨oc10, od10, .func (PySem.W.fnOf "_law_draw" "_law_draw" (defArgs s_law_draw) (defBody s_law_draw) (defScope s_law_draw) .none kV10 dc10 pm10 an10 cd10 ct10), sl10⟩) (c10 : PySem.W.codeIn K cd10 "_law_draw" = true) (k10 : PySem.W.keepIn K (.ref f10) = true)
    (a11 : PySem.W.nsIn K mainGlobals "_law_name" = some (some (.ref f11))) (l11 : K.lookup f11 = some ⟨oc11, od11, .func (PySem.W.fnOf "_law_name" "_law_name" (defArgs s_law_name) (defBody s_law_name) (defScope s_law_name) .none kV11 dc11 pm11 an11 cd11 ct11), sl11⟩) (c11 : PySem.W.codeIn K cd11 "_law_name" = true) (k11 : PySem.W.keepIn K (.ref f11) = true)
    (a12 : PySem.W.nsIn K mainGlobals "_law_names" = some (some (.ref f12))) (l12 : K.lookup f12 = some ⟨oc12, od12, .func (PySem.W.fnOf "_law_names" "_law_names" (defArgs s_law_names) (defBody s_law_names) (defScope s_law_names) .none kV12 dc12 pm12 an12 cd12 ct12), sl12⟩) (c12 : PySem.W.codeIn K cd12 "_law_names" = true) (k12 : PySem.W.keepIn K (.ref f12) = true)
    (a13 : PySem.W.nsIn K mainGlobals "_law_machine" = some (some (.ref f13))) (l13 : K.lookup f13 = some ⟨oc13, od13, .func (PySem.W.fnOf "_law_machine" "_law_machine" (defArgs s_law_machine) (defBody s_law_machine) (defScope s_law_machine) .none kV13 dc13 pm13 an13 cd13 ct13), sl13⟩) (c13 : PySem.W.codeIn K cd13 "_law_machine" = true) (k13 : PySem.W.keepIn K (.ref f13) = true)
    (a14 : PySem.W.nsIn K mainGlobals "_law_odd" = some (some (.ref f14))) (l14 : K.lookup f14 = some ⟨oc14, od14, .func (PySem.W.fnOf "_law_odd" "_law_odd" (defArgs s_law_odd) (defBody s_law_odd) (defScope s_law_odd) .none kV14 dc14 pm14 an14 cd14 ct14), sl14⟩) (c14 : PySem.W.codeIn K cd14 "_law_odd" = true) (k14 : PySem.W.keepIn K (.ref f14) = true)
    (a15 : PySem.W.nsIn K mainGlobals "_law_bent" = some (some (.ref f15))) (l15 : K.lookup f15 = some ⟨oc15, od15, .func (PySem.W.fnOf "_law_bent" "_law_bent" (defArgs s_law_bent) (defBody s_law_bent) (defScope s_law_bent) .none kV15 dc15 pm15 an15 cd15 ct15), sl15⟩) (c15 : PySem.W.codeIn K cd15 "_law_bent" = true) (k15 : PySem.W.keepIn K (.ref f15) = true)
    (a16 : PySem.W.nsIn K mainGlobals "_law_number" = some (some (.ref f16))) (l16 : K.lookup f16 = some ⟨oc16, od16, .func (PySem.W.fnOf "_law_number" "_law_number" (defArgs s_law_number) (defBody s_law_number) (defScope s_law_number) .none kV16 dc16 pm16 an16 cd16 ct16), sl16⟩) (c16 : PySem.W.codeIn K cd16 "_law_number" = true) (k16 : PySem.W.keepIn K (.ref f16) = true)
    (a17 : PySem.W.nsIn K mainGlobals "_law_tuple" = some (some (.ref f17))) (l17 : K.lookup f17 = some ⟨oc17, od17, .func (PySem.W.fnOf "_law_tuple" "_law_tuple" (defArgs s_law_tuple) (defBody s_law_tuple) (defScope s_law_tuple) .none kV17 dc17 pm17 an17 cd17 ct17), sl17⟩) (c17 : PySem.W.codeIn K cd17 "_law_tuple" = true) (k17 : PySem.W.keepIn K (.ref f17) = true)
    (a18 : PySem.W.nsIn K mainGlobals "_law_good_set" = some (some (.ref f18))) (l18 : K.lookup f18 = some ⟨oc18, od18, .func (PySem.W.fnOf "_law_good_set" "_law_good_set" (defArgs s_law_good_set) (defBody s_law_good_set) (defScope s_law_good_set) .none kV18 dc18 pm18 an18 cd18 ct18), sl18⟩) (c18 : PySem.W.codeIn K cd18 "_law_good_set" = true) (k18 : PySem.W.keepIn K (.ref f18) = true)
    (a19 : PySem.W.nsIn K mainGlobals "_law_good_name" = some (some (.ref f19))) (l19 : K.lookup f19 = some ⟨oc19, od19, .func (PySem.W.fnOf "_law_good_name" "_law_good_name" (defArgs s_law_good_name) (defBody s_law_good_name) (defScope s_law_good_name) .none kV19 dc19 pm19 an19 cd19 ct19), sl19⟩) (c19 : PySem.W.codeIn K cd19 "_law_good_name" = true) (k19 : PySem.W.keepIn K (.ref f19) = true)
    (a20 : PySem.W.nsIn K mainGlobals "_law_is_machine" = some (some (.ref f20))) (l20 : K.lookup f20 = some ⟨oc20, od20, .func (PySem.W.fnOf "_law_is_machine" "_law_is_machine" (defArgs s_law_is_machine) (defBody s_law_is_machine) (defScope s_law_is_machine) .none kV20 dc20 pm20 an20 cd20 ct20), sl20⟩) (c20 : PySem.W.codeIn K cd20 "_law_is_machine" = true) (k20 : PySem.W.keepIn K (.ref f20) = true)
    (a21 : PySem.W.nsIn K mainGlobals "_law_refused_by_base" = some (some (.ref f21))) (l21 : K.lookup f21 = some ⟨oc21, od21, .func (PySem.W.fnOf "_law_refused_by_base" "_law_refused_by_base" (defArgs s_law_refused_by_base) (defBody s_law_refused_by_base) (defScope s_law_refused_by_base) .none kV21 dc21 pm21 an21 cd21 ct21), sl21⟩) (c21 : PySem.W.codeIn K cd21 "_law_refused_by_base" = true) (k21 : PySem.W.keepIn K (.ref f21) = true)
    (a22 : PySem.W.nsIn K mainGlobals "_law_many" = some (some (.ref f22))) (l22 : K.lookup f22 = some ⟨oc22, od22, .func (PySem.W.fnOf "_law_many" "_law_many" (defArgs s_law_many) (defBody s_law_many) (defScope s_law_many) .none kV22 dc22 pm22 an22 cd22 ct22), sl22⟩) (c22 : PySem.W.codeIn K cd22 "_law_many" = true) (k22 : PySem.W.keepIn K (.ref f22) = true)
    (a23 : PySem.W.nsIn K mainGlobals "law" = some (some (.ref f23))) (l23 : K.lookup f23 = some ⟨oc23, od23, .func (PySem.W.fnOf "law" "law" (defArgs slaw) (defBody slaw) (defScope slaw) .none kV23 dc23 pm23 an23 cd23 ct23), sl23⟩) (c23 : PySem.W.codeIn K cd23 "law" = true) (k23 : PySem.W.keepIn K (.ref f23) = true)
    (z_ValueError : PySem.W.nsIn K mainGlobals "ValueError" = some none)
    (z_len : PySem.W.nsIn K mainGlobals "len" = some none)
    (z_range : PySem.W.nsIn K mainGlobals "range" = some none)
    (z_isinstance : PySem.W.nsIn K mainGlobals "isinstance" = some none)
    (z_int : PySem.W.nsIn K mainGlobals "int" = some none)
    (z_tuple : PySem.W.nsIn K mainGlobals "tuple" = some none)
    (z_bool : PySem.W.nsIn K mainGlobals "bool" = some none)
    (z_str : PySem.W.nsIn K mainGlobals "str" = some none)
    (z_list : PySem.W.nsIn K mainGlobals "list" = some none)
    (z_sorted : PySem.W.nsIn K mainGlobals "sorted" = some none)
    {aWORDS : Addr} {odWORDS : Option Addr} {itsWORDS : Array Value} {nWORDS : Nat} {slWORDS : Array (Option Value)} (gWORDS : PySem.W.nsIn K mainGlobals "WORDS" = some (some (.ref aWORDS))) (lWORDS : K.lookup aWORDS = some ⟨.type "tuple", odWORDS, .seq itsWORDS nWORDS, slWORDS⟩) (sWORDS : itsWORDS.size ≤ sizeLine) (vWORDS : Vals (wordsL.map V.str) itsWORDS.toList)
    {uLETTERS : Value} (gLETTERS : PySem.W.nsIn K mainGlobals "LETTERS" = some (some uLETTERS)) (rLETTERS : RelV (.str lettersS) uLETTERS)
    {xcNoMachine : Addr} (gXNoMachine : PySem.W.nsIn K mainGlobals "NoMachine" = some (some (.ref xcNoMachine))) (kXNoMachine : PySem.W.keepIn K (.ref xcNoMachine) = true) (bXNoMachine : PySem.W.subIn K (.ref xcNoMachine) (.type "BaseException") = some true) (tXNoMachine : PySem.W.typeIn K (.ref xcNoMachine) = some (.type "type")) (hXNoMachine : PySem.W.hasDictIn K xcNoMachine = true)
    {xcTreeError : Addr} (gXTreeError : PySem.W.nsIn K mainGlobals "TreeError" = some (some (.ref xcTreeError))) (kXTreeError : PySem.W.keepIn K (.ref xcTreeError) = true) (bXTreeError : PySem.W.subIn K (.ref xcTreeError) (.type "BaseException") = some true) (tXTreeError : PySem.W.typeIn K (.ref xcTreeError) = some (.type "type")) (hXTreeError : PySem.W.hasDictIn K xcTreeError = true)
    {xcNoWishes : Addr} (gXNoWishes : PySem.W.nsIn K mainGlobals "NoWishes" = some (some (.ref xcNoWishes))) (kXNoWishes : PySem.W.keepIn K (.ref xcNoWishes) = true) (bXNoWishes : PySem.W.subIn K (.ref xcNoWishes) (.type "BaseException") = some true) (tXNoWishes : PySem.W.typeIn K (.ref xcNoWishes) = some (.type "type")) (hXNoWishes : PySem.W.hasDictIn K xcNoWishes = true)
    {xcNoPaper : Addr} (gXNoPaper : PySem.W.nsIn K mainGlobals "NoPaper" = some (some (.ref xcNoPaper))) (kXNoPaper : PySem.W.keepIn K (.ref xcNoPaper) = true) (bXNoPaper : PySem.W.subIn K (.ref xcNoPaper) (.type "BaseException") = some true) (tXNoPaper : PySem.W.typeIn K (.ref xcNoPaper) = some (.type "type")) (hXNoPaper : PySem.W.hasDictIn K xcNoPaper = true)
    (eX : PySem.W.excIn K xcNoMachine [.type "ValueError", .type "Exception", .type "BaseException", .type "object"] "ValueError.__new__" = true)
    (e1 : PySem.W.findIn K (.ref xcNoMachine) "__getattribute__" = some (some (.builtin "BaseException.__getattribute__")))
    (e2 : PySem.W.findIn K (.ref xcNoMachine) "__getattr__" = some none)
    (e3 : PySem.W.findIn K (.ref xcNoMachine) "__class__" = some (some (.builtin "object.__class__")))
    (e4 : PySem.W.specialIn K (.builtin "object.__class__") "__get__" = some (some (.builtin "getset_descriptor.__get__")))
    (e5 : PySem.W.takesIn K (.builtin "object.__class__") = some true)
    (e6 : PySem.W.mroIn K xcNoMachine (.type "object") = some true)
    (e7 : PySem.W.subIn K (.ref xcNoMachine) (.ref xcNoMachine) = some true)
    (e8 : PySem.W.subIn K (.ref xcNoMachine) (.type "ValueError") = some true)
    (eT : PySem.W.subIn K (.ref xcNoMachine) (.ref xcTreeError) = some true)
    (eA : PySem.W.subIn K (.ref xcNoMachine) (.ref xcNoWishes) = some false)
    (eB : PySem.W.subIn K (.ref xcNoMachine) (.ref xcNoPaper) = some false)
    : ∃ fd : FuncData, (∀ (s : Shared) (v : Value), BindsTo s fd ⟨[v], []⟩ [("_law_script", v)]) ∧ ∀ base : Heap, K.In base → base.Ns mainGlobals mg → FnOk l.prog w K mg base CX0 8 fa fd ["_law_script"] (spLaw K) := by
  have e := hfa.symm.trans (PySem.W.mg_of X G a23)
  cases e
  have F1 := fun_mk (st := sis_whole) l1 c1 k1
  have F2 := fun_mk (st := sis_number) l2 c2 k2
  have F3 := fun_mk (st := sis_row) l3 c3 k3
  have F4 := fun_mk (st := sis_name) l4 c4 k4
  have F5 := fun_mk (st := sis_set) l5 c5 k5
  have F6 := fun_mk (st := sare_names) l6 c6 k6
  have F7 := fun_mk (st := sis_machine) l7 c7 k7
  have F8 := fun_mk (st := scheck) l8 c8 k8
  have F9 := fun_mk (st := s_law_pool) l9 c9 k9
  have F10 := fun_mk (st := s_law_draw) l10 c10 k10
  have F11 := fun_mk (st := s_law_name) l11 c11 k11
  have F12 := fun_mk (st := s_law_names) l12 c12 k12
  have F13 := fun_mk (st := s_law_machine) l13 c13 k13
  have F14 := fun_mk (st := s_law_odd) l14 c14 k14
  have F15 := fun_mk (st := s_law_bent) l15 c15 k15
  have F16 := fun_mk (st := s_law_number) l16 c16 k16
  have F17 := fun_mk (st := s_law_tuple) l17 c17 k17
  have F18 := fun_mk (st := s_law_good_set) l18 c18 k18
  have F19 := fun_mk (st := s_law_good_name) l19 c19 k19
  have F20 := fun_mk (st := s_law_is_machine) l20 c20 k20
  have F21 := fun_mk (st := s_law_refused_by_base) l21 c21 k21
  have F22 := fun_mk (st := s_law_many) l22 c22 k22
  have F23 := fun_mk (st := slaw) l23 c23 k23
  have b1 := F1.binds (ps := ["thing"]) fun _ _ _ _ _ _ us hl => match us, hl with | [_], _ => rfl
  have b2 := F2.binds (ps := ["thing", "low", "high"]) fun _ _ _ _ _ _ us hl => match us, hl with | [_, _, _], _ => rfl
  have b3 := F3.binds (ps := ["thing", "least", "most"]) fun _ _ _ _ _ _ us hl => match us, hl with | [_, _, _], _ => rfl
  have b4 := F4.binds (ps := ["thing"]) fun _ _ _ _ _ _ us hl => match us, hl with | [_], _ => rfl
  have b5 := F5.binds (ps := ["thing", "many"]) fun _ _ _ _ _ _ us hl => match us, hl with | [_, _], _ => rfl
  have b6 := F6.binds (ps := ["thing", "most"]) fun _ _ _ _ _ _ us hl => match us, hl with | [_, _], _ => rfl
  have b7 := F7.binds (ps := ["thing"]) fun _ _ _ _ _ _ us hl => match us, hl with | [_], _ => rfl
  have b8 := F8.binds (ps := ["thing"]) fun _ _ _ _ _ _ us hl => match us, hl with | [_], _ => rfl
  have b9 := F9.binds (ps := ["_law_script"]) fun _ _ _ _ _ _ us hl => match us, hl with | [_], _ => rfl
  have b10 := F10.binds (ps := ["_law_pool_here", "_law_many_here"]) fun _ _ _ _ _ _ us hl => match us, hl with | [_, _], _ => rfl
  have b11 := F11.binds (ps := ["_law_pool_here", "_law_start", "_law_taken"]) fun _ _ _ _ _ _ us hl => match us, hl with | [_, _, _], _ => rfl
  have b12 := F12.binds (ps := ["_law_pool_here", "_law_many_here"]) fun _ _ _ _ _ _ us hl => match us, hl with | [_, _], _ => rfl
  have b13 := F13.binds (ps := ["_law_pool_here", "_law_names_here", "_law_most"]) fun _ _ _ _ _ _ us hl => match us, hl with | [_, _, _], _ => rfl
  have b14 := F14.binds (ps := ["_law_pool_here"]) fun _ _ _ _ _ _ us hl => match us, hl with | [_], _ => rfl
  have b15 := F15.binds (ps := ["_law_pool_here", "_law_thing", "_law_deep"]) fun _ _ _ _ _ _ us hl => match us, hl with | [_, _, _], _ => rfl
  have b16 := F16.binds (ps := ["_law_thing", "_law_low", "_law_high"]) fun _ _ _ _ _ _ us hl => match us, hl with | [_, _, _], _ => rfl
  have b17 := F17.binds (ps := ["_law_thing", "_law_least", "_law_most"]) fun _ _ _ _ _ _ us hl => match us, hl with | [_, _, _], _ => rfl
  have b18 := F18.binds (ps := ["_law_thing", "_law_many_here"]) fun _ _ _ _ _ _ us hl => match us, hl with | [_, _], _ => rfl
  have b19 := F19.binds (ps := ["_law_thing"]) fun _ _ _ _ _ _ us hl => match us, hl with | [_], _ => rfl
  have b20 := F20.binds (ps := ["_law_thing"]) fun _ _ _ _ _ _ us hl => match us, hl with | [_], _ => rfl
  have b21 := F21.binds (ps := ["_law_thing"]) fun _ _ _ _ _ _ us hl => match us, hl with | [_], _ => rfl
  have b22 := F22.binds (ps := ["_law_machine_here", "_law_many_here"]) fun _ _ _ _ _ _ us hl => match us, hl with | [_, _], _ => rfl
  have T : Bi mg := ⟨PySem.W.mg_none_of X G z_ValueError, PySem.W.mg_none_of X G z_len, PySem.W.mg_none_of X G z_range, PySem.W.mg_none_of X G z_isinstance, PySem.W.mg_none_of X G z_int, PySem.W.mg_none_of X G z_tuple, PySem.W.mg_none_of X G z_bool, PySem.W.mg_none_of X G z_str, PySem.W.mg_none_of X G z_list, PySem.W.mg_none_of X G z_sorted⟩
  have S : XSet K mg "NoMachine" "NoWishes" "NoPaper" := ⟨xcNoMachine, xcTreeError, xcNoWishes, xcNoPaper, ⟨PySem.W.mg_of X G gXNoMachine, kXNoMachine, bXNoMachine, tXNoMachine, hXNoMachine⟩, ⟨PySem.W.mg_of X G gXTreeError, kXTreeError, bXTreeError, tXTreeError, hXTreeError⟩, ⟨PySem.W.mg_of X G gXNoWishes, kXNoWishes, bXNoWishes, tXNoWishes, hXNoWishes⟩, ⟨PySem.W.mg_of X G gXNoPaper, kXNoPaper, bXNoPaper, tXNoPaper, hXNoPaper⟩, ⟨eX, ⟨e1, e2, bXNoMachine, hXNoMachine, e3, e4, e5, e6⟩, e7, e8⟩, eT, eA, eB⟩
  have W : Wd K mg := ⟨aWORDS, uLETTERS, PySem.W.mg_of X G gWORDS, rfl, fun _ => .inr ⟨_, _, _, lWORDS, rfl, rfl, sWORDS, vWORDS⟩, PySem.W.mg_of X G gLETTERS, rLETTERS⟩
  refine ⟨PySem.W.fnOf "law" "law" (defArgs slaw) (defBody slaw) (defScope slaw) .none kV23 dc23 pm23 an23 cd23 ct23, fun s v => .of_eq rfl, fun base _ _ => ?_⟩
  have cis_whole : Cal l.prog w K mg base 1 "is_whole" ["thing"] (spWholeT K) := ⟨f1, _, ok_wholeT F1 T, PySem.W.mg_of X G a1, F1.kp, b1⟩
  have cis_number : Cal l.prog w K mg base 2 "is_number" ["thing", "low", "high"] (spNumT K) := ⟨f2, _, ok_numT F2 T cis_whole, PySem.W.mg_of X G a2, F2.kp, b2⟩
  have cis_row : Cal l.prog w K mg base 1 "is_row" ["thing", "least", "most"] (spRowT K) := ⟨f3, _, ok_rowT F3 T, PySem.W.mg_of X G a3, F3.kp, b3⟩
  have cis_name : Cal l.prog w K mg base 1 "is_name" ["thing"] (spNameT K) := ⟨f4, _, ok_nameT F4 T W, PySem.W.mg_of X G a4, F4.kp, b4⟩
  have cis_set : Cal l.prog w K mg base 3 "is_set" ["thing", "many"] (spSetT K) := ⟨f5, _, ok_setT F5 T cis_row cis_number, PySem.W.mg_of X G a5, F5.kp, b5⟩
  have care_names : Cal l.prog w K mg base 2 "are_names" ["thing", "most"] (spNamesT K) := ⟨f6, _, ok_namesT F6 cis_row cis_name, PySem.W.mg_of X G a6, F6.kp, b6⟩
  have cis_machine : Cal l.prog w K mg base 4 "is_machine" ["thing"] (spMachT K) := ⟨f7, _, ok_machT F7 T cis_row cis_set care_names, PySem.W.mg_of X G a7, F7.kp, b7⟩
  have ccheck : CalX l.prog w K mg base 5 "check" ["thing"] (spCk K S.R) := ⟨f8, _, ok_ck F8 T S cis_machine, PySem.W.mg_of X G a8, F8.kp, b8⟩
  have c_law_pool : Cal l.prog w K mg base 1 "_law_pool" ["_law_script"] (spPool K) := ⟨f9, _, ok_pool F9 , PySem.W.mg_of X G a9, F9.kp, b9⟩
  have c_law_draw : Cal l.prog w K mg base 1 "_law_draw" ["_law_pool_here", "_law_many_here"] spDraw := ⟨f10, _, ok_draw F10 T, PySem.W.mg_of X G a10, F10.kp, b10⟩
  have c_law_name : Cal l.prog w K mg base 2 "_law_name" ["_law_pool_here", "_law_start", "_law_taken"] spLName := ⟨f11, _, ok_lname F11 T c_law_draw, PySem.W.mg_of X G a11, F11.kp, b11⟩
  have c_law_names : Cal l.prog w K mg base 3 "_law_names" ["_law_pool_here", "_law_many_here"] spLNames := ⟨f12, _, ok_lnames F12 T c_law_draw c_law_name, PySem.W.mg_of X G a12, F12.kp, b12⟩
  have c_law_machine : Cal l.prog w K mg base 2 "_law_machine" ["_law_pool_here", "_law_names_here", "_law_most"] (spLMach K) := ⟨f13, _, ok_lmach F13 T c_law_draw, PySem.W.mg_of X G a13, F13.kp, b13⟩
  have c_law_odd : Cal l.prog w K mg base 2 "_law_odd" ["_law_pool_here"] (spOdd K) := ⟨f14, _, ok_odd F14 c_law_draw, PySem.W.mg_of X G a14, F14.kp, b14⟩
  have c_law_bent : Cal l.prog w K mg base 7 "_law_bent" ["_law_pool_here", "_law_thing", "_law_deep"] (spB K 5) := ⟨f15, _, ok_bent F15 T c_law_draw c_law_odd (PySem.W.mg_of X G a15) F15.kp b15 5, PySem.W.mg_of X G a15, F15.kp, b15⟩
  have c_law_number : Cal l.prog w K mg base 1 "_law_number" ["_law_thing", "_law_low", "_law_high"] (spNumT K) := ⟨f16, _, ok_lnumT F16 T, PySem.W.mg_of X G a16, F16.kp, b16⟩
  have c_law_tuple : Cal l.prog w K mg base 1 "_law_tuple" ["_law_thing", "_law_least", "_law_most"] (spRowT K) := ⟨f17, _, ok_ltupT F17 T, PySem.W.mg_of X G a17, F17.kp, b17⟩
  have c_law_good_set : Cal l.prog w K mg base 2 "_law_good_set" ["_law_thing", "_law_many_here"] (spSetT K) := ⟨f18, _, ok_lsetT F18 T c_law_tuple c_law_number, PySem.W.mg_of X G a18, F18.kp, b18⟩
  have c_law_good_name : Cal l.prog w K mg base 1 "_law_good_name" ["_law_thing"] (spNameT K) := ⟨f19, _, ok_goodT F19 T, PySem.W.mg_of X G a19, F19.kp, b19⟩
  have c_law_is_machine : Cal l.prog w K mg base 3 "_law_is_machine" ["_law_thing"] (spMachT K) := ⟨f20, _, ok_lmachT F20 T c_law_tuple c_law_good_set c_law_good_name, PySem.W.mg_of X G a20, F20.kp, b20⟩
  have c_law_refused_by_base : Cal l.prog w K mg base 6 "_law_refused_by_base" ["_law_thing"] (spRef K machB) := ⟨f21, _, ok_ref F21 T S ccheck, PySem.W.mg_of X G a21, F21.kp, b21⟩
  have c_law_many : Cal l.prog w K mg base 1 "_law_many" ["_law_machine_here", "_law_many_here"] (spMany K) := ⟨f22, _, ok_many F22 T, PySem.W.mg_of X G a22, F22.kp, b22⟩
  exact ok_law F23 T S c_law_pool c_law_draw c_law_names c_law_machine c_law_many c_law_bent c_law_is_machine ccheck c_law_refused_by_base
end Fx
open PySem PySem.W PyProof.Rows
set_option maxHeartbeats 0 in
theorem PySem.Challenge.cw_fairtrees_k02_no_machine_holds : PySem.Challenge.rw_fairtrees_k02_no_machine.Holds := by
  w_on; o_law; k_head; (case hw => w_witness2)
  k_fill
  refine L2.walk_of (l := PySem.Challenge.rw_fairtrees_k02_no_machine) (n := 63) (k := 8) (x := "_law_script") (CX := fun _ => L2.CX0) (sp := fun w => Fx.spLaw _) rfl (by decide) rfl ⟨rfl, by decide, by decide⟩ (fun w h Y => PySem.W.kIn_of Y) ?F (fun _ _ a ns hl _ hS => ⟨a, ns, rfl, hS, hl, fun _ => rfl⟩) (fun _ _ _ _ _ h => h)
  case F =>
    intro w mg fa h KX G hmg
    refine' Fx.all_mk KX G hmg ?a1 ?l1 ?c1 ?k1 ?a2 ?l2 ?c2 ?k2 ?a3 ?l3 ?c3 ?k3 ?a4 ?l4 ?c4 ?k4 ?a5 ?l5 ?c5 ?k5 ?a6 ?l6 ?c6 ?k6 ?a7 ?l7 ?c7 ?k7 ?a8 ?l8 ?c8 ?k8 ?a9 ?l9 ?c9 ?k9 ?a10 ?l10 ?c10 ?k10 ?a11 ?l11 ?c11 ?k11 ?a12 ?l12 ?c12 ?k12 ?a13 ?l13 ?c13 ?k13 ?a14 ?l14 ?c14 ?k14 ?a15 ?l15 ?c15 ?k15 ?a16 ?l16 ?c16 ?k16 ?a17 ?l17 ?c17 ?k17 ?a18 ?l18 ?c18 ?k18 ?a19 ?l19 ?c19 ?k19 ?a20 ?l20 ?c20 ?k20 ?a21 ?l21 ?c21 ?k21 ?a22 ?l22 ?c22 ?k22 ?a23 ?l23 ?c23 ?k23 ?z_ValueError ?z_len ?z_range ?z_isinstance ?z_int ?z_tuple ?z_bool ?z_str ?z_list ?z_sorted ?gWORDS ?lWORDS ?sWORDS ?vWORDS ?gLETTERS ?rLETTERS ?gXNoMachine ?kXNoMachine ?bXNoMachine ?tXNoMachine ?hXNoMachine ?gXTreeError ?kXTreeError ?bXTreeError ?tXTreeError ?hXTreeError ?gXNoWishes ?kXNoWishes ?bXNoWishes ?tXNoWishes ?hXNoWishes ?gXNoPaper ?kXNoPaper ?bXNoPaper ?tXNoPaper ?hXNoPaper ?eX ?e1 ?e2 ?e3 ?e4 ?e5 ?e6 ?e7 ?e8 ?eT ?eA ?eB
    (case a1 => k_is); (case l1 => k_is); (case c1 => k_is); (case k1 => k_is); (case a2 => k_is); (case l2 => k_is); (case c2 => k_is); (case k2 => k_is); (case a3 => k_is); (case l3 => k_is); (case c3 => k_is); (case k3 => k_is); (case a4 => k_is); (case l4 => k_is); (case c4 => k_is); (case k4 => k_is); (case a5 => k_is); (case l5 => k_is); (case c5 => k_is); (case k5 => k_is); (case a6 => k_is); (case l6 => k_is); (case c6 => k_is); (case k6 => k_is); (case a7 => k_is); (case l7 => k_is); (case c7 => k_is); (case k7 => k_is); (case a8 => k_is); (case l8 => k_is); (case c8 => k_is); (case k8 => k_is); (case a9 => k_is); (case l9 => k_is); (case c9 => k_is); (case k9 => k_is); (case a10 => k_is); (case l10 => k_is); (case c10 => k_is); (case k10 => k_is); (case a11 => k_is); (case l11 => k_is); (case c11 => k_is); (case k11 => k_is); (case a12 => k_is); (case l12 => k_is); (case c12 => k_is); (case k12 => k_is); (case a13 => k_is); (case l13 => k_is); (case c13 => k_is); (case k13 => k_is); (case a14 => k_is); (case l14 => k_is); (case c14 => k_is); (case k14 => k_is); (case a15 => k_is); (case l15 => k_is); (case c15 => k_is); (case k15 => k_is); (case a16 => k_is); (case l16 => k_is); (case c16 => k_is); (case k16 => k_is); (case a17 => k_is); (case l17 => k_is); (case c17 => k_is); (case k17 => k_is); (case a18 => k_is); (case l18 => k_is); (case c18 => k_is); (case k18 => k_is); (case a19 => k_is); (case l19 => k_is); (case c19 => k_is); (case k19 => k_is); (case a20 => k_is); (case l20 => k_is); (case c20 => k_is); (case k20 => k_is); (case a21 => k_is); (case l21 => k_is); (case c21 => k_is); (case k21 => k_is); (case a22 => k_is); (case l22 => k_is); (case c22 => k_is); (case k22 => k_is); (case a23 => k_is); (case l23 => k_is); (case c23 => k_is); (case k23 => k_is); (case z_ValueError => k_is); (case z_len => k_is); (case z_range => k_is); (case z_isinstance => k_is); (case z_int => k_is); (case z_tuple => k_is); (case z_bool => k_is); (case z_str => k_is); (case z_list => k_is); (case z_sorted => k_is); (case gWORDS => k_is); (case lWORDS => k_is); (case gLETTERS => k_is); (case gXNoMachine => k_is); (case kXNoMachine => k_is); (case bXNoMachine => k_is); (case tXNoMachine => k_is); (case hXNoMachine => k_is); (case gXTreeError => k_is); (case kXTreeError => k_is); (case bXTreeError => k_is); (case tXTreeError => k_is); (case hXTreeError => k_is); (case gXNoWishes => k_is); (case kXNoWishes => k_is); (case bXNoWishes => k_is); (case tXNoWishes => k_is); (case hXNoWishes => k_is); (case gXNoPaper => k_is); (case kXNoPaper => k_is); (case bXNoPaper => k_is); (case tXNoPaper => k_is); (case hXNoPaper => k_is)
    (case sWORDS => decide)
    (case vWORDS => repeat (first | exact .nil | refine .cons ⟨_, rfl⟩ ?_))
    (case rLETTERS => exact ⟨_, rfl⟩)
    (case eX => k_exc)
    (case e1 => first | rfl | k_is)
    (case e2 => first | rfl | k_is)
    (case e3 => first | rfl | k_is)
    (case e4 => first | rfl | k_is)
    (case e5 => first | rfl | k_is)
    (case e6 => first | rfl | k_is)
    (case e7 => first | rfl | k_is)
    (case e8 => first | rfl | k_is)
    (case eT => first | rfl | k_is)
    (case eA => first | rfl | k_is)
    (case eB => first | rfl | k_is)
